import PyProof.Rows.All
import Wide.All
import OpenK.AllK
import Wide.FinOn
import HandS.ForMost
import HandS.Conv
import HandS.Zip
import HandS.IsInst
import HandS.Wide
import HandS.Walk
import KE.KIndexOf
import KE.GoesEnum
import HandS.TupAny
import HandS.TupLe
import HandS.DictEq
import HandS.Deep
import HandS.WordsExc
import HandS.TryOnly
import HandS.ExcIs
import HandS.ExcField
import HandS.RaiseMore
import HandS.Small
import KE.KExcIs
import HandS.TupMul
import HandS.Lambda
import KE.KNest
import HandS.DictComp
import HandS.TupLen
import HandS.More
import PyProof.Rows.TupDisplay
import HandS.Style
import HandS.Iter
import HandS.DictTup
import HandS.DictSubView
import HandS.ExcInit
import OpenK.KCls
import HandS.Defaults
import PySem.Challenge.RW_groundmatch_k02_what_is_no_bench
set_option Elab.async false
set_option linter.all false
set_option maxRecDepth 100000
set_option maxHeartbeats 4000000
set_option exponentiation.threshold 4000
namespace G
open PySem
def topS (i : Nat) : Stmt := PySem.Challenge.pw_groundmatch_k02_what_is_no_bench.main.body.getD i (.Pass ⟨0, 0, 0, 0⟩)
end G

namespace G
open PySem PySem.Spec PyProof.Rows L2

section
variable {X : Cx}
theorem op_or {f : Value → Value → Sem Value} {r1 r2 : R2} (h1 : OpR X f r1) (h2 : OpR X f r2) : OpR X f (fun x y H Q => r1 x y H Q ∨ r2 x y H Q) := by
  intro pins s σ H x y v u Q I rx ry h
  rcases h with h | h
  · exact h1 pins s σ H x y v u Q I rx ry h
  · exact h2 pins s σ H x y v u Q I rx ry h
theorem cr_or {f : Value} {r1 r2 : List V → Hp → VK → Prop} (h1 : CallR X f r1) (h2 : CallR X f r2) : CallR X f (fun vs H Q => r1 vs H Q ∨ r2 vs H Q) := by
  intro pins s σ H vs us Q I r h
  rcases h with h | h
  · exact h1 pins s σ H vs us Q I r h
  · exact h2 pins s σ H vs us Q I r h

/-- sum(t) of a tuple of ints -/
def rSumT (K : PySem.W.Frag) : List V → Hp → VK → Prop := fun vs H Q => ∃ (a : Addr) (ns : List Int), vs = [V.ref a] ∧ SqT K H a (ns.map V.int) ∧ Q (.int ns.sum) H
theorem sorted_tup_ints {prog : Program} {w : World} {A : Around} {E : Value → Shared → Prop} {s : Shared} {t : Addr} {vs : List Value} {ns : List Int} {Q : Value → Shared → Prop} (ht : s.heap.IsTuple t vs.toArray) (hI : IntsAre vs ns) (h64 : vs.length < 64)
    (h : ∀ (h1 h' : Heap) (a : Addr) (out : List Value) (ns' : List Int) (ep : Nat), IntsAre out ns' → ns'.Perm ns → ns'.Pairwise (· ≤ ·) → h1.objs.size ≤ a → h'.get? a = some { cls := .type "list", data := .seq out.toArray ep } →
      (∀ b o, s.heap.get? b = some o → h1.get? b = some o) → (∀ b o, h1.get? b = some o → h'.get? b = some o) → Q (.ref a) { s with heap := h' }) :
    wpAny (model prog w) A (call (.builtin "sorted") [.ref t]) Q E s := by
  obtain ⟨o, ho, hc, n, hd⟩ := ht
  refine Calls.call_function_entry kind_sorted plain_sorted entry_sorted (args_sorted1 _) ?_
  unfold Builtin.«sorted»
  refine wpAny_bind (m := checkCount "sorted" 1 1 _) (wpAny_pure ?_)
  refine wpAny_bind (wpAny_collect_seq t (.inr rfl) ho hc hd (fun h1 hk => ?_) (by rw [List.size_toArray, sizeLine_eq]; omega))
  refine wpAny_bind (wpAny_newList ?_)
  have hoL : (h1.push (seqObj "list" vs.toArray 0)).get? h1.objs.size = some (seqObj "list" vs.toArray 0) := Heap.get?_push_size _ rfl
  refine wpAny_bind (wpAny_holding (wpAny_call_entry slot_list_sort ⟨_, hoL, rfl⟩ entry_list_sort (list_sort_tree hoL hI h64 fun out ns' a1 a2 a3 => ⟨_, rfl, ?_⟩) (args_list_sort _)))
  obtain ⟨ep, he⟩ := sortedHeap_at (vs := vs) (out := out) hoL
  refine wpAny_pure ⟨_, rfl, h h1 _ _ out.toList ns' ep a1 a2 a3 (Nat.le_refl _) he hk fun b ob hb => ?_⟩
  have hlt : b < h1.objs.size := Heap.lt_size hb
  rw [sortedHeap_old (Nat.ne_of_lt hlt) (by rw [Heap.size_push]; exact Nat.lt_succ_of_lt hlt)]
  exact Heap.get?_push_of_some _ hb
/-- sorted(t) of a tuple of ints, fewer than 64 -/
def rSortedT (K : PySem.W.Frag) : List V → Hp → VK → Prop := fun vs H Q => ∃ (a : Addr) (ns : List Int), vs = [V.ref a] ∧ SqT K H a (ns.map V.int) ∧ ns.length < 64 ∧
  ∀ (ns' : List Int) (p : Addr), ns'.Perm ns → ns'.Pairwise (· ≤ ·) → H p = none → Q (.ref p) (upd H p (.lst (ns'.map V.int)))
theorem cr_sortedT : CallR X (.builtin "sorted") (rSortedT X.K) := by
  intro pins s σ H vs us Q I r h
  obtain ⟨a, ns, rfl, hs, h64, q⟩ := h
  obtain ⟨its, rv, ht, _⟩ := I.tuple hs
  rw [Vals.ref1 r]
  have hi := rv.ints
  refine sorted_tup_ints (show s.heap.IsTuple a its.toArray from ht) hi (by rw [hi.length]; exact h64) fun h1 h' p out ns' ep e1 e2 e3 e4 e5 e6 e7 => ?_
  have I1 : Inv X pins σ H { s with heap := h1 } := I.kept (t' := s.toks) e6
  have hlen : (ns'.map V.int).length ≤ sizeLine := by rw [List.length_map, e2.length_eq]; exact small64 h64
  exact ⟨.ref _, upd H p (.lst (ns'.map V.int)), I1.laid (t' := s.toks) e7 e4 ⟨hlen, out, ep, vals_of_ints e1, e5⟩, rfl, q ns' _ e2 e3 (I1.hok.fresh e4)⟩

/-- t.index(k) of a tuple of ints, k there -/
theorem mt_tupIndexI : MtR X "tuple.index" (fun x xs H Q => ∃ p, ∃ ns : List Int, ∃ k : Int, x = .ref p ∧ xs = [.int k] ∧ SqT X.K H p (ns.map V.int) ∧ k ∈ ns ∧ Q (.int ((ns.idxOf k : Nat) : Int)) H) := by
  intro pins s σ H x xs v us Q I rx rs h
  obtain ⟨p, ns, k, rfl, rfl, hq, hk, q⟩ := h
  cases rx
  obtain ⟨u, rfl, t, rfl⟩ := vals1 rs
  obtain ⟨its, r, pl, hz⟩ := I.tuple hq
  exact PySem.SeqAt.tuple_index_ints (show s.heap.IsTuple p its.toArray from pl) r.ints hk ⟨.int _, H, I.tok _, ⟨_, rfl⟩, q⟩

/-- tuple(xs) of a list: the new tuple known by its object (it has no dict) -/
def rTupleF (K : PySem.W.Frag) : List V → Hp → VK → Prop := fun xs H Q => ∃ p ys, xs = [.ref p] ∧ SqL K H p ys ∧ ∀ (l : Addr) (ob : Obj), ob.dict = none → H l = none → Q (.ref l) (upd H l (.frz ob (.tup ys)))
theorem cr_tupleF : CallR X (.type "tuple") (rTupleF X.K) := by
  intro pins s σ H xs us Q I r h
  obtain ⟨p, ys, rfl, hq, q⟩ := h
  obtain ⟨u, rfl, rx⟩ := vals1 r
  cases rx
  obtain ⟨its, r', pl, hz⟩ := I.list hq
  have hlen := r'.length
  refine call_tuple_list pl.isList (fun h' kp => ?_) (by simp only [List.size_toArray] <;> omega)
  have I1 : Inv X pins σ H { s with heap := h' } := I.kept (t' := s.toks) kp
  refine ⟨.ref h'.objs.size, _, I1.laid (t' := s.toks) (o := .frz { cls := .type "tuple", data := .seq its.toArray } (.tup ys)) (fun b o e => Heap.get?_push_of_some _ e) (Nat.le_refl _) ⟨Heap.get?_push_size _ rfl, hz, its, r', IsTup.new _ _⟩, rfl, q _ _ rfl (I1.hok.fresh (Nat.le_refl _))⟩
/-- t.m(e, ..), t such a tuple -/
def tBMT (r : V → List V → Hp → VK → Prop) (to : TE) (t : TA) : TE := fun σ H Q => to σ H fun x H1 => (∃ p ob ys, x = .ref p ∧ H1 p = some (.frz ob (.tup ys)) ∧ ob.dict = none) ∧ t σ H1 fun xs H2 => r x xs H2 Q
theorem pe_bmT {o e : Expr} {es : List Expr} {to : TE} {t : TA} {name : Str} {apos cpos : Pos} {id : String} {r : V → List V → Hp → VK → Prop} (slot : Slot "tuple" name id) (hty : typeOf (.builtin id) = pure (.type "method_descriptor")) (hm : MtR X id r) (ho : PE X o to) (ha : PA X (e :: es) t)
    (hbase : attributeBase o name X.env (eval o X.env) = eval o X.env := by rfl)
    (hfew : ((backTo cpos (starEach (e :: es) X.env)).all (fun x => !x.1) && (backToKw cpos (keywordEach [] X.env)).all (fun x => x.1.isSome) && decide ((e :: es).length + ([] : List Keyword).length + (if ([] : List Keyword).isEmpty then 0 else 1) < 30)) = true := by rfl)
    (hline : (apos.endLine == cpos.line) = true := by rfl) (hs : starEach (e :: es) X.env = (false, eval e X.env) :: starEach es X.env := by rfl) (hplain : (backTo cpos (starEach es X.env)).any (·.1) = false := by rfl) :
    PE X (.Call (.Attribute o name apos) (e :: es) [] cpos) (tBMT r to t) := by
  refine ⟨fun pins s σ H Q I h => ?_⟩
  refine wpAny_Call_method_late hbase hfew hline rfl (thn (ho.run pins s σ H _ I h) fun v s1 ⟨x, H1, I1, r1, ty, q1⟩ => ?_)
  obtain ⟨p, ob, ys, rfl, hp, hdn⟩ := ty
  cases r1
  obtain ⟨hob, hz, its, rv, ob', e', hc, _⟩ := I1.hok p _ hp
  rw [hob] at e'
  cases e'
  refine ⟨"tuple", id, PySem.F.plainAttrs_tuple, slot, hty, ⟨ob, hob, hc⟩, fun a ea => ?_, ?_⟩
  · cases ea
    exact ⟨ob, hob, hdn⟩
  have hA := ha.run cpos pins s1 σ H1 _ I1 q1
  rw [hs] at hA ⊢
  refine Calls.callWith_builtin (by show (false || (backTo cpos (starEach es X.env)).any (·.1)) = false; rw [hplain] <;> rfl) (Calls.evalArgs_plain ?_)
  exact thn hA fun us s2 ⟨vs, H2, I2, r2, q2⟩ => hm pins s2 σ H2 (.ref p) vs _ us Q I2 rfl r2 q2

/-! zip of two sequences, lists or tuples in any mix -/
end
def SqB (k : Bool) (K : PySem.W.Frag) (H : Hp) (a : Addr) (xs : List V) : Prop := match k with | true => SqL K H a xs | false => SqT K H a xs
def ItB (k : Bool) (h : Heap) (it l : Addr) (i : Nat) : Prop := match k with | true => h.IsListIter it l i | false => h.IsTupleIter it l i
def IsB (k : Bool) (h : Heap) (l : Addr) (xs : Array Value) : Prop := match k with | true => h.IsList l xs | false => h.IsTuple l xs
def itObj (k : Bool) (l : Addr) : Obj := { cls := .type (match k with | true => "list_iterator" | false => "tuple_iterator"), data := .fields #[.ref l, .int 0 0] }
theorem sqb_at {X : Cx} {pins : List (Addr × Obj)} {σ : L2.St} {H : Hp} {s : Shared} {k : Bool} {a : Addr} {xs : List V} (I : Inv X pins σ H s) (h : SqB k X.K H a xs) : ∃ its : List Value, Vals xs its ∧ IsB k s.heap a its.toArray ∧ a < s.heap.objs.size := by
  cases k with
  | true =>
    obtain ⟨its, rv, p, _⟩ := I.list h
    exact ⟨its, rv, p.isList, p.lt⟩
  | false =>
    obtain ⟨its, rv, p, _⟩ := I.tuple h
    exact ⟨its, rv, p, p.lt⟩
theorem sqb_inj {X : Cx} {pins : List (Addr × Obj)} {σ : L2.St} {H : Hp} {s : Shared} {k : Bool} {a : Addr} {xs ys : List V} (I : Inv X pins σ H s) (h : SqB k X.K H a xs) (h' : SqB k X.K H a ys) : xs = ys := by
  cases k with
  | true => exact I.list_inj h h'
  | false => exact I.tuple_inj h h'
theorem drawsB {prog : Program} {w : World} {A : Around} (k : Bool) (hh : A.handled = none) (it l : Addr) (hne : l ≠ it) (items : Array Value) :
    Draws prog w A it [it, l] items.size (fun i v => items[i]? = some v) (fun i h => ItB k h it l i ∧ IsB k h l items) := by
  cases k with
  | true => exact Draws.list hh it l hne items
  | false => exact Draws.tuple hh it l hne items
theorem beginsB (k : Bool) (l : Addr) (items : Array Value) : Begins (.ref l) (itObj k l) fun h => IsB k h l items := by
  cases k with
  | true => exact begins_list l items
  | false => exact begins_tuple l items
theorem ItB.at {k : Bool} {h h' : Heap} {it l : Addr} {i : Nat} (x : ItB k h it l i) (e : ∀ o, h.get? it = some o → h'.get? it = some o) : ItB k h' it l i := by
  cases k with
  | true => exact Heap.IsListIter.at x e
  | false => exact Heap.IsTupleIter.at x e
theorem ItB.obj {k : Bool} {h : Heap} {it l : Addr} {i : Nat} (x : ItB k h it l i) : ∃ o, h.get? it = some o ∧ ∀ v, o.data ≠ .cell v := by
  cases k with
  | true =>
    obtain ⟨o, e, _, d⟩ := x
    exact ⟨o, e, fun v q => by rw [d] at q; cases q⟩
  | false =>
    obtain ⟨o, e, _, d⟩ := x
    exact ⟨o, e, fun v q => by rw [d] at q; cases q⟩
/-- what a zip's turn yields: a new pair of the two items at hand -/
def ItzM (j k : Bool) (K : PySem.W.Frag) (a b : Addr) : It :=
  ⟨fun i H => ∃ (xs ys : List V) (x y : V), SqB j K H a xs ∧ SqB k K H b ys ∧ xs[i]? = some x ∧ ys[i]? = some y,
    fun i H v H' => ∃ T x y, v = .ref T ∧ H T = none ∧ H' = upd H T (.tup [x, y]) ∧ (∀ xs, SqB j K H a xs → xs[i]? = some x) ∧ ∀ ys, SqB k K H b ys → ys[i]? = some y,
    fun i H => ∃ xs ys : List V, SqB j K H a xs ∧ SqB k K H b ys ∧ i ≤ xs.length ∧ i ≤ ys.length ∧ (i = xs.length ∨ i = ys.length)⟩
def iZipM (K : PySem.W.Frag) (ta : TA) : TI := fun σ H R => ta σ H fun vs H1 => ∃ j k a b xs ys, vs = [.ref a, .ref b] ∧ SqB j K H1 a xs ∧ SqB k K H1 b ys ∧ R (ItzM j k K a b) H1
end G

namespace G
open PySem PySem.Spec PyProof.Rows L2

/-! ### heaps: F the frozen part, H all -/
def del (H : Hp) (a : Addr) : Hp := fun b => if b = a then none else H b
theorem del_same {H : Hp} {a : Addr} : del H a a = none := by unfold del; rw [if_pos rfl]
theorem del_ne {H : Hp} {a b : Addr} (h : b ≠ a) : del H a b = H b := by unfold del; rw [if_neg h]
theorem del_upd_ne {H : Hp} {a p : Addr} {o : HO} (h : p ≠ a) : del (upd H p o) a = upd (del H a) p o := by
  funext b
  unfold del upd
  by_cases h1 : b = a
  · subst h1
    simp [Ne.symm h]
  · simp [h1]
theorem del_sub {H : Hp} {a : Addr} : Same (del H a) H := fun b o e => by
  by_cases h : b = a
  · rw [h, del_same] at e; cases e
  · rw [del_ne h] at e; exact e
theorem same_upd {H : Hp} {p : Addr} {o : HO} (h : H p = none) : Same H (upd H p o) := fun b x e => by
  rw [upd_ne (ne_of_none e h)]
  exact e
theorem same_updR {F H : Hp} {p : Addr} {o : HO} (e : Same F H) (h : F p = none) : Same F (upd H p o) := fun b x q => by
  rw [upd_ne (ne_of_none q h)]
  exact e b x q
theorem same_upd2 {F H : Hp} {p : Addr} {o : HO} (e : Same F H) : Same (upd F p o) (upd H p o) := fun b x q => by
  by_cases h : b = p
  · rw [h, upd_same] at q ⊢; exact q
  · rw [upd_ne h] at q ⊢; exact e b x q
theorem sub_none {F H : Hp} {p : Addr} (e : Same F H) (h : H p = none) : F p = none := e.free h

structure Ext (F H F' H' : Hp) : Prop where
  hh : Same H H'
  ff : Same F F'
  fh : Same F' H'
  fr : ∀ b, H b ≠ none → F b = none → F' b = none
  nt : ∀ b ps, F' b = some (.tbl ps) → F b = some (.tbl ps)
theorem Ext.refl {F H : Hp} (e : Same F H) : Ext F H F H := ⟨Same.refl H, Same.refl F, e, fun _ _ h => h, fun _ _ h => h⟩
theorem Ext.trans {F H F1 H1 F2 H2 : Hp} (a : Ext F H F1 H1) (b : Ext F1 H1 F2 H2) : Ext F H F2 H2 :=
  ⟨a.hh.trans b.hh, a.ff.trans b.ff, b.fh, fun c h1 h2 => b.fr c (fun z => by
    cases q : H c with
    | none => exact h1 q
    | some o => rw [a.hh c o q] at z; cases z) (a.fr c h1 h2), fun c ps h => a.nt c ps (b.nt c ps h)⟩
theorem nt_upd {F F1 : Hp} {p : Addr} {o : HO} (h : ∀ b ps, F1 b = some (.tbl ps) → F b = some (.tbl ps)) (n : ∀ ps, o ≠ .tbl ps) : ∀ b ps, upd F1 p o b = some (.tbl ps) → F b = some (.tbl ps) := fun b ps e => by
  by_cases z : b = p
  · rw [z, upd_same] at e
    exact absurd (Option.some.inj e) (n ps)
  · rw [upd_ne z] at e
    exact h b ps e
/-- a new frozen object -/
theorem Ext.new {F H F1 H1 : Hp} {p : Addr} {o : HO} (a : Ext F H F1 H1) (h : H1 p = none) (n : ∀ ps, o ≠ .tbl ps := by intro _ z; cases z) : Ext F H (upd F1 p o) (upd H1 p o) :=
  ⟨a.hh.trans (same_upd h), a.ff.trans (same_upd (sub_none a.fh h)), same_upd2 a.fh, fun b h1 h2 => by
    rw [upd_ne]
    · exact a.fr b h1 h2
    · intro z
      subst z
      exact h1 (a.hh.free h), nt_upd a.nt n⟩
/-- a new object that will change -/
theorem Ext.mut {F H F1 H1 : Hp} {p : Addr} {o : HO} (a : Ext F H F1 H1) (h : H1 p = none) : Ext F H F1 (upd H1 p o) :=
  ⟨a.hh.trans (same_upd h), a.ff, same_updR a.fh (sub_none a.fh h), a.fr, a.nt⟩
/-- it changes -/
theorem Ext.chg {F H F1 H1 : Hp} {p : Addr} {o : HO} (a : Ext F H F1 H1) (h : H p = none) (hf : F1 p = none) : Ext F H F1 (upd H1 p o) :=
  ⟨same_updR a.hh h, a.ff, same_updR a.fh hf, a.fr, a.nt⟩
/-- it is frozen -/
theorem Ext.frz {F H F1 H1 : Hp} {p : Addr} {o : HO} (a : Ext F H F1 H1) (h : H p = none) (hf : F1 p = none) (ho : H1 p = some o) (n : ∀ ps, o ≠ .tbl ps := by intro _ z; cases z) : Ext F H (upd F1 p o) H1 :=
  ⟨a.hh, a.ff.trans (same_upd hf), fun b x q => by
    by_cases z : b = p
    · rw [z, upd_same] at q; rw [z]; cases q; exact ho
    · rw [upd_ne z] at q; exact a.fh b x q, fun b h1 h2 => by
    rw [upd_ne]
    · exact a.fr b h1 h2
    · intro z
      subst z
      exact h1 h, nt_upd a.nt n⟩
/-! ### what stays when the frozen part grows -/
theorem sqT_mono {K : PySem.W.Frag} {H H' : Hp} {a : Addr} {xs : List V} (e : Same H H') (h : SqT K H a xs) : SqT K H' a xs := by
  rcases h with (h | ⟨o, h⟩) | h
  · exact .inl (.inl (e _ _ h))
  · exact .inl (.inr ⟨o, e _ _ h⟩)
  · exact .inr h
theorem sqL_mono {K : PySem.W.Frag} {H H' : Hp} {a : Addr} {xs : List V} (e : Same H H') (h : SqL K H a xs) : SqL K H' a xs := e.seq h
mutual
theorem dp_mono {K : PySem.W.Frag} {H H' : Hp} (e : Same H H') : ∀ {v : V} {d : PyData}, Dp K H v d → Dp K H' v d
  | _, _, .non => .non
  | _, _, .bl b => .bl b
  | _, _, .int i => .int i
  | _, _, .str x => .str x
  | _, _, .lst h hs => .lst (sqL_mono e h) (dpAll_mono e hs)
  | _, _, .tup h hs => .tup (sqT_mono e h) (dpAll_mono e hs)
theorem dpAll_mono {K : PySem.W.Frag} {H H' : Hp} (e : Same H H') : ∀ {vs : List V} {ds : List PyData}, DpAll K H vs ds → DpAll K H' vs ds
  | _, _, .nil => .nil
  | _, _, .cons h hs => .cons (dp_mono e h) (dpAll_mono e hs)
end

/-! ### defs of the module -/
section
variable {P : Program} {w : World} {K : PySem.W.Frag} {mg : Str → Option Value} {base : Heap}
/-- the def of a name stands in the module -/
structure FunAt (K : PySem.W.Frag) (mg : Str → Option Value) (x : Str) (st : Stmt) (ps : List Str) : Prop where
  ex : ∃ f fd, Fun K x x st f fd ∧ mg x = some (.ref f) ∧ Binds K fd ps []
/-- .. and keeps a promise -/
structure Def (P : Program) (w : World) (K : PySem.W.Frag) (mg : Str → Option Value) (base : Heap) (k : Nat) (x : Str) (ps : List Str) (sp : Sp) : Prop where
  ex : ∃ f fd, FnOk P w K mg base CX0 k f fd ps sp ∧ Binds K fd ps [] ∧ mg x = some (.ref f) ∧ PySem.W.keepIn K (.ref f) = true
theorem FunAt.def {x : Str} {st : Stmt} {N ps : List Str} {k : Nat} {sp : Sp} (F : FunAt K mg x st ps) (S : FnScope N ps (defScope st)) (len : ∀ vs H Q E, sp vs H Q E → vs.length = ps.length)
    (hbody : ∀ (f : Addr) (cdv : Value) (A : Around) (outer : List Env) (s : Shared) (H : Hp) (vs : List V) (Q : VK) (E : XK), Room k (A.deeper (envOfC x (defScope st) s.heap.objs.size f cdv)) → sp vs H Q E →
      ∃ t, PSs (cxOf CX0 P w K mg base N x (defScope st) f cdv A outer s H E).nox (defBody st) t ∧ t { nx := fun _ H' => Q .non H', rt := Q } (start N vs) H) : Def P w K mg base (k + 1) x ps sp := by
  obtain ⟨f, fd, F, m, b⟩ := F.ex
  exact ⟨f, fd, F.ok S len (hbody f), b, m, F.kp⟩
theorem Def.mono {j k : Nat} {x : Str} {ps : List Str} {sp : Sp} (D : Def P w K mg base j x ps sp) (h : j ≤ k) : Def P w K mg base k x ps sp := by
  obtain ⟨f, fd, F, b⟩ := D.ex
  exact ⟨f, fd, F.mono h, b⟩
end
section
variable {X : Cx} {k : Nat} {x : Str} {ps : List Str} {sp : Sp} {e : Expr} {es : List Expr} {t : TA} {p pos : Pos}
theorem pe_d (D : Def X.prog X.w X.K X.mg X.base k x ps sp) (hr : Room k X.A) (hg : Gl X x) (ha : PA X (e :: es) t) (hdb : (x == ("__debug__" : Str)) = false := by decide)
    (he : starEach (e :: es) X.env = (false, eval e X.env) :: starEach es X.env := by rfl) (hpl : (backTo pos (starEach es X.env)).any (·.1) = false := by rfl) :
    PE X (.Call (.Name x p) (e :: es) [] pos) (tCall sp [] E0 t) := by
  obtain ⟨f, fd, F, b, m, kp⟩ := D.ex
  exact pe_call F hr hg m kp b .nil pass0 ha hdb he hpl
end
/-- methods -/
structure MethAt (K : PySem.W.Frag) (C : Addr) (m qual : Str) (st : Stmt) (ps : List Str) : Prop where
  ex : ∃ f fd, Fun K m qual st f fd ∧ Meth K C m f ∧ Binds K fd ps []
structure DefM (P : Program) (w : World) (K : PySem.W.Frag) (mg : Str → Option Value) (base : Heap) (k : Nat) (C : Addr) (m : Str) (ps : List Str) (sp : Sp) : Prop where
  ex : ∃ f fd, FnOk P w K mg base CX0 k f fd ps sp ∧ Binds K fd ps [] ∧ Meth K C m f
theorem MethAt.def {P : Program} {w : World} {K : PySem.W.Frag} {mg : Str → Option Value} {base : Heap} {C : Addr} {m qual : Str} {st : Stmt} {N ps : List Str} {k : Nat} {sp : Sp} (F : MethAt K C m qual st ps) (S : FnScope N ps (defScope st)) (len : ∀ vs H Q E, sp vs H Q E → vs.length = ps.length)
    (hbody : ∀ (f : Addr) (cdv : Value) (A : Around) (outer : List Env) (s : Shared) (H : Hp) (vs : List V) (Q : VK) (E : XK), Room k (A.deeper (envOfC qual (defScope st) s.heap.objs.size f cdv)) → sp vs H Q E →
      ∃ t, PSs (cxOf CX0 P w K mg base N qual (defScope st) f cdv A outer s H E).nox (defBody st) t ∧ t { nx := fun _ H' => Q .non H', rt := Q } (start N vs) H) : DefM P w K mg base (k + 1) C m ps sp := by
  obtain ⟨f, fd, F, m, b⟩ := F.ex
  exact ⟨f, fd, F.ok S len (hbody f), b, m⟩
section
variable {X : Cx} {k : Nat} {C : Addr} {m : Str} {ps : List Str} {sp : Sp} {o e : Expr} {es : List Expr} {ta : TE} {t : TA} {apos pos : Pos} {pl : Sem Bool}
theorem pe_dm (D : DefM X.prog X.w X.K X.mg X.base k C m ps sp) (hr : Room k X.A) (hc : Cls X.K C) (ho : PE X o ta) (ha : PA X (e :: es) t) (he : starEach (e :: es) X.env = (false, eval e X.env) :: starEach es X.env := by rfl)
    (hpl : (backTo pos (starEach es X.env)).any (·.1) = false := by rfl)
    (hm : eval ((o.Attribute m apos).Call (e :: es) [] pos) X.env = (do
      let ov ← eval o X.env
      standAt apos.atName
      let x ← holding [ov] (getMethod ov m pl)
      match x with
        | (f, first) => callWith pos f first (backTo pos (starEach (e :: es) X.env)) (backToKw pos (keywordEach [] X.env))) := by rfl) :
    PE X ((o.Attribute m apos).Call (e :: es) [] pos) (tMeth C m sp [] E0 ta t) := by
  obtain ⟨f, fd, F, b, mt⟩ := D.ex
  exact pe_meth ho hc mt F hr b .nil pass0 ha he hpl hm
end

section
variable {X : Cx} {k : Nat} {C : Addr} {m : Str} {ps : List Str} {sp : Sp} {o : Expr} {ta : TE} {apos pos : Pos} {pl : Sem Bool}
end
/-- a class that is made by its __init__ -/
structure DefC (P : Program) (w : World) (K : PySem.W.Frag) (mg : Str → Option Value) (base : Heap) (k : Nat) (C : Addr) (x : Str) (ps : List Str) (sp : Sp) : Prop where
  ex : ∃ f fd, FnOk P w K mg base CX0 k f fd ps sp ∧ Binds K fd ps [] ∧ Mk K C f ∧ mg x = some (.ref C)
section
variable {X : Cx} {k : Nat} {C : Addr} {x : Str} {ps : List Str} {sp : Sp} {e : Expr} {es : List Expr} {t : TA} {p pos : Pos}
end

/-! ### unions of rules -/
section
variable {X : Cx}
abbrev rAddU (K : PySem.W.Frag) : R2 := fun x y H Q => rI0 (fun i j => .int (i + j)) x y H Q ∨ (rCat x y H Q ∨ rCatT K x y H Q)
theorem opAddU : OpR X (binaryOp .Add) (rAddU X.K) := op_or op_add (op_or op_cat op_catT)
abbrev rMulU : R2 := fun x y H Q => rI CMul (fun i j => .int (i * j)) x y H Q ∨ rRep x y H Q
theorem opMulU : OpR X (binaryOp .Mult) rMulU := op_or op_mul op_rep
theorem slU : SlR X (fun x lo hi H Q => rSlL X.K x lo hi H Q ∨ rSlT X.K x lo hi H Q) := SlR.or sl_list sl_tup
/-- for x in s, s a list or a tuple -/
def iSeq (K : PySem.W.Frag) (tl : TE) : TI := fun σ H R => tl σ H fun x H1 => (∃ a, x = .ref a ∧ (∃ xs, SqL K H1 a xs) ∧ R (Itl K a) H1) ∨ (∃ a, x = .ref a ∧ (∃ xs, SqT K H1 a xs) ∧ R (Itt K a) H1)
theorem pi_seq {tg l : Expr} {tl : TE} (hl : PE X l tl) : PI X tg l (iSeq X.K tl) := by
  refine ⟨fun pins s σ H R I h => ?_⟩
  refine thn (hl.run pins s σ H _ I h) fun v s1 ⟨x, H1, I1, r1, q1⟩ => ?_
  have fp : ∀ b ∈ [s1.heap.objs.size], FpOk X pins H1 b := fun b hb => by
    rw [List.mem_singleton.mp hb]
    exact I1.fpOk (Nat.le_refl _) (I1.hok.fresh (Nat.le_refl _))
  rcases q1 with ⟨a, e, ⟨xs, hq⟩, q⟩ | ⟨a, e, ⟨xs, hq⟩, q⟩
  · subst e
    cases r1
    obtain ⟨its, rv, p, hz⟩ := I1.list hq
    exact wpAny_pyIter_list p.isList ⟨_, [s1.heap.objs.size], _, _, H1, rfl, I1.kept (t' := s1.toks) fun b o e => Heap.get?_push_of_some _ e, turn_list a _, ⟨_, Heap.get?_push_size _ rfl, rfl, rfl⟩, fp, q⟩
  · subst e
    cases r1
    obtain ⟨its, rv, p, hz⟩ := I1.tuple hq
    exact wpAny_pyIter_tuple (show s1.heap.IsTuple a its.toArray from p) ⟨_, [s1.heap.objs.size], _, _, H1, rfl, I1.kept (t' := s1.toks) fun b o e => Heap.get?_push_of_some _ e, turn_tuple a _, ⟨_, Heap.get?_push_size _ rfl, rfl, rfl⟩, fp, q⟩
end


/-! ### the same rules, the written part by its own letter -/
section
variable {X : Cx} {K : PySem.W.Frag}
theorem k_fld {e : Expr} {f : Str} {pos : Pos} {ta : TE} (h : X.K = K) (he : PE X e ta) (hb : attributeBase e f X.env (eval e X.env) = eval e X.env) : PE X (e.Attribute f pos) (tFld K ta f) := by subst h; exact pe_fld he hb
theorem k_ix (h : X.K = K) : IxR X (rIx K) := by subst h; exact ix_seq
abbrev rEqU (K : PySem.W.Frag) : R2 := fun x y H Q => rEq x y H Q ∨ rEqD K x y H Q
abbrev rNeU (K : PySem.W.Frag) : R2 := fun x y H Q => rNe x y H Q ∨ rNeD K x y H Q
theorem k_eq (h : X.K = K) (hu : X.A.units + 64 < cLine) : OpR X (compareOp .Eq) (rEqU K) := by subst h; exact op_or op_eq (op_eqD hu)
theorem k_ne (h : X.K = K) (hu : X.A.units + 64 < cLine) : OpR X (compareOp .NotEq) (rNeU K) := by subst h; exact op_or op_ne (op_neD hu)
theorem k_add (h : X.K = K) : OpR X (binaryOp .Add) (rAddU K) := by subst h; exact opAddU
abbrev rSlU (K : PySem.W.Frag) : V → Option Int → Option Int → Hp → VK → Prop := fun x lo hi H Q => rSlL K x lo hi H Q ∨ rSlT K x lo hi H Q
theorem k_sl (h : X.K = K) : SlR X (rSlU K) := by subst h; exact slU
abbrev rLen (K : PySem.W.Frag) : List V → Hp → VK → Prop := fun xs H Q => ∃ p ys, xs = [V.ref p] ∧ (SqL K H p ys ∨ SqT K H p ys) ∧ Q (V.int ys.length) H
theorem k_len (h : X.K = K) : CallR X (.builtin "len") (rLen K) := by subst h; exact call_len_seq
abbrev rSumU (K : PySem.W.Frag) : List V → Hp → VK → Prop := fun vs H Q => rSum K vs H Q ∨ rSumT K vs H Q
abbrev rSortedU (K : PySem.W.Frag) : List V → Hp → VK → Prop := fun vs H Q => rSorted K vs H Q ∨ rSortedT K vs H Q
theorem k_sorted (h : X.K = K) : CallR X (.builtin "sorted") (rSortedU K) := by subst h; exact cr_or cr_sorted cr_sortedT
theorem k_all (h : X.K = K) (hc : X.calm = true) : CallR X (.builtin "all") (rAll K) := by subst h; exact cr_all hc
theorem k_isi (h : X.K = K) : CallR X (.builtin "isinstance") (rIsi K) := by subst h; exact call_isi
abbrev rListOf (K : PySem.W.Frag) : List V → Hp → VK → Prop := fun xs H Q => ∃ p ys, xs = [V.ref p] ∧ (SqL K H p ys ∨ SqT K H p ys) ∧ ∀ l, H l = none → Q (V.ref l) (upd H l (.lst ys))
theorem k_list (h : X.K = K) : CallR X (.type "list") (rListOf K) := by subst h; exact call_list_of
abbrev rTupleOf (K : PySem.W.Frag) : List V → Hp → VK → Prop := fun xs H Q => ∃ p ys, xs = [V.ref p] ∧ ((SqL K H p ys ∧ ∀ l, H l = none → Q (V.ref l) (upd H l (.tup ys))) ∨ SqT K H p ys ∧ Q (V.ref p) H)
theorem k_tuple (h : X.K = K) : CallR X (.type "tuple") (rTupleOf K) := by subst h; exact call_tuple_of
theorem k_tupleF (h : X.K = K) : CallR X (.type "tuple") (rTupleF K) := by subst h; exact cr_tupleF
theorem k_seq {tg l : Expr} {tl : TE} (h : X.K = K) (hl : PE X l tl) : PI X tg l (iSeq K tl) := by subst h; exact pi_seq hl
theorem k_tup {es : List Expr} {k : Nat} {t : TGs} {n : Nat} {pos : Pos} (h : X.K = K) (hc : X.calm = true) (hg : PGs X es t) (hn : (assignEach es X.env).length = n := by rfl) (hst : (assignEach es X.env).findIdx? (·.1) = none := by rfl) :
    PG X (.Tuple es k pos) (gTup K n t) := by subst h; exact pg_tup hc hg hn hst
theorem k_bm {o e : Expr} {es : List Expr} {to : TE} {t : TA} {name : Str} {apos cpos : Pos} {T id : String} {r : V → List V → Hp → VK → Prop} (h : X.K = K) (hp : PlainAttrs T) (hs : Slot T name id) (ht : typeOf (Value.builtin id) = pure (Value.type "method_descriptor")) (hm : MtR X id r) (ho : PE X o to) (ha : PA X (e :: es) t)
    (h1 : attributeBase o name X.env (eval o X.env) = eval o X.env := by rfl)
    (h2 : ((((backTo cpos (starEach (e :: es) X.env)).all fun x => !x.fst) && (backToKw cpos (keywordEach [] X.env)).all fun x => x.fst.isSome) && decide (((e :: es).length + ([] : List Keyword).length + if ([] : List Keyword).isEmpty = true then 0 else 1) < 30)) = true := by rfl)
    (h3 : (apos.endLine == cpos.line) = true := by rfl) (h4 : starEach (e :: es) X.env = (false, eval e X.env) :: starEach es X.env := by rfl) (h5 : ((backTo cpos (starEach es X.env)).any fun x => x.fst) = false := by rfl) :
    PE X ((o.Attribute name apos).Call (e :: es) [] cpos) (tBM K T r to t) := by subst h; exact pe_bm hp hs ht hm ho ha h1 h2 h3 h4 h5
abbrev rTupIx (K : PySem.W.Frag) : V → List V → Hp → VK → Prop := fun x xs H Q => ∃ p, ∃ ns : List Int, ∃ k : Int, x = .ref p ∧ xs = [.int k] ∧ SqT K H p (ns.map V.int) ∧ k ∈ ns ∧ Q (.int ((ns.idxOf k : Nat) : Int)) H
theorem k_tupIx (h : X.K = K) : MtR X "tuple.index" (rTupIx K) := by subst h; exact mt_tupIndexI
theorem k_sfld {o value : Expr} {f : Str} {pos pos' : Pos} {ta tv : TE} (h : X.K = K) (ho : PE X o ta) (hv : PE X value tv) (hs : swapsWith value (some (o.Attribute f pos')) pos.line X.env = pure false) : PS X (Stmt.Assign [o.Attribute f pos'] value pos) (sFld K ta tv f) := by subst h; exact ps_fld ho hv hs
end

/-! ### built-ins that no name of the module hides -/
structure Blt (mg : Str → Option Value) : Prop where
  len : mg "len" = none
  sum : mg "sum" = none
  sorted : mg "sorted" = none
  all : mg "all" = none
  any : mg "any" = none
  abs : mg "abs" = none
  isinstance : mg "isinstance" = none
  list : mg "list" = none
  tuple : mg "tuple" = none
  int : mg "int" = none
  bool : mg "bool" = none
  range : mg "range" = none
  zip : mg "zip" = none
  enumerate : mg "enumerate" = none
theorem bb_len : bootBuiltins "len" = some (.builtin "len") := by decide +kernel
theorem bb_sorted : bootBuiltins "sorted" = some (.builtin "sorted") := by decide +kernel
theorem bb_all : bootBuiltins "all" = some (.builtin "all") := by decide +kernel
theorem bb_isinstance : bootBuiltins "isinstance" = some (.builtin "isinstance") := by decide +kernel
theorem bb_list : bootBuiltins "list" = some (.type "list") := by decide +kernel
theorem bb_tuple : bootBuiltins "tuple" = some (.type "tuple") := by decide +kernel
theorem bb_int : bootBuiltins "int" = some (.type "int") := by decide +kernel
theorem bb_bool : bootBuiltins "bool" = some (.type "bool") := by decide +kernel
theorem start_eq {t : TS} {D : Ends} {σ σ' : L2.St} {H : Hp} (e : σ = σ') (h : t D σ' H) : t D σ H := by rw [e]; exact h
end G

namespace G
open PySem PySem.Spec PyProof.Rows L2

section
variable {K : PySem.W.Frag} {σ : L2.St} {H F : Hp} {Q : VK} {QT : Bool → Hp → Prop} {QA : List V → Hp → Prop} {D : Ends} {i : Nat} {v x y : V} {ta tb te : TE} {t u : TT} {ts us : TS} {tr : TA} {a p : Addr} {xs ys : List V} {o : HO}

/-! ### expressions, step by step -/
theorem s_var (h : σ[i]? = some (some v)) (q : Q v H) : tVar i σ H Q := ⟨v, h, q⟩
theorem s_c (q : Q v H) : tC v σ H Q := q
theorem s_op {r : R2} (h : ta σ H fun x H1 => tb σ H1 fun y H2 => r x y H2 Q) : tOp r ta tb σ H Q := h
theorem s_un {r : V → Hp → VK → Prop} (h : ta σ H fun x H1 => r x H1 Q) : tUn r ta σ H Q := h
theorem s_neg {m : Int} (q : Q (.int (-m)) H) : (rU fun i => .int (-i)) (.int m) H Q := ⟨m, rfl, q⟩
theorem s_test (h : te σ H fun x H1 => ∃ k, x = .bl k ∧ QT k H1) : tTest te σ H QT := h
theorem s_B (h : te σ H fun x H1 => ∃ k, x = .bl k ∧ QT k H1) : tB te σ H QT := h
theorem s_bl {b : Bool} {A : Bool → Prop} (q : A b) : ∃ k, V.bl b = .bl k ∧ A k := ⟨b, rfl, q⟩
theorem s_not (h : t σ H fun c H1 => QT (!c) H1) : tNot t σ H QT := h
theorem s_and (h : t σ H fun c H1 => if c = true then u σ H1 QT else QT false H1) : tAnd t u σ H QT := h
theorem s_or (h : t σ H fun c H1 => if c = true then QT true H1 else u σ H1 QT) : tOr t u σ H QT := h
theorem s_notV (h : ta σ H fun x H1 => ∃ c, x = .bl c ∧ Q (.bl (!c)) H1) : tNotV ta σ H Q := h
theorem s_andV (h : ta σ H fun x H1 => ∃ c, x = .bl c ∧ if c = true then tb σ H1 Q else Q (.bl false) H1) : tAndV ta tb σ H Q := h
theorem s_orV (h : ta σ H fun x H1 => ∃ c, x = .bl c ∧ if c = true then Q (.bl true) H1 else tb σ H1 Q) : tOrV ta tb σ H Q := h
theorem s_if (h : t σ H fun c H1 => if c = true then ta σ H1 Q else tb σ H1 Q) : tIf t ta tb σ H Q := h
theorem s_yes (q : QT true H) : tYes σ H QT := q
theorem s_cT {A B : Prop} (h : A) : if true = true then A else B := iteT h
theorem s_cF {A B : Prop} (h : B) : if false = true then A else B := iteF h
theorem s_nT {A B : Prop} (h : A) : if (!false) = true then A else B := iteT h
theorem s_nF {A B : Prop} (h : B) : if (!true) = true then A else B := iteF h
theorem s_dT {c A B : Prop} {dc : Decidable c} (hc : c) (h : A) : if decide c = true then A else B := by rw [decide_eq_true hc]; exact iteT h
theorem s_dF {c A B : Prop} {dc : Decidable c} (hc : ¬ c) (h : B) : if decide c = true then A else B := by rw [decide_eq_false hc]; exact iteF h
theorem s_d2 {c A B : Prop} {dc : Decidable c} (h1 : c → A) (h2 : ¬ c → B) : if decide c = true then A else B := by
  by_cases h : c
  · exact s_dT h (h1 h)
  · exact s_dF h (h2 h)
theorem s_n2 {c A B : Prop} {dc : Decidable c} (h1 : ¬ c → A) (h2 : c → B) : if (!decide c) = true then A else B := by
  by_cases h : c
  · rw [decide_eq_true h]; exact iteF (h2 h)
  · rw [decide_eq_false h]; exact iteT (h1 h)
theorem s_b2 {b : Bool} {A B : Prop} (h1 : b = true → A) (h2 : b = false → B) : if b = true then A else B := by
  cases b with
  | true => exact iteT (h1 rfl)
  | false => exact iteF (h2 rfl)
theorem s_non {A : Prop} (h : A) : V.non = V.non ∧ A := ⟨rfl, h⟩
/-! ints -/
theorem s_I0 {g : Int → Int → V} {m n : Int} (q : Q (g m n) H) : rI0 g (.int m) (.int n) H Q := ⟨m, n, rfl, rfl, q⟩
theorem s_I {C : Int → Int → Prop} {g : Int → Int → V} {m n : Int} (c : C m n) (q : Q (g m n) H) : rI C g (.int m) (.int n) H Q := ⟨m, n, rfl, rfl, c, q⟩
theorem s_addI {m n : Int} (q : Q (.int (m + n)) H) : rAddU K (.int m) (.int n) H Q := .inl (s_I0 q)
theorem s_mulI {m n : Int} (c : CMul m n) (q : Q (.int (m * n)) H) : rMulU (.int m) (.int n) H Q := .inl (s_I c q)
theorem s_eq (h : scal x y = true) (q : Q (.bl (decide (x = y))) H) : rEqU K x y H Q := .inl ⟨h, q⟩
theorem s_ne (h : scal x y = true) (q : Q (.bl (!decide (x = y))) H) : rNeU K x y H Q := .inl ⟨h, q⟩
theorem s_eqI {m n : Int} (q : Q (.bl (decide (m = n))) H) : rEqU K (.int m) (.int n) H Q := .inl ⟨rfl, by rw [show decide (V.int m = V.int n) = decide (m = n) from by simp]; exact q⟩
theorem s_neI {m n : Int} (q : Q (.bl (!decide (m = n))) H) : rNeU K (.int m) (.int n) H Q := .inl ⟨rfl, by rw [show decide (V.int m = V.int n) = decide (m = n) from by simp]; exact q⟩
theorem s_eqB {m n : Bool} (q : Q (.bl (decide (m = n))) H) : rEqU K (.bl m) (.bl n) H Q := .inl ⟨rfl, by rw [show decide (V.bl m = V.bl n) = decide (m = n) from by simp]; exact q⟩
theorem s_neB {m n : Bool} (q : Q (.bl (!decide (m = n))) H) : rNeU K (.bl m) (.bl n) H Q := .inl ⟨rfl, by rw [show decide (V.bl m = V.bl n) = decide (m = n) from by simp]; exact q⟩
theorem s_eqD {d e : PyData} (h1 : Dp K H x d) (h2 : Dp K H y e) (s1 : SeqAt.shaped d = true) (s2 : SeqAt.shaped e = true) (q : Q (.bl (PyData.eqv d e)) H) : rEqU K x y H Q := .inr ⟨d, e, h1, h2, s1, s2, q⟩
theorem s_neD {d e : PyData} (h1 : Dp K H x d) (h2 : Dp K H y e) (s1 : SeqAt.shaped d = true) (s2 : SeqAt.shaped e = true) (q : Q (.bl (!PyData.eqv d e)) H) : rNeU K x y H Q := .inr ⟨d, e, h1, h2, s1, s2, q⟩
theorem s_chain {r r' : R2} {tc : TE} (h : ta σ H fun x H1 => tb σ H1 fun y H2 => r x y H2 fun z H3 => ∃ k, z = .bl k ∧ if k = true then tc σ H3 fun w H4 => r' y w H4 Q else Q (.bl false) H3) : tChain r r' ta tb tc σ H Q := h
/-! calls -/
theorem s_cons (h : ta σ H fun x H1 => tr σ H1 fun xs H2 => QA (x :: xs) H2) : tCons ta tr σ H QA := h
theorem s_nil (q : QA [] H) : tNil σ H QA := q
theorem s_call {sp : Sp} {E : XK} (h : tr σ H fun vs H1 => sp vs H1 Q E) : tCall sp [] E tr σ H Q := by
  show tr σ H fun vs H1 => sp (vs ++ []) H1 Q E
  simp only [List.append_nil]
  exact h
theorem s_cb {r : List V → Hp → VK → Prop} (h : tr σ H fun vs H1 => r vs H1 Q) : tCB r tr σ H Q := h
theorem s_meth {C : Addr} {m : Str} {sp : Sp} {E : XK} (h : ta σ H fun x H1 => ∃ a dx fs, x = .ref a ∧ H1 a = some (.ins C dx fs) ∧ fs.lookup m = none ∧ tr σ H1 fun vs H2 => sp (x :: vs) H2 Q E) : tMeth C m sp [] E ta tr σ H Q := by
  show ta σ H fun x H1 => ∃ a dx fs, x = .ref a ∧ H1 a = some (.ins C dx fs) ∧ fs.lookup m = none ∧ tr σ H1 fun vs H2 => sp (x :: (vs ++ [])) H2 Q E
  simp only [List.append_nil]
  exact h
theorem s_make {C : Addr} {sp : Sp} {E : XK} (h : tr σ H fun vs H1 => ∀ x dx, H1 x = none → H1 dx = none → dx ≠ x → sp (.ref x :: vs) (upd (upd H1 dx (.own x)) x (.ins C dx [])) (fun v H2 => v = .non ∧ Q (.ref x) H2) E) : tMake C sp [] E tr σ H Q := by
  show tr σ H fun vs H1 => ∀ x dx, H1 x = none → H1 dx = none → dx ≠ x → sp (.ref x :: (vs ++ [])) (upd (upd H1 dx (.own x)) x (.ins C dx [])) (fun v H2 => v = .non ∧ Q (.ref x) H2) E
  simp only [List.append_nil]
  exact h
theorem s_tup (h : tr σ H fun xs H1 => xs.length ≤ sizeLine ∧ ∀ p, H1 p = none → Q (.ref p) (upd H1 p (.tup xs))) : tTup tr σ H Q := h
theorem s_lst (h : tr σ H fun xs H1 => xs.length ≤ sizeLine ∧ ∀ p, H1 p = none → Q (.ref p) (upd H1 p (.lst xs))) : tLst tr σ H Q := h
theorem s_bm {T : String} {r : V → List V → Hp → VK → Prop} (h : te σ H fun x H1 => tyV K T x H1 ∧ tr σ H1 fun xs H2 => r x xs H2 Q) : tBM K T r te tr σ H Q := h
theorem s_bm0 {T : String} {r : V → List V → Hp → VK → Prop} (h : te σ H fun x H1 => tyV K T x H1 ∧ r x [] H1 Q) : tBM0 K T r te σ H Q := h
theorem s_bmT {r : V → List V → Hp → VK → Prop} (h : te σ H fun x H1 => (∃ p ob ys, x = .ref p ∧ H1 p = some (.frz ob (.tup ys)) ∧ ob.dict = none) ∧ tr σ H1 fun xs H2 => r x xs H2 Q) : tBMT r te tr σ H Q := h
theorem s_tupleF (h : SqL K H p xs) (q : ∀ l (ob : Obj), ob.dict = none → H l = none → Q (.ref l) (upd H l (.frz ob (.tup xs)))) : rTupleF K [.ref p] H Q := ⟨p, xs, rfl, h, q⟩
theorem s_fld {f : Str} (h : ta σ H fun x H1 => ∃ a C dx fs v, x = .ref a ∧ H1 a = some (.ins C dx fs) ∧ Cls K C ∧ NoAttr K C f ∧ fs.lookup f = some v ∧ Q v H1) : tFld K ta f σ H Q := h
theorem s_dget (h : ta σ H fun x H1 => tb σ H1 fun y H2 => ∃ a v, x = .ref a ∧ DGet H2 a y (some v) ∧ Q v H2) : tDGet ta tb σ H Q := h
theorem s_sl {r : V → Option Int → Option Int → Hp → VK → Prop} {tl th : TO} (h : te σ H fun x H1 => tl σ H1 fun l H2 => th σ H2 fun u H3 => r x l u H3 Q) : tSl r te tl th σ H Q := h
theorem s_part {QO : Option Int → Hp → Prop} (h : te σ H fun x H1 => ∃ i, x = .int i ∧ QO (some i) H1) : tPart te σ H QO := h
theorem s_nopart {QO : Option Int → Hp → Prop} (h : QO none H) : tNoPart σ H QO := h
theorem s_int {m : Int} {P : Int → Prop} (h : P m) : ∃ i, V.int m = .int i ∧ P i := ⟨m, rfl, h⟩
/-! sequences -/
theorem s_ixT {m : Int} (h : SqT K H p xs) (hv : atI xs m = some v) (q : Q v H) : rIx K (.ref p) (.int m) H Q := .inr (.inl ⟨p, xs, m, v, rfl, rfl, h, hv, q⟩)
theorem s_ixL {m : Int} (h : SqL K H p xs) (hv : atI xs m = some v) (q : Q v H) : rIx K (.ref p) (.int m) H Q := .inl ⟨p, xs, m, v, rfl, rfl, h, hv, q⟩
theorem s_lenL (h : SqL K H p xs) (q : Q (.int xs.length) H) : rLen K [.ref p] H Q := ⟨p, xs, rfl, .inl h, q⟩
theorem s_lenT (h : SqT K H p xs) (q : Q (.int xs.length) H) : rLen K [.ref p] H Q := ⟨p, xs, rfl, .inr h, q⟩
theorem s_sumL {ns : List Int} (h : SqL K H p (ns.map V.int)) (q : Q (.int ns.sum) H) : rSumU K [.ref p] H Q := .inl ⟨p, ns, rfl, h, q⟩
theorem s_sumT {ns : List Int} (h : SqT K H p (ns.map V.int)) (q : Q (.int ns.sum) H) : rSumU K [.ref p] H Q := .inr ⟨p, ns, rfl, h, q⟩
theorem s_all {bs : List Bool} (h : SqL K H p (bs.map V.bl)) (q : Q (.bl (bs.all id)) H) : rAll K [.ref p] H Q := ⟨p, bs, rfl, h, q⟩
theorem s_any {bs : List Bool} (h : SqL K H p (bs.map V.bl)) (q : Q (.bl (bs.any id)) H) : rAny K [.ref p] H Q := ⟨p, bs, rfl, h, q⟩
theorem s_listL (h : SqL K H p xs) (q : ∀ l, H l = none → Q (.ref l) (upd H l (.lst xs))) : rListOf K [.ref p] H Q := ⟨p, xs, rfl, .inl h, q⟩
theorem s_listT (h : SqT K H p xs) (q : ∀ l, H l = none → Q (.ref l) (upd H l (.lst xs))) : rListOf K [.ref p] H Q := ⟨p, xs, rfl, .inr h, q⟩
theorem s_tupleL (h : SqL K H p xs) (q : ∀ l, H l = none → Q (.ref l) (upd H l (.tup xs))) : rTupleOf K [.ref p] H Q := ⟨p, xs, rfl, .inl ⟨h, q⟩⟩
theorem s_isi {c : V} {ty u : Value} {b : Bool} (hc : ClsV c u) (ht : TyX K H x ty) (hk : PySem.W.kitOne K ty u = some b) (q : Q (.bl b) H) : rIsi K [x, c] H Q := ⟨x, c, ty, u, b, rfl, hc, ht, hk, q⟩
/-! ### statements -/
variable {nx bk ct : L2.St → Hp → Prop}
theorem s_seq (h : ts ⟨us ⟨nx, Q, bk, ct⟩, Q, bk, ct⟩ σ H) : tSeq ts us ⟨nx, Q, bk, ct⟩ σ H := h
theorem s_next (h : nx σ H) : tNext ⟨nx, Q, bk, ct⟩ σ H := h
theorem s_asg {g : TG} (h : te σ H fun x H1 => g x σ H1 nx) : tAsg te g ⟨nx, Q, bk, ct⟩ σ H := h
theorem s_gn {R : L2.St → Hp → Prop} (h : R (σ.set i (some v)) H) : gName i v σ H R := h
theorem s_gt {R : L2.St → Hp → Prop} {n : Nat} {tg : TGs} (h : SqT K H a xs) (hl : xs.length = n) (q : tg xs σ H R) : gTup K n tg (.ref a) σ H R := ⟨a, xs, rfl, h, hl, q⟩
theorem s_gc {R : L2.St → Hp → Prop} {g : TG} {tg : TGs} (q : g v σ H fun σ' H' => tg xs σ' H' R) : gCons g tg (v :: xs) σ H R := ⟨v, xs, rfl, q⟩
theorem s_g0 {R : L2.St → Hp → Prop} (q : R σ H) : gNil [] σ H R := ⟨rfl, q⟩
theorem s_gs {R : L2.St → Hp → Prop} {tset : TSet} (q : ta σ H fun o H1 => tb σ H1 fun i H2 => tset o i v H2 fun H3 => R σ H3) : gSub ta tb tset v σ H R := q
theorem s_ret (h : te σ H Q) : tRet te ⟨nx, Q, bk, ct⟩ σ H := h
theorem s_ifS (h : t σ H fun b H1 => if b = true then ts ⟨nx, Q, bk, ct⟩ σ H1 else us ⟨nx, Q, bk, ct⟩ σ H1) : tIfS t ts us ⟨nx, Q, bk, ct⟩ σ H := h
theorem s_drop (h : te σ H fun _ H1 => nx σ H1) : tDrop te ⟨nx, Q, bk, ct⟩ σ H := h
theorem s_aug {ti : TIp} (hx : σ[i]? = some (some x)) (h : te σ H fun y H1 => ti x y H1 fun z H2 => nx (σ.set i (some z)) H2) : tAug i te ti ⟨nx, Q, bk, ct⟩ σ H := ⟨x, hx, h⟩
theorem s_augS {ti : TE} {tget : V → V → Hp → VK → Prop} {tip : TIp} {tset : TSet} (h : ta σ H fun o H1 => ti σ H1 fun i H2 => tget o i H2 fun x H3 => te σ H3 fun y H4 => tip x y H4 fun z H5 => tset o i z H5 fun H6 => nx σ H6) : tAugS ta ti te tget tip tset ⟨nx, Q, bk, ct⟩ σ H := h
theorem s_ipI {f : Int → Int → Int} {m n : Int} (q : Q (.int (f m n)) H) : ipI f (.int m) (.int n) H Q := ⟨m, n, rfl, rfl, q⟩
theorem s_setL {m : Int} {j : Nat} {R : Hp → Prop} (h : H p = some (.lst xs)) (hj : ixN xs.length m = some j) (q : R (upd H p (.lst (xs.set j v)))) : rSetL (.ref p) (.int m) v H R := ⟨p, xs, m, j, rfl, rfl, h, hj, q⟩
theorem s_app (h : H p = some (.lst xs)) (hl : xs.length < 100000) (q : Q .non (upd H p (.lst (xs ++ [v])))) : rAppend (.ref p) [v] H Q := ⟨p, xs, v, rfl, rfl, h, Nat.lt_of_lt_of_le hl (by decide), q⟩
theorem s_extd {b : Addr} (h : H p = some (.lst xs)) (hb : H b = some (.lst ys)) (hl : xs.length + ys.length ≤ 100000) (q : Q .non (upd H p (.lst (xs ++ ys)))) : rExtend (.ref p) [.ref b] H Q := ⟨p, b, xs, ys, rfl, rfl, h, hb, Nat.le_trans hl (by decide), q⟩
/-! loops -/
def ForB (J : It) (g : TG) (tb : TS) (nx : L2.St → Hp → Prop) (Q : VK) (σ : L2.St) (H1 : Hp) : Prop := ∃ W : Nat → Nat → L2.St → Hp → Prop, (∃ m, W 0 m σ H1) ∧ ∀ i m σ H, W i m σ H →
  (J.stop i H ∧ nx σ H) ∨ (J.go i H ∧ ∃ N : L2.St → Hp → Prop, (∀ σ' H', N σ' H' → ∃ m', m' < m ∧ W (i + 1) m' σ' H') ∧ ∀ x H', J.yld i H x H' → g x σ H' fun σ2 H2 => tb ⟨N, Q, nx, N⟩ σ2 H2)
theorem s_for {wi : TI} {g : TG} {tb : TS} (h : wi σ H fun J H1 => ForB J g tb nx Q σ H1) : tFor wi g tb ⟨nx, Q, bk, ct⟩ σ H := h
theorem for_w {J : It} {n : Nat} {G : Hp → Prop} {Y : Nat → Hp → V → Hp → Prop} {g : TG} {tb : TS} (w : Walk J n G Y) (Pv : Nat → L2.St → Hp → Prop) (h0 : Pv 0 σ H) (hG : ∀ i σ H, i ≤ n → Pv i σ H → G H)
    (hs : ∀ i x σ H H', i < n → Pv i σ H → Y i H x H' → g x σ H' fun σ2 H2 => tb ⟨Pv (i + 1), Q, nx, Pv (i + 1)⟩ σ2 H2) (hd : ∀ σ H, Pv n σ H → nx σ H) : ForB J g tb nx Q σ H :=
  for_it w (D := ⟨nx, Q, fun _ _ => False, fun _ _ => False⟩) Pv h0 hG hs hd
theorem s_iseq {R : It → Hp → Prop} (h : te σ H fun x H1 => (∃ a, x = .ref a ∧ (∃ xs, SqL K H1 a xs) ∧ R (Itl K a) H1) ∨ (∃ a, x = .ref a ∧ (∃ xs, SqT K H1 a xs) ∧ R (Itt K a) H1)) : iSeq K te σ H R := h
theorem s_rng1 {R : It → Hp → Prop} (h : tr σ H fun vs H1 => ∃ j : Int, vs = [.int j] ∧ -(2 ^ 62) ≤ j ∧ j < 2 ^ 62 ∧ R (Itr 0 j.toNat) H1) : iRng1 tr σ H R := h
theorem s_rngI {R : It → Hp → Prop} {m : Int} (h : -1000000 ≤ m ∧ m ≤ 1000000) (q : R (Itr 0 m.toNat) H) : ∃ j : Int, [V.int m] = [.int j] ∧ -(2 ^ 62) ≤ j ∧ j < 2 ^ 62 ∧ R (Itr 0 j.toNat) H := ⟨m, rfl, by omega, by omega, q⟩
theorem s_izip {R : It → Hp → Prop} (h : tr σ H fun vs H1 => ∃ j k a b xs ys, vs = [.ref a, .ref b] ∧ SqB j K H1 a xs ∧ SqB k K H1 b ys ∧ R (ItzM j k K a b) H1) : iZipM K tr σ H R := h
def LcB (J : It) (g : TG) (tt : TT) (te : TE) (vs : List Nat) (σ : L2.St) (H1 : Hp) (Q : VK) : Prop := ∀ D, H1 D = none → ∃ W : Nat → Nat → Hp → Prop, (∃ m, W 0 m (upd H1 D (.lst []))) ∧ ∀ i m H, W i m H →
  (J.stop i H ∧ Q (.ref D) H) ∨ (J.go i H ∧ ∃ Nx : Hp → Prop, (∀ H', Nx H' → ∃ m', m' < m ∧ W (i + 1) m' H') ∧ ∀ x H', J.yld i H x H' → g x (wipe σ vs) H' fun σ2 H2 => wipe σ2 vs = wipe σ vs ∧ tt σ2 H2 fun b H3 =>
    if b = true then te σ2 H3 fun y H4 => ∃ acc, H4 D = some (.lst acc) ∧ acc.length < sizeLine ∧ Nx (upd H4 D (.lst (acc ++ [y]))) else Nx H3)
theorem s_lc {wi : TI} {g : TG} {tt : TT} {vs : List Nat} (h : wi σ H fun J H1 => LcB J g tt te vs σ H1 Q) : tLc wi g tt te vs σ H Q := h
/-- a comprehension whose element changes nothing that stood -/
theorem lc_mapH {J : It} {n : Nat} {G : Hp → Prop} {Y : Nat → Hp → V → Hp → Prop} (w : Walk J n G Y) {F H1 : Hp} {g : TG} {vs : List Nat} (hF : Same F H1) (hn : n < 100000) (hG : ∀ H', Same H1 H' → G H')
    (R : Nat → Hp → V → Prop) (Rm : ∀ i H H' v, Same H H' → R i H v → R i H' v)
    (turn : ∀ i x F' H H' D (Z : VK), i < n → Ext F H1 F' H → F' D = none → H D ≠ none → Y i H x H' → (∀ y F4 H4, Ext F' H F4 H4 → R i F4 y → Z y H4) → g x (wipe σ vs) H' fun σ2 H2 => wipe σ2 vs = wipe σ vs ∧ te σ2 H2 Z)
    (fin : ∀ D ys F' H', H1 D = none → Ext F H1 F' H' → F' D = some (.lst ys) → ys.length = n → (∀ i v, ys[i]? = some v → R i F' v) → Q (.ref D) H') :
    LcB J g tYes te vs σ H1 Q := by
  intro D hD
  refine lc_it w (fun i H => ∃ F' acc, Ext F H1 F' H ∧ F' D = none ∧ H D = some (.lst acc) ∧ acc.length = i ∧ ∀ j v, acc[j]? = some v → R j F' v) ?_ ?_ ?_ ?_
  · exact ⟨F, [], (Ext.refl hF).mut hD, sub_none hF hD, upd_same, rfl, fun j v h => by simp at h⟩
  · rintro i H _ ⟨F', acc, e, _⟩
    exact hG H e.hh
  · rintro i x H H' hi ⟨F', acc, e, fd, hd, hl, hr⟩ y
    refine turn i x F' H H' D _ hi e fd (by rw [hd]; simp) y fun z F4 H4 e4 r4 => ?_
    have hd4 := e4.hh D _ hd
    refine ⟨acc, hd4, Nat.lt_of_lt_of_le (show acc.length < 100000 by omega) (by decide), F4, acc ++ [z], ?_, ?_, upd_same, by simp [hl], ?_⟩
    · exact (e.trans e4).chg hD (e4.fr D (by rw [hd]; simp) fd)
    · exact e4.fr D (by rw [hd]; simp) fd
    · intro j v hv
      by_cases hj : j < acc.length
      · rw [List.getElem?_append_left hj] at hv
        exact Rm _ _ _ _ e4.ff (hr j v hv)
      · have : j = acc.length := by
          have := (List.getElem?_eq_some_iff.mp hv).1
          simp at this
          omega
        subst this
        rw [List.getElem?_append_right (Nat.le_refl _)] at hv
        simp at hv
        rw [← hv, hl]
        exact r4
  · rintro H ⟨F', acc, e, fd, hd, hl, hr⟩
    exact fin D acc (upd F' D (.lst acc)) H hD (e.frz hD fd hd) upd_same hl fun i v hv => Rm _ _ _ _ (same_upd fd) (hr i v hv)
theorem lc_map {J : It} {n : Nat} {G : Hp → Prop} {Y : Nat → Hp → V → Hp → Prop} (w : Walk J n G Y) {F H1 : Hp} {g : TG} {vs : List Nat} (hF : Same F H1) (hn : n < 100000) (hG : ∀ H', Same F H' → G H')
    (R : Nat → Hp → V → Prop) (Rm : ∀ i H H' v, Same H H' → R i H v → R i H' v)
    (turn : ∀ i x F' H H' D (Z : VK), i < n → Ext F H1 F' H → F' D = none → H D ≠ none → Y i H x H' → (∀ y F4 H4, Ext F' H F4 H4 → R i F4 y → Z y H4) → g x (wipe σ vs) H' fun σ2 H2 => wipe σ2 vs = wipe σ vs ∧ te σ2 H2 Z)
    (fin : ∀ D ys F' H', H1 D = none → Ext F H1 F' H' → F' D = some (.lst ys) → ys.length = n → (∀ i v, ys[i]? = some v → R i F' v) → Q (.ref D) H') :
    LcB J g tYes te vs σ H1 Q :=
  lc_mapH w hF hn (fun H' s' => hG H' (hF.trans s')) R Rm turn fin
/-! two clauses -/
def InB (J1 : It) (g1 : TG) (tt1 : TT) (te : TE) (vs1 : List Nat) (σ2 : L2.St) (H4 : Hp) (D : Addr) (Nx : Hp → Prop) : Prop := ∃ W1 : Nat → Nat → Hp → Prop, (∃ m, W1 0 m H4) ∧ ∀ j k H, W1 j k H →
  (J1.stop j H ∧ Nx H) ∨ (J1.go j H ∧ ∃ Nx1 : Hp → Prop, (∀ H', Nx1 H' → ∃ k', k' < k ∧ W1 (j + 1) k' H') ∧ ∀ x H', J1.yld j H x H' → g1 x (wipe σ2 vs1) H' fun σ3 H5 => wipe σ3 vs1 = wipe σ2 vs1 ∧ tt1 σ3 H5 fun b H6 =>
    if b = true then te σ3 H6 fun y H7 => ∃ acc, H7 D = some (.lst acc) ∧ acc.length < sizeLine ∧ Nx1 (upd H7 D (.lst (acc ++ [y]))) else Nx1 H6)
def Lc2B (J : It) (g : TG) (tt : TT) (wi1 : TI) (g1 : TG) (tt1 : TT) (te : TE) (vs vs1 : List Nat) (σ : L2.St) (H1 : Hp) (Q : VK) : Prop := ∀ D, H1 D = none → ∃ W : Nat → Nat → Hp → Prop, (∃ m, W 0 m (upd H1 D (.lst []))) ∧ ∀ i m H, W i m H →
  (J.stop i H ∧ Q (.ref D) H) ∨ (J.go i H ∧ ∃ Nx : Hp → Prop, (∀ H', Nx H' → ∃ m', m' < m ∧ W (i + 1) m' H') ∧ ∀ x H', J.yld i H x H' → g x (wipe σ vs) H' fun σ2 H2 => wipe σ2 vs = wipe σ vs ∧ tt σ2 H2 fun b H3 =>
    if b = true then wi1 σ2 H3 fun J1 H4 => InB J1 g1 tt1 te vs1 σ2 H4 D Nx else Nx H3)
theorem s_lc2 {wi wi1 : TI} {g g1 : TG} {tt tt1 : TT} {vs vs1 : List Nat} (h : wi σ H fun J H1 => Lc2B J g tt wi1 g1 tt1 te vs vs1 σ H1 Q) : tLc2 wi g tt wi1 g1 tt1 te vs vs1 σ H Q := h
theorem in_map {J1 : It} {m : Nat} {G1 : Hp → Prop} {Y1 : Nat → Hp → V → Hp → Prop} (w : Walk J1 m G1 Y1) {F H4 : Hp} {g1 : TG} {vs1 : List Nat} {σ2 : L2.St} {D : Addr} {acc : List V} {Nx : Hp → Prop} (hF : Same F H4) (hG : ∀ H', Same F H' → G1 H') (fd : F D = none) (hd : H4 D = some (.lst acc)) (row : List V) (hm : row.length = m) (small : acc.length + m < 100000)
    (turn : ∀ (j : Nat) x y H H' (Z : VK), row[j]? = some y → Same F H → H D ≠ none → Y1 j H x H' → (∀ H7, Same H H7 → Z y H7) → g1 x (wipe σ2 vs1) H' fun σ3 H5 => wipe σ3 vs1 = wipe σ2 vs1 ∧ te σ3 H5 Z)
    (fin : ∀ H', Same F H' → (∀ b o, b ≠ D → H4 b = some o → H' b = some o) → H' D = some (.lst (acc ++ row)) → Nx H') : InB J1 g1 tYes te vs1 σ2 H4 D Nx := by
  refine ⟨fun j k H => k = m - j ∧ j ≤ m ∧ Same F H ∧ (∀ b o, b ≠ D → H4 b = some o → H b = some o) ∧ H D = some (.lst (acc ++ row.take j)), ⟨m, rfl, Nat.zero_le _, hF, fun _ _ _ h => h, by simpa using hd⟩, ?_⟩
  rintro j k H ⟨rfl, hj, e, e2, hD⟩
  by_cases hlt : j < m
  · refine .inr ⟨w.goes j H hlt (hG H e), fun H' => Same F H' ∧ (∀ b o, b ≠ D → H4 b = some o → H' b = some o) ∧ H' D = some (.lst (acc ++ row.take (j + 1))), fun H' h => ⟨m - (j + 1), by omega, rfl, hlt, h.1, h.2.1, h.2.2⟩, fun x H' y => ?_⟩
    have hr : row[j]? = some row[j] := List.getElem?_eq_getElem (by omega)
    refine turn j x row[j] H H' _ hr e (by rw [hD]; simp) (w.yields j H x H' hlt (hG H e) y) fun H7 e7 => ?_
    have hD7 := e7 D _ hD
    refine ⟨_, hD7, Nat.lt_of_lt_of_le (show _ < 100000 by simp; omega) (by decide), same_updR (e.trans e7) fd, fun b o hb h => ?_, ?_⟩
    · rw [upd_ne hb]
      exact e7 b o (e2 b o hb h)
    · rw [upd_same, List.append_assoc, List.take_add_one, hr]
      rfl
  · have : j = m := by omega
    subst this
    refine .inl ⟨w.stops H (hG H e), fin H e e2 ?_⟩
    rw [hD, List.take_of_length_le (by omega)]
theorem lc2_mapH {J : It} {n : Nat} {G : Hp → Prop} {Y : Nat → Hp → V → Hp → Prop} (w : Walk J n G Y) {F H1 : Hp} {g g1 : TG} {wi1 : TI} {vs vs1 : List Nat} (hF : Same F H1) (hG : ∀ H', Same H1 H' → G H') (rows : List (List V)) (hn : rows.length = n) (small : rows.flatten.length < 100000)
    (turn : ∀ (i : Nat) x row F' H H' D (Nx : Hp → Prop), rows[i]? = some row → Ext F H1 F' H → F' D = none → (∃ acc, H D = some (.lst acc) ∧ acc.length + row.length < 100000) → Y i H x H' →
      (∀ acc, H D = some (.lst acc) → ∀ H'', Same F' H'' → (∀ b o, b ≠ D → H b = some o → H'' b = some o) → H'' D = some (.lst (acc ++ row)) → Nx H'') →
      g x (wipe σ vs) H' fun σ2 H2 => wipe σ2 vs = wipe σ vs ∧ wi1 σ2 H2 fun J1 H4 => InB J1 g1 tYes te vs1 σ2 H4 D Nx)
    (fin : ∀ D F' H', H1 D = none → Ext F H1 F' H' → F' D = some (.lst rows.flatten) → Q (.ref D) H') : Lc2B J g tYes wi1 g1 tYes te vs vs1 σ H1 Q := by
  intro D hD
  refine ⟨fun i m H => m = n - i ∧ i ≤ n ∧ Ext F H1 F H ∧ H D = some (.lst (rows.take i).flatten), ⟨n, rfl, Nat.zero_le _, (Ext.refl hF).mut hD, by rw [upd_same]; rfl⟩, ?_⟩
  have fd : F D = none := sub_none hF hD
  rintro i m H ⟨rfl, hi, e, hd⟩
  have sz : ∀ i : Nat, (rows.take i).flatten.length ≤ rows.flatten.length := fun i => by
    conv => rhs; rw [← List.take_append_drop i rows, List.flatten_append, List.length_append]
    omega
  by_cases hlt : i < n
  · have hr : rows[i]? = some rows[i] := List.getElem?_eq_getElem (by omega)
    have ht : (rows.take (i + 1)).flatten = (rows.take i).flatten ++ rows[i] := by
      rw [List.take_add_one, hr, List.flatten_append]
      simp
    refine .inr ⟨w.goes i H hlt (hG H e.hh), fun H' => Ext F H1 F H' ∧ H' D = some (.lst (rows.take (i + 1)).flatten), fun H' h => ⟨n - (i + 1), by omega, rfl, hlt, h.1, h.2⟩, fun x H' y => ?_⟩
    refine turn i x rows[i] F H H' D _ hr e fd ⟨_, hd, ?_⟩ (w.yields i H x H' hlt (hG H e.hh) y) fun acc ha H'' f1 f2 f3 => ?_
    · have := sz (i + 1)
      rw [ht, List.length_append] at this
      omega
    · rw [hd] at ha
      cases ha
      refine ⟨⟨fun b o hb => f2 b o (ne_of_none hb hD) (e.hh b o hb), Same.refl F, f1, fun _ _ h => h, fun _ _ h => h⟩, ?_⟩
      rw [f3, ht]
  · have : i = n := by omega
    subst this
    refine .inl ⟨w.stops H (hG H e.hh), ?_⟩
    rw [List.take_of_length_le (by omega)] at hd
    exact fin D (upd F D (.lst rows.flatten)) H hD (e.frz hD fd hd) upd_same
theorem s_lstRg {te : L2.St → Hp → (Int → Int → Hp → Prop) → Prop} (h : te σ H fun a b H1 => RgOk a b ∧ ∀ q, H1 q = none → Q (.ref q) (upd H1 q (.lst (rgV a b)))) : tLstRg te σ H Q := h
theorem s_rg1 {R : Int → Int → Hp → Prop} (h : te σ H fun x H1 => ∃ n, x = .int n ∧ R 0 n H1) : tRg1 te σ H R := h
theorem s_sfld {f : Str} (h : tb σ H fun y H1 => ta σ H1 fun x H2 => ∃ a C dx fs, x = .ref a ∧ H2 a = some (.ins C dx fs) ∧ Cls K C ∧ NoAttr K C f ∧ fs.length < 1000 ∧ nx σ (upd H2 a (.ins C dx (putF f y fs)))) : sFld K ta tb f ⟨nx, Q, bk, ct⟩ σ H := h
theorem s_ienum {R : It → Hp → Prop} (h : tr σ H fun vs H1 => ∃ a xs, vs = [.ref a] ∧ SqL K H1 a xs ∧ R (Ite K a) H1) : iEnum K tr σ H R := h
/-! ### reading through new objects -/
theorem rT_at : SqT K (upd H p (.tup xs)) p xs := .inl (.inl upd_same)
theorem rL_at : SqL K (upd H p (.lst xs)) p xs := .inl (.inl upd_same)
theorem rT_new (h : H p = none) (r : SqT K H a xs) : SqT K (upd H p o) a xs := sqT_mono (same_upd h) r
theorem rL_new (h : H p = none) (r : SqL K H a xs) : SqL K (upd H p o) a xs := sqL_mono (same_upd h) r
theorem rH_new {o' : HO} (h : H p = none) (r : H a = some o') : upd H p o a = some o' := by rw [upd_ne (ne_of_none r h)]; exact r
theorem rD_new {d : PyData} (h : H p = none) (r : Dp K H v d) : Dp K (upd H p o) v d := dp_mono (same_upd h) r
theorem ty_tup (h : SqT K H a xs) : TyX K H (.ref a) (.type "tuple") := by
  rcases h with (h | ⟨o, h⟩) | ⟨o, _, _, hk, hc, _⟩
  · exact .base (.tup h)
  · exact .fTuple h
  · exact .kTuple hk hc
theorem ty_lst (h : SqL K H a xs) : TyX K H (.ref a) (.type "list") := by
  rcases h with (h | ⟨o, h⟩) | ⟨o, _, _, hk, hc, _⟩
  · exact .base (.lst h)
  · exact .base (.frz h)
  · exact .kList hk hc
theorem tyV_lst (h : H a = some (.lst xs)) : tyV K "list" (.ref a) H := Or.inl ⟨rfl, _, Or.inl (Or.inl h)⟩
end
end G

namespace G
open PySem PySem.Spec PyProof.Rows L2

/-! ### benches as data -/
structure BD where
  hard : List Int
  places : Nat
  told : List (Nat × Nat × List Nat)
def BD.heavy (B : BD) : List Int := B.hard.flatMap fun h => List.replicate B.places h
def pairsOf (n : Nat) (g : Nat × Nat × List Nat) : List (Nat × Nat) := (List.range n).map fun x => (g.1 * n + x, g.2.1 * n + g.2.2.getD x 0)
def BD.meets (B : BD) : List (List (Nat × Nat)) := B.told.map (pairsOf B.places)
def gD (g : Nat × Nat × List Nat) : PyData := .tuple [.int g.1, .int g.2.1, .tuple (g.2.2.map fun (x : Nat) => PyData.int (x : Int))]
def pD (p : Nat × Nat) : PyData := .tuple [.int p.1, .int p.2]
structure BOk (B : BD) : Prop where
  plates : 2 ≤ B.hard.length ∧ B.hard.length ≤ 4
  hard : ∀ h ∈ B.hard, 1 ≤ h ∧ h ≤ 9
  places : 1 ≤ B.places ∧ B.places ≤ 3
  told : 1 ≤ B.told.length ∧ B.told.length ≤ 6
  each : ∀ g ∈ B.told, g.1 < B.hard.length ∧ g.2.1 < B.hard.length ∧ g.1 ≠ g.2.1 ∧ g.2.2.Perm (List.range B.places)
theorem flat_len (l : List Int) (n : Nat) : (l.flatMap fun h => List.replicate n h).length = l.length * n := by
  induction l with
  | nil => simp
  | cons a l ih => rw [List.flatMap_cons, List.length_append, ih, List.length_replicate, List.length_cons, Nat.add_mul, Nat.one_mul, Nat.add_comm]
theorem BD.heavy_len (B : BD) : B.heavy.length = B.hard.length * B.places := flat_len _ _
theorem BOk.heavy {B : BD} (h : BOk B) : ∀ x ∈ B.heavy, 1 ≤ x ∧ x ≤ 9 := by
  intro x hx
  obtain ⟨y, hy, hm⟩ := List.mem_flatMap.mp hx
  rw [List.mem_replicate] at hm
  rw [hm.2]
  exact h.hard y hy
theorem BOk.heavy_lt {B : BD} (h : BOk B) : B.heavy.length ≤ 12 := by
  rw [B.heavy_len]
  have h1 := h.plates.2
  have h2 := h.places.2
  calc B.hard.length * B.places ≤ 4 * 3 := Nat.mul_le_mul h1 h2
    _ = 12 := rfl
theorem BOk.pair {B : BD} (h : BOk B) {g : Nat × Nat × List Nat} (hg : g ∈ B.told) {p : Nat × Nat} (hp : p ∈ pairsOf B.places g) : p.1 < B.heavy.length ∧ p.2 < B.heavy.length := by
  obtain ⟨x, hx, rfl⟩ := List.mem_map.mp hp
  obtain ⟨h1, h2, h3, h4⟩ := h.each g hg
  have hx' : x < B.places := List.mem_range.mp hx
  have hy : g.2.2.getD x 0 < B.places := by
    have hl : g.2.2.length = B.places := by rw [h4.length_eq, List.length_range]
    have : g.2.2.getD x 0 ∈ g.2.2 := by
      rw [List.getD_eq_getElem?_getD, List.getElem?_eq_getElem (by omega)]
      exact List.getElem_mem _
    exact List.mem_range.mp (h4.mem_iff.mp this)
  rw [B.heavy_len]
  constructor
  · show g.1 * B.places + x < B.hard.length * B.places
    calc g.1 * B.places + x < g.1 * B.places + B.places := by omega
      _ = (g.1 + 1) * B.places := by rw [Nat.add_mul, Nat.one_mul]
      _ ≤ B.hard.length * B.places := Nat.mul_le_mul_right _ h1
  · show g.2.1 * B.places + g.2.2.getD x 0 < B.hard.length * B.places
    calc g.2.1 * B.places + g.2.2.getD x 0 < g.2.1 * B.places + B.places := by omega
      _ = (g.2.1 + 1) * B.places := by rw [Nat.add_mul, Nat.one_mul]
      _ ≤ B.hard.length * B.places := Nat.mul_le_mul_right _ h2
theorem getD_mem {l : List Int} {i : Nat} (h : i < l.length) : l.getD i 0 ∈ l := by
  rw [List.getD_eq_getElem?_getD, List.getElem?_eq_getElem h]
  exact List.getElem_mem _
theorem BOk.w9 {B : BD} (h : BOk B) {u : Nat} (hu : u < B.heavy.length) : 1 ≤ B.heavy.getD u 0 ∧ B.heavy.getD u 0 ≤ 9 := h.heavy _ (getD_mem hu)
theorem BOk.row {B : BD} (h : BOk B) {r : List (Nat × Nat)} (hr : r ∈ B.meets) {p : Nat × Nat} (hp : p ∈ r) : p.1 < B.heavy.length ∧ p.2 < B.heavy.length := by
  obtain ⟨g, hg, rfl⟩ := List.mem_map.mp hr
  exact h.pair hg hp
theorem BD.meets_len (B : BD) : B.meets.length = B.told.length := List.length_map ..

/-! ### a bench stands -/
def bflds (l1 : Addr) (n : Int) (l2 l3 l4 : Addr) : List (Str × V) := [("hard", V.ref l1), ("places", V.int n), ("told", V.ref l2), ("heavy", V.ref l3), ("meets", V.ref l4)]
structure Txt (K : PySem.W.Frag) (mg : Str → Option Value) (C : Addr) : Prop where
  cl : Cls K C
  n_hard : NoAttr K C "hard"
  n_places : NoAttr K C "places"
  n_told : NoAttr K C "told"
  n_heavy : NoAttr K C "heavy"
  n_meets : NoAttr K C "meets"
  m_Bench : mg "Bench" = some (.ref C)
  g_MOST_PLATES : ∃ t, mg "MOST_PLATES" = some (.int 4 t)
  g_MOST_HARDNESS : ∃ t, mg "MOST_HARDNESS" = some (.int 9 t)
  g_MOST_PLACES : ∃ t, mg "MOST_PLACES" = some (.int 3 t)
  g_MOST_GRINDINGS : ∃ t, mg "MOST_GRINDINGS" = some (.int 6 t)
structure BenchAt (K : PySem.W.Frag) (C : Addr) (H : Hp) (b : Addr) (B : BD) : Prop where
  ex : ∃ dx l1 l2 l3 l4, H b = some (.ins C dx (bflds l1 B.places l2 l3 l4)) ∧ SqL K H l1 (B.hard.map V.int) ∧ Dp K H (.ref l2) (.list (B.told.map gD)) ∧ SqL K H l3 (B.heavy.map V.int) ∧ Dp K H (.ref l4) (.list (B.meets.map fun r => .list (r.map pD)))
theorem BenchAt.mono {K : PySem.W.Frag} {C : Addr} {H H' : Hp} {b : Addr} {B : BD} (e : Same H H') (h : BenchAt K C H b B) : BenchAt K C H' b B := by
  obtain ⟨dx, l1, l2, l3, l4, hb, h1, h2, h3, h4⟩ := h.ex
  exact ⟨dx, l1, l2, l3, l4, e _ _ hb, sqL_mono e h1, dp_mono e h2, sqL_mono e h3, dp_mono e h4⟩
theorem fl_hard {l1 l2 l3 l4 : Addr} {n : Int} : (bflds l1 n l2 l3 l4).lookup ("hard" : Str) = some (V.ref l1) := by rfl
theorem fl_places {l1 l2 l3 l4 : Addr} {n : Int} : (bflds l1 n l2 l3 l4).lookup ("places" : Str) = some (V.int n) := by rfl
theorem fl_told {l1 l2 l3 l4 : Addr} {n : Int} : (bflds l1 n l2 l3 l4).lookup ("told" : Str) = some (V.ref l2) := by rfl
theorem fl_heavy {l1 l2 l3 l4 : Addr} {n : Int} : (bflds l1 n l2 l3 l4).lookup ("heavy" : Str) = some (V.ref l3) := by rfl
theorem fl_meets {l1 l2 l3 l4 : Addr} {n : Int} : (bflds l1 n l2 l3 l4).lookup ("meets" : Str) = some (V.ref l4) := by rfl
/-! ### data lists, item by item -/
theorem dpAll_get {K : PySem.W.Frag} {H : Hp} : ∀ {vs : List V} {ds : List PyData} {i : Nat} {d : PyData}, DpAll K H vs ds → ds[i]? = some d → ∃ v, vs[i]? = some v ∧ Dp K H v d
  | _, _, _, _, .nil, h => by simp at h
  | _, _, 0, _, .cons h _, e => by simp at e; subst e; exact ⟨_, rfl, h⟩
  | _, _, i + 1, _, .cons _ t, e => by
    obtain ⟨v, h1, h2⟩ := dpAll_get (i := i) t (by simpa using e)
    exact ⟨v, by simpa using h1, h2⟩
theorem dpAll_len {K : PySem.W.Frag} {H : Hp} : ∀ {vs : List V} {ds : List PyData}, DpAll K H vs ds → vs.length = ds.length
  | _, _, .nil => rfl
  | _, _, .cons _ t => by rw [List.length_cons, List.length_cons, dpAll_len t]
theorem dpAll_of {K : PySem.W.Frag} {H : Hp} : ∀ {vs : List V} {ds : List PyData}, vs.length = ds.length → (∀ (i : Nat) v d, vs[i]? = some v → ds[i]? = some d → Dp K H v d) → DpAll K H vs ds
  | [], [], _, _ => .nil
  | [], _ :: _, h, _ => by simp at h
  | _ :: _, [], h, _ => by simp at h
  | v :: vs, d :: ds, h, f => .cons (f 0 v d rfl rfl) (dpAll_of (by simpa using h) fun i v d h1 h2 => f (i + 1) v d (by simpa using h1) (by simpa using h2))
theorem dp_list {K : PySem.W.Frag} {H : Hp} {a : Addr} {ds : List PyData} (h : Dp K H (.ref a) (.list ds)) : ∃ xs, SqL K H a xs ∧ DpAll K H xs ds := by
  cases h with
  | lst h hs => exact ⟨_, h, hs⟩
theorem dp_refT {K : PySem.W.Frag} {H : Hp} {v : V} {ds : List PyData} (h : Dp K H v (.tuple ds)) : ∃ a xs, v = .ref a ∧ SqT K H a xs ∧ DpAll K H xs ds := by
  cases h with
  | tup h hs => exact ⟨_, _, rfl, h, hs⟩
theorem dp_refL {K : PySem.W.Frag} {H : Hp} {v : V} {ds : List PyData} (h : Dp K H v (.list ds)) : ∃ a xs, v = .ref a ∧ SqL K H a xs ∧ DpAll K H xs ds := by
  cases h with
  | lst h hs => exact ⟨_, _, rfl, h, hs⟩
theorem dpAll_ints {K : PySem.W.Frag} {H : Hp} : ∀ {vs : List V} {ns : List Int}, DpAll K H vs (ns.map PyData.int) → vs = ns.map V.int
  | [], [], _ => rfl
  | [], _ :: _, h => by cases h
  | _ :: _, [], h => by cases h
  | v :: vs, n :: ns, h => by
    cases h with
    | cons h1 h2 =>
      cases h1
      rw [dpAll_ints h2]
      rfl
theorem ints_dpAll {K : PySem.W.Frag} {H : Hp} : ∀ (ns : List Int), DpAll K H (ns.map V.int) (ns.map PyData.int)
  | [] => .nil
  | n :: ns => .cons (.int n) (ints_dpAll ns)
/-- an item of a list of ints at a place -/
theorem at_int {ns : List Int} {i : Nat} (h : i < ns.length) : atI (ns.map V.int) (i : Int) = some (.int (ns.getD i 0)) := by
  refine atI_nat ?_
  rw [List.getElem?_map, List.getElem?_eq_getElem h, List.getD_eq_getElem?_getD, List.getElem?_eq_getElem h]
  rfl
theorem ix_int {n i : Nat} (h : i < n) : ixN n (i : Int) = some i := by
  unfold ixN
  rw [if_pos (by omega), if_pos (by omega)]
  simp
/-! ### what is ground off -/
def tn (s b : Int) : Int := if 0 ≤ s then s / b else -((-s) / b)
def grain (w hs : List Int) (p : Nat × Nat) : Int := tn (hs.getD p.1 0 + hs.getD p.2 0) (w.getD p.1 0 + w.getD p.2 0)
def take1 (w hs : List Int) (p : Nat × Nat) (g : Int) : List Int :=
  (hs.set p.1 (hs.getD p.1 0 - w.getD p.2 0 * g)).set p.2 ((hs.set p.1 (hs.getD p.1 0 - w.getD p.2 0 * g)).getD p.2 0 - w.getD p.1 0 * g)
def takeAll (w : List Int) : List Int → List (Nat × Nat) → List Int → List Int
  | hs, p :: ps, g :: gs => takeAll w (take1 w hs p g) ps gs
  | hs, _, _ => hs
def dust (w hs : List Int) (r : List (Nat × Nat)) : List Int := r.map (grain w hs)
def after (w hs : List Int) (r : List (Nat × Nat)) : List Int := takeAll w hs r (dust w hs r)
def takesOff (w hs : List Int) (r : List (Nat × Nat)) : Bool := r.any fun p => grain w hs p != 0

/-! ### data that may be compared -/
def Sh (n : Nat) (d : PyData) : Prop := d.canLay0 = true ∧ d.depth ≤ n
theorem sh_shaped {n : Nat} {d : PyData} (h : Sh n d) (hn : n ≤ 64 := by decide) : SeqAt.shaped d = true := by
  unfold SeqAt.shaped
  rw [h.1, decide_eq_true (Nat.le_trans h.2 hn)]
  rfl
theorem sh_mono {n m : Nat} {d : PyData} (h : Sh n d) (hn : n ≤ m) : Sh m d := ⟨h.1, Nat.le_trans h.2 hn⟩
theorem sh_int (i : Int) : Sh 0 (.int i) := ⟨rfl, Nat.le_refl _⟩
theorem sh_all {n : Nat} : ∀ {ds : List PyData}, (∀ d ∈ ds, Sh n d) → PyData.canLayAll0 ds = true ∧ PyData.depthAll ds ≤ n
  | [], _ => ⟨rfl, Nat.zero_le _⟩
  | d :: ds, h => by
    obtain ⟨h1, h2⟩ := h d (List.mem_cons_self ..)
    obtain ⟨h3, h4⟩ := sh_all (ds := ds) fun x hx => h x (List.mem_cons_of_mem _ hx)
    constructor
    · show (PyData.canLay0 d && PyData.canLayAll0 ds) = true
      rw [h1, h3]
      rfl
    · show max (PyData.depth d) (PyData.depthAll ds) ≤ n
      omega
theorem sh_list {n : Nat} {ds : List PyData} (h : ∀ d ∈ ds, Sh n d) : Sh (n + 1) (.list ds) := ⟨(sh_all h).1, Nat.succ_le_succ (sh_all h).2⟩
theorem sh_tuple {n : Nat} {ds : List PyData} (h : ∀ d ∈ ds, Sh n d) : Sh (n + 1) (.tuple ds) := ⟨(sh_all h).1, Nat.succ_le_succ (sh_all h).2⟩
theorem sh_ints (ns : List Int) : ∀ d ∈ ns.map PyData.int, Sh 0 d := fun d h => by
  obtain ⟨n, _, rfl⟩ := List.mem_map.mp h
  exact sh_int n
theorem sh_listI (ns : List Int) : Sh 1 (.list (ns.map PyData.int)) := sh_list (sh_ints ns)
theorem sh_tupleI (ns : List Int) : Sh 1 (.tuple (ns.map PyData.int)) := sh_tuple (sh_ints ns)
theorem eqv_self {n : Nat} {d : PyData} (h : Sh n d) : PyData.eqv d d = true := SeqAt.eqv_refl d h.1
theorem eqvAll_ints : ∀ ns ms : List Int, PyData.eqvAll (ns.map PyData.int) (ms.map PyData.int) = decide (ns = ms)
  | [], [] => rfl
  | [], _ :: _ => rfl
  | _ :: _, [] => rfl
  | n :: ns, m :: ms => by
    show ((n == m) && PyData.eqvAll (ns.map PyData.int) (ms.map PyData.int)) = _
    rw [eqvAll_ints ns ms]
    by_cases h : n = m
    · subst h
      simp
    · simp [h]
theorem dp_tupI {K : PySem.W.Frag} {H : Hp} {a : Addr} {ns : List Int} (h : SqT K H a (ns.map V.int)) : Dp K H (.ref a) (.tuple (ns.map PyData.int)) := .tup h (ints_dpAll ns)
theorem dp_lstI {K : PySem.W.Frag} {H : Hp} {a : Addr} {ns : List Int} (h : SqL K H a (ns.map V.int)) : Dp K H (.ref a) (.list (ns.map PyData.int)) := .lst h (ints_dpAll ns)
end G

namespace G
open PySem PySem.Spec PyProof.Rows L2

/-! ### a state list st that changes from draw to draw -/
def StOk (s : List V) : Prop := (∃ n, s = [.int n]) ∨ ∃ n m c : Int, s = [.int n, .int m, .int c]
structure SExt (st : Addr) (F H F' H' : Hp) : Prop where
  ext : Ext F (del H st) F' (del H' st)
  st : ∃ s', H' st = some (.lst s') ∧ StOk s'
theorem del_same' {H H' : Hp} {a : Addr} (e : Same H H') : Same (del H a) (del H' a) := fun b o h => by
  by_cases z : b = a
  · rw [z, del_same] at h; cases h
  · rw [del_ne z] at h ⊢; exact e b o h
theorem SExt.refl {st : Addr} {F H : Hp} {s : List V} (e : Same F (del H st)) (h : H st = some (.lst s)) (ok : StOk s) : SExt st F H F H := ⟨Ext.refl e, s, h, ok⟩
theorem SExt.trans {st : Addr} {F H F1 H1 F2 H2 : Hp} (a : SExt st F H F1 H1) (b : SExt st F1 H1 F2 H2) : SExt st F H F2 H2 := ⟨a.ext.trans b.ext, b.st⟩
theorem SExt.f0 {st : Addr} {F H F1 H1 : Hp} (a : SExt st F H F1 H1) : F1 st = none := sub_none a.ext.fh del_same
theorem SExt.fh {st : Addr} {F H F1 H1 : Hp} (a : SExt st F H F1 H1) : Same F1 H1 := a.ext.fh.trans del_sub
theorem SExt.ne {st p : Addr} {F H F1 H1 : Hp} (a : SExt st F H F1 H1) (h : H1 p = none) : p ≠ st := fun e => by
  obtain ⟨s, hs, _⟩ := a.st
  rw [e, hs] at h
  cases h
theorem SExt.new {st p : Addr} {F H F1 H1 : Hp} {o : HO} (a : SExt st F H F1 H1) (h : H1 p = none) (n : ∀ ps, o ≠ .tbl ps := by intro _ z; cases z) : SExt st F H (upd F1 p o) (upd H1 p o) := by
  have ne := a.ne h
  obtain ⟨s, hs, ok⟩ := a.st
  refine ⟨?_, s, by rw [upd_ne (Ne.symm ne)]; exact hs, ok⟩
  rw [del_upd_ne ne]
  exact a.ext.new (by rw [del_ne ne]; exact h) n
theorem SExt.mut {st p : Addr} {F H F1 H1 : Hp} {o : HO} (a : SExt st F H F1 H1) (h : H1 p = none) : SExt st F H F1 (upd H1 p o) := by
  have ne := a.ne h
  obtain ⟨s, hs, ok⟩ := a.st
  refine ⟨?_, s, by rw [upd_ne (Ne.symm ne)]; exact hs, ok⟩
  rw [del_upd_ne ne]
  exact a.ext.mut (by rw [del_ne ne]; exact h)
theorem SExt.chg {st p : Addr} {F H F1 H1 : Hp} {o : HO} (a : SExt st F H F1 H1) (ne : p ≠ st) (h : H p = none) (hf : F1 p = none) : SExt st F H F1 (upd H1 p o) := by
  obtain ⟨s, hs, ok⟩ := a.st
  refine ⟨?_, s, by rw [upd_ne (Ne.symm ne)]; exact hs, ok⟩
  rw [del_upd_ne ne]
  exact a.ext.chg (by rw [del_ne ne]; exact h) hf
theorem SExt.frz {st p : Addr} {F H F1 H1 : Hp} {o : HO} (a : SExt st F H F1 H1) (ne : p ≠ st) (h : H p = none) (hf : F1 p = none) (ho : H1 p = some o) (n : ∀ ps, o ≠ .tbl ps := by intro _ z; cases z) : SExt st F H (upd F1 p o) H1 :=
  ⟨a.ext.frz (by rw [del_ne ne]; exact h) hf (by rw [del_ne ne]; exact ho) n, a.st⟩
/-- a def that changes nothing that stood -/
theorem SExt.pure {st : Addr} {F H F1 H1 F2 H2 : Hp} (a : SExt st F H F1 H1) (b : Ext F1 H1 F2 H2) : SExt st F H F2 H2 := by
  obtain ⟨s, hs, ok⟩ := a.st
  have f2 : F2 st = none := b.fr st (by rw [hs]; simp) a.f0
  refine ⟨a.ext.trans ⟨del_same' b.hh, b.ff, fun c o h => ?_, fun c h1 h2 => ?_, b.nt⟩, s, b.hh _ _ hs, ok⟩
  · have : c ≠ st := fun z => by rw [z, f2] at h; cases h
    rw [del_ne this]
    exact b.fh c o h
  · by_cases z : c = st
    · rw [z]; exact f2
    · rw [del_ne z] at h1
      exact b.fr c h1 h2
/-- what stands beside the state stays -/
theorem SExt.keep {st b : Addr} {F H F1 H1 : Hp} {o : HO} (a : SExt st F H F1 H1) (ne : b ≠ st) (h : H b = some o) : H1 b = some o := by
  have := a.ext.hh b o (by rw [del_ne ne]; exact h)
  rw [del_ne ne] at this
  exact this
theorem SExt.fr {st b : Addr} {F H F1 H1 : Hp} (a : SExt st F H F1 H1) (ne : b ≠ st) (h : H b ≠ none) (hf : F b = none) : F1 b = none := a.ext.fr b (by rw [del_ne ne]; exact h) hf
theorem SExt.back {st p : Addr} {F H F1 H1 : Hp} (a : SExt st F H F1 H1) (h : H1 p = none) : H p = none := by
  have ne := a.ne h
  have := a.ext.hh.free (l := p) (by rw [del_ne ne]; exact h)
  rw [del_ne ne] at this
  exact this
section
variable {K : PySem.W.Frag} {σ : L2.St} {H F : Hp} {Q : VK} {te : TE} {nx bk ct : L2.St → Hp → Prop} {ts us : TS}
/-- what a statement reaches, told ahead of what follows -/
theorem s_cut (R : L2.St → Hp → Prop) (h : ∀ U : L2.St → Hp → Prop, (∀ σ' H', R σ' H' → U σ' H') → ts ⟨U, Q, bk, ct⟩ σ H) (k : ∀ σ' H', R σ' H' → us ⟨nx, Q, bk, ct⟩ σ' H') : tSeq ts us ⟨nx, Q, bk, ct⟩ σ H := h _ k
theorem lc_mapS {st : Addr} {J : It} {n : Nat} {G : Hp → Prop} {Y : Nat → Hp → V → Hp → Prop} (w : Walk J n G Y) {F0 H0 F H1 : Hp} {g : TG} {vs : List Nat} (h01 : SExt st F0 H0 F H1) (hn : n < 100000) (hG : ∀ H', Same F H' → G H')
    (R : Nat → Hp → V → Prop) (Rm : ∀ i H H' v, Same H H' → R i H v → R i H' v)
    (turn : ∀ i x F' H H' D (Z : VK), i < n → SExt st F H1 F' H → F' D = none → H D ≠ none → D ≠ st → Y i H x H' → (∀ y F4 H4, SExt st F' H F4 H4 → R i F4 y → Z y H4) → g x (wipe σ vs) H' fun σ2 H2 => wipe σ2 vs = wipe σ vs ∧ te σ2 H2 Z)
    (fin : ∀ D ys F' H', H1 D = none → SExt st F H1 F' H' → F' D = some (.lst ys) → ys.length = n → (∀ i v, ys[i]? = some v → R i F' v) → Q (.ref D) H') :
    LcB J g tYes te vs σ H1 Q := by
  intro D hD
  have nD : D ≠ st := h01.ne hD
  obtain ⟨s1, hs1, ok1⟩ := h01.st
  have r1 : SExt st F H1 F H1 := SExt.refl h01.ext.fh hs1 ok1
  refine lc_it w (fun i H => ∃ F' acc, SExt st F H1 F' H ∧ F' D = none ∧ H D = some (.lst acc) ∧ acc.length = i ∧ ∀ j v, acc[j]? = some v → R j F' v) ?_ ?_ ?_ ?_
  · exact ⟨F, [], r1.mut hD, sub_none r1.fh hD, upd_same, rfl, fun j v h => by simp at h⟩
  · rintro i H _ ⟨F', acc, e, _⟩
    exact hG H (e.ext.ff.trans e.fh)
  · rintro i x H H' hi ⟨F', acc, e, fd, hd, hl, hr⟩ y
    refine turn i x F' H H' D _ hi e fd (by rw [hd]; simp) nD y fun z F4 H4 e4 r4 => ?_
    have hd4 := e4.keep nD hd
    have fd4 := e4.fr nD (by rw [hd]; simp) fd
    refine ⟨acc, hd4, Nat.lt_of_lt_of_le (show acc.length < 100000 by omega) (by decide), F4, acc ++ [z], (e.trans e4).chg nD hD fd4, fd4, upd_same, by simp [hl], ?_⟩
    intro j v hv
    by_cases hj : j < acc.length
    · rw [List.getElem?_append_left hj] at hv
      exact Rm _ _ _ _ e4.ext.ff (hr j v hv)
    · have : j = acc.length := by
        have := (List.getElem?_eq_some_iff.mp hv).1
        simp at this
        omega
      subst this
      rw [List.getElem?_append_right (Nat.le_refl _)] at hv
      simp at hv
      rw [← hv, hl]
      exact r4
  · rintro H ⟨F', acc, e, fd, hd, hl, hr⟩
    exact fin D acc (upd F' D (.lst acc)) H hD (e.frz nD hD fd hd) upd_same hl fun i v hv => Rm _ _ _ _ (same_upd fd) (hr i v hv)
theorem s_disp {trs : List (TE × TE)} (h : ∀ p, H p = none → tPairs trs σ (upd H p (.dK [])) fun ps H2 => H2 p = some (.dK []) ∧ ∃ kvs : List (Key × V), ps = kvs.map (fun kv => (kV kv.1, kv.2)) ∧ kvs.length ≤ 15 ∧ Q (.ref p) (upd H2 p (.dK (mergeK [] kvs)))) : tDisp trs σ H Q := h
theorem s_pc {tk tv : TE} {trs : List (TE × TE)} {QP : List (V × V) → Hp → Prop} (h : tk σ H fun k H1 => tv σ H1 fun v H2 => tPairs trs σ H2 fun ps H3 => QP ((k, v) :: ps) H3) : tPairs ((tk, tv) :: trs) σ H QP := h
theorem s_pn {QP : List (V × V) → Hp → Prop} (h : QP [] H) : tPairs [] σ H QP := h
end
/-! ### the law's own bench: a dict -/
def mkvs (l1 : Addr) (n : Int) (l2 l3 l4 : Addr) : List (Key × V) := [(Sum.inr "hard", .ref l1), (Sum.inr "places", .int n), (Sum.inr "told", .ref l2), (Sum.inr "heavy", .ref l3), (Sum.inr "meets", .ref l4)]
/-- a grinding told: its turn is a tuple that is known by its object (so that .index may be asked of it) -/
def Gx (K : PySem.W.Frag) (F : Hp) (v : V) (g : Nat × Nat × List Nat) : Prop := ∃ a t ob, v = .ref a ∧ SqT K F a [.int (g.1 : Int), .int (g.2.1 : Int), .ref t] ∧ F t = some (.frz ob (.tup ((g.2.2.map fun (x : Nat) => (x : Int)).map V.int))) ∧ ob.dict = none
theorem Gx.mono {K : PySem.W.Frag} {H H' : Hp} {v : V} {g : Nat × Nat × List Nat} (e : Same H H') (h : Gx K H v g) : Gx K H' v g := by
  obtain ⟨a, t, ob, rfl, h1, h2, h3⟩ := h
  exact ⟨a, t, ob, rfl, sqT_mono e h1, e _ _ h2, h3⟩
inductive TXs (K : PySem.W.Frag) (F : Hp) : List V → List (Nat × Nat × List Nat) → Prop
  | nil : TXs K F [] []
  | cons {v : V} {g : Nat × Nat × List Nat} {vs : List V} {gs : List (Nat × Nat × List Nat)} : Gx K F v g → TXs K F vs gs → TXs K F (v :: vs) (g :: gs)
theorem TXs.mono {K : PySem.W.Frag} {H H' : Hp} (e : Same H H') : ∀ {vs : List V} {gs : List (Nat × Nat × List Nat)}, TXs K H vs gs → TXs K H' vs gs
  | _, _, .nil => .nil
  | _, _, .cons h t => .cons (h.mono e) (t.mono e)
theorem TXs.take {K : PySem.W.Frag} {H : Hp} : ∀ {vs : List V} {gs : List (Nat × Nat × List Nat)} (n : Nat), TXs K H vs gs → TXs K H (vs.take n) (gs.take n)
  | _, _, 0, _ => .nil
  | _, _, _ + 1, .nil => .nil
  | _, _, n + 1, .cons h t => .cons h (t.take n)
def TX (K : PySem.W.Frag) (F : Hp) (l : Addr) (gs : List (Nat × Nat × List Nat)) : Prop := ∃ vs, SqL K F l vs ∧ TXs K F vs gs
theorem TX.mono {K : PySem.W.Frag} {H H' : Hp} {l : Addr} {gs : List (Nat × Nat × List Nat)} (e : Same H H') (h : TX K H l gs) : TX K H' l gs := by
  obtain ⟨vs, h1, h2⟩ := h
  exact ⟨vs, sqL_mono e h1, h2.mono e⟩
structure ModelAt (K : PySem.W.Frag) (F : Hp) (m : Addr) (B : BD) : Prop where
  ix : ∃ l1 l2 l3 l4, F m = some (.dK (mkvs l1 B.places l2 l3 l4)) ∧ TX K F l2 B.told
  ex : ∃ l1 l2 l3 l4, F m = some (.dK (mkvs l1 B.places l2 l3 l4)) ∧ SqL K F l1 (B.hard.map V.int) ∧ Dp K F (.ref l2) (.list (B.told.map gD)) ∧ SqL K F l3 (B.heavy.map V.int) ∧ Dp K F (.ref l4) (.list (B.meets.map fun r => .list (r.map pD)))
theorem ModelAt.mono {K : PySem.W.Frag} {H H' : Hp} {b : Addr} {B : BD} (e : Same H H') (h : ModelAt K H b B) : ModelAt K H' b B := by
  obtain ⟨l1, l2, l3, l4, hb, h1, h2, h3, h4⟩ := h.ex
  obtain ⟨m1, m2, m3, m4, hc, h5⟩ := h.ix
  exact ⟨⟨m1, m2, m3, m4, e _ _ hc, h5.mono e⟩, l1, l2, l3, l4, e _ _ hb, sqL_mono e h1, dp_mono e h2, sqL_mono e h3, dp_mono e h4⟩
theorem merge_mkvs {l1 l2 l3 l4 : Addr} {n : Int} : mergeK [] (mkvs l1 n l2 l3 l4) = mkvs l1 n l2 l3 l4 := by rfl
end G

namespace G
open PySem PySem.Spec PyProof.Rows L2
/-! ## data: what a program's values are worth, without addresses -/
inductive D where
  | non | bl (b : Bool) | int (i : Int) | str (s : Str)
  | lst (l : List D) | tup (l : List D)
  | stn (ns : List Int)
  | ixt (ns : List Int)
  | bench (B : BD)
  | dic (ks : List Key) (l : List D)
  | dit (ks : List (List Key)) (l : List D)
  | st
  | exc (a : Addr) (dd : Option Addr) (ns : List Str) (l : List D)
  | lsx (a : Addr) (ns : List Int)

/-! ### heaps beside the state of the draws and the tables of code objects -/
def isTbl : HO → Bool
  | .tbl _ => true
  | _ => false
def isExt : HO → Bool
  | .ext _ => true
  | _ => false
def noT (H : Hp) : Hp := fun b => match H b with
  | some (.tbl _) => none
  | o => o
theorem noT_some {H : Hp} {b : Addr} {o : HO} (h : noT H b = some o) : H b = some o ∧ isTbl o = false := by
  unfold noT at h
  split at h
  · cases h
  · rename_i u
    refine ⟨h, ?_⟩
    cases o with
    | tbl ps => exact absurd h (u ps)
    | _ => rfl
theorem noT_of {H : Hp} {b : Addr} {o : HO} (h : H b = some o) (n : isTbl o = false) : noT H b = some o := by
  unfold noT
  rw [h]
  cases o with
  | tbl ps => cases n
  | _ => rfl
theorem noT_sub {H : Hp} : Same (noT H) H := fun _ _ h => (noT_some h).1
theorem noT_none {H : Hp} {p : Addr} (h : H p = none) : noT H p = none := noT_sub.free h
theorem noT_same {H H' : Hp} (e : Same H H') : Same (noT H) (noT H') := fun _ _ h => noT_of (e _ _ (noT_some h).1) (noT_some h).2
theorem noT_upd {H : Hp} {p : Addr} {o : HO} (n : isTbl o = false) : noT (upd H p o) = upd (noT H) p o := by
  funext b
  by_cases z : b = p
  · subst z
    rw [upd_same]
    exact noT_of upd_same n
  · rw [upd_ne z]
    unfold noT
    rw [upd_ne z]
def Dl (st : Option Addr) (H : Hp) : Hp := noT (match st with
  | none => H
  | some a => del H a)
/-- the defs that make lambdas -/
def lamNames : List Str := []
def tabsOf (K : PySem.W.Frag) : List (Addr × Str) := lamNames.filterMap fun x => (PySem.W.tabIn K x).map fun q => (q.2, x ++ ".<locals>." ++ "<lambda>")
structure StG (K : PySem.W.Frag) (st : Option Addr) (H : Hp) : Prop where
  ls : ∀ a, st = some a → ∃ s, H a = some (.lst s) ∧ StOk s
  tb : LamX.Tabs (tabsOf K) H
theorem Dl_some {st : Option Addr} {H : Hp} {b : Addr} {o : HO} (h : Dl st H b = some o) : H b = some o ∧ isTbl o = false := by
  cases st with
  | none => exact noT_some h
  | some a => exact ⟨del_sub _ _ (noT_some h).1, (noT_some h).2⟩
theorem Dl_sub {st : Option Addr} {H : Hp} : Same (Dl st H) H := fun _ _ h => (Dl_some h).1
theorem Dl_none {st : Option Addr} {H : Hp} {p : Addr} (h : H p = none) : Dl st H p = none := Dl_sub.free h
theorem Dl_upd {st : Option Addr} {H : Hp} {p : Addr} {o : HO} (h : ∀ a, st = some a → p ≠ a) (n : isTbl o = false) : Dl st (upd H p o) = upd (Dl st H) p o := by
  cases st with
  | none => exact noT_upd n
  | some a =>
    show noT (del (upd H p o) a) = upd (noT (del H a)) p o
    rw [del_upd_ne (h a rfl), noT_upd n]
theorem Dl_at {st : Option Addr} {H : Hp} {p : Addr} {o : HO} (h : ∀ a, st = some a → p ≠ a) (n : isTbl o = false := by rfl) : Dl st (upd H p o) p = some o := by
  rw [Dl_upd h n]
  exact upd_same
theorem Dl_off {st : Option Addr} {H : Hp} {p b : Addr} {o : HO} (ne : b ≠ p) : Dl st (upd H p o) b = Dl st H b := by
  have key : ∀ G G' : Hp, G b = G' b → noT G b = noT G' b := fun G G' e => by
    unfold noT
    rw [e]
  cases st with
  | none => exact key _ _ (upd_ne ne)
  | some a =>
    refine key _ _ ?_
    show del (upd H p o) a b = del H a b
    by_cases z : b = a
    · subst z
      rw [del_same, del_same]
    · rw [del_ne z, del_ne z, upd_ne ne]
/-- what is told of what is put -/
def noO : HO → Option HO
  | .tbl _ => none
  | o => some o
theorem Dl_pt {st : Option Addr} {H : Hp} {p : Addr} {o : HO} (h : ∀ a, st = some a → p ≠ a) : Dl st (upd H p o) p = noO o := by
  have key : ∀ G : Hp, G p = some o → noT G p = noO o := fun G e => by
    unfold noT
    rw [e]
    cases o <;> rfl
  cases st with
  | none => exact key _ upd_same
  | some a => exact key (del (upd H p o) a) (by rw [del_ne (h a rfl)]; exact upd_same)
theorem Dl_same {st : Option Addr} {H H' : Hp} (e : Same H H') : Same (Dl st H) (Dl st H') := by
  cases st with
  | none => exact noT_same e
  | some a => exact noT_same (del_same' e)
theorem Dl_st {a : Addr} {H : Hp} : Dl (some a) H a = none := noT_none del_same
theorem Dl_ne {st : Option Addr} {H : Hp} {p : Addr} {o : HO} (h : Dl st H p = some o) : ∀ a, st = some a → p ≠ a := fun a e z => by
  subst e z
  rw [Dl_st] at h
  cases h
theorem Dl_of {st : Option Addr} {H : Hp} {p : Addr} {o : HO} (h : H p = some o) (ne : ∀ a, st = some a → p ≠ a) (n : isTbl o = false := by rfl) : Dl st H p = some o := by
  cases st with
  | none => exact noT_of h n
  | some a => exact noT_of (H := del H a) (by rw [del_ne (ne a rfl)]; exact h) n
section
variable {K : PySem.W.Frag} {st : Option Addr} {H : Hp} {p : Addr} {o o' : HO}
theorem StG.ne (g : StG K st H) (h : H p = none) : ∀ a, st = some a → p ≠ a := fun a e z => by
  obtain ⟨s, hs, _⟩ := g.ls a e
  rw [z, hs] at h
  cases h
theorem tabs_chg {T : List (Addr × Str)} (t : LamX.Tabs T H) (hp : H p = some o') (n : isTbl o' = false) (x : isExt o' = false) : LamX.Tabs T (upd H p o) := fun q hq => by
  obtain ⟨ps, h1, h2, h3⟩ := t q hq
  refine ⟨ps, ?_, h2, fun pos cv hc => ?_⟩
  · rw [upd_ne]
    · exact h1
    · intro z
      rw [z, hp] at h1
      cases h1
      cases n
  · obtain ⟨c, e1, e2⟩ := h3 pos cv hc
    refine ⟨c, e1, ?_⟩
    rw [upd_ne]
    · exact e2
    · intro z
      rw [z, hp] at e2
      unfold LamX.CodeO at e2
      cases e2
      cases x
theorem StG.new (g : StG K st H) (h : H p = none) : StG K st (upd H p o) := ⟨fun a e => by
  obtain ⟨s, hs, ok⟩ := g.ls a e
  exact ⟨s, by rw [upd_ne (Ne.symm (g.ne h a e))]; exact hs, ok⟩, g.tb.ext (same_upd h)⟩
theorem StG.chg (g : StG K st H) (h : Dl st H p = some o') (x : isExt o' = false) : StG K st (upd H p o) := ⟨fun a e => by
  obtain ⟨s, hs, ok⟩ := g.ls a e
  exact ⟨s, by rw [upd_ne (Ne.symm (Dl_ne h a e))]; exact hs, ok⟩, tabs_chg g.tb (Dl_some h).1 (Dl_some h).2 x⟩
theorem StG.same {H' : Hp} (g : StG K st H) (e : Same H H') : StG K st H' := ⟨fun a z => by
  obtain ⟨s, hs, ok⟩ := g.ls a z
  exact ⟨s, e _ _ hs, ok⟩, g.tb.ext e⟩
end
def isTupO : HO → Bool
  | .tup _ => true
  | _ => false
/-- as Ext; but tuples, which never change, may be frozen at any time -/
structure EX (F H F' H' : Hp) : Prop where
  hh : Same H H'
  ff : Same F F'
  fh : Same F' H'
  fr : ∀ b o, H b = some o → isTupO o = false → F b = none → F' b = none
theorem EX.of {F H F' H' : Hp} (e : Ext F H F' H') : EX F H F' H' := ⟨e.hh, e.ff, e.fh, fun b o h _ => e.fr b (by rw [h]; simp)⟩
theorem EX.refl {F H : Hp} (e : Same F H) : EX F H F H := .of (Ext.refl e)
theorem EX.trans {F H F1 H1 F2 H2 : Hp} (a : EX F H F1 H1) (b : EX F1 H1 F2 H2) : EX F H F2 H2 :=
  ⟨a.hh.trans b.hh, a.ff.trans b.ff, b.fh, fun c o h1 ht h2 => b.fr c o (a.hh c o h1) ht (a.fr c o h1 ht h2)⟩
theorem EX.new {F H F1 H1 : Hp} {p : Addr} {o : HO} (a : EX F H F1 H1) (h : H1 p = none) : EX F H (upd F1 p o) (upd H1 p o) :=
  ⟨a.hh.trans (same_upd h), a.ff.trans (same_upd (sub_none a.fh h)), same_upd2 a.fh, fun b q h1 ht h2 => by
    rw [upd_ne]
    · exact a.fr b q h1 ht h2
    · intro z
      subst z
      rw [a.hh.free h] at h1
      cases h1⟩
theorem EX.mut {F H F1 H1 : Hp} {p : Addr} {o : HO} (a : EX F H F1 H1) (h : H1 p = none) : EX F H F1 (upd H1 p o) :=
  ⟨a.hh.trans (same_upd h), a.ff, same_updR a.fh (sub_none a.fh h), a.fr⟩
theorem EX.chg {F H F1 H1 : Hp} {p : Addr} {o : HO} (a : EX F H F1 H1) (h : H p = none) (hf : F1 p = none) : EX F H F1 (upd H1 p o) :=
  ⟨same_updR a.hh h, a.ff, same_updR a.fh hf, a.fr⟩
theorem EX.frz {F H F1 H1 : Hp} {p : Addr} {o : HO} (a : EX F H F1 H1) (h : H p = none) (hf : F1 p = none) (ho : H1 p = some o) : EX F H (upd F1 p o) H1 :=
  ⟨a.hh, a.ff.trans (same_upd hf), fun b x q => by
    by_cases z : b = p
    · rw [z, upd_same] at q; rw [z]; cases q; exact ho
    · rw [upd_ne z] at q; exact a.fh b x q, fun b q h1 ht h2 => by
    rw [upd_ne]
    · exact a.fr b q h1 ht h2
    · intro z
      subst z
      rw [h] at h1
      cases h1⟩
/-- a tuple is frozen -/
theorem EX.tup {F H F1 H1 : Hp} {p : Addr} {xs : List V} (a : EX F H F1 H1) (ho : H1 p = some (.tup xs)) : EX F H (upd F1 p (.tup xs)) H1 :=
  ⟨a.hh, a.ff.trans (fun b o q => by
    by_cases z : b = p
    · subst z
      have := a.fh b o q
      rw [ho] at this
      rw [upd_same]
      exact this
    · rw [upd_ne z]; exact q), fun b x q => by
    by_cases z : b = p
    · rw [z, upd_same] at q; rw [z]; cases q; exact ho
    · rw [upd_ne z] at q; exact a.fh b x q, fun b q h1 ht h2 => by
    by_cases z : b = p
    · subst z
      have := a.hh b q h1
      rw [ho] at this
      cases this
      cases ht
    · rw [upd_ne z]
      exact a.fr b q h1 ht h2⟩
structure Gd (K : PySem.W.Frag) (st : Option Addr) (F H : Hp) : Prop where
  fh : Same F (Dl st H)
  ok : StG K st H
structure XE (K : PySem.W.Frag) (st : Option Addr) (F H F' H' : Hp) : Prop where
  ext : EX F (Dl st H) F' (Dl st H')
  ok : StG K st H'
section
variable {K : PySem.W.Frag} {st : Option Addr} {F H F1 H1 F2 H2 : Hp} {p : Addr} {o : HO}
theorem Gd.sub (g : Gd K st F H) : Same F H := g.fh.trans Dl_sub
theorem XE.gd (a : XE K st F H F1 H1) : Gd K st F1 H1 := ⟨a.ext.fh, a.ok⟩
theorem XE.refl (g : Gd K st F H) : XE K st F H F H := ⟨EX.refl g.fh, g.ok⟩
theorem XE.trans (a : XE K st F H F1 H1) (b : XE K st F1 H1 F2 H2) : XE K st F H F2 H2 := ⟨a.ext.trans b.ext, b.ok⟩
theorem XE.ff (a : XE K st F H F1 H1) : Same F F1 := a.ext.ff
theorem XE.new (a : XE K st F H F1 H1) (h : H1 p = none) (n : isTbl o = false := by rfl) : XE K st F H (upd F1 p o) (upd H1 p o) := by
  have ne := a.ok.ne h
  refine ⟨?_, a.ok.new h⟩
  rw [Dl_upd ne n]
  exact a.ext.new (Dl_none h)
theorem XE.mut (a : XE K st F H F1 H1) (h : H1 p = none) (n : isTbl o = false := by rfl) : XE K st F H F1 (upd H1 p o) := by
  have ne := a.ok.ne h
  refine ⟨?_, a.ok.new h⟩
  rw [Dl_upd ne n]
  exact a.ext.mut (Dl_none h)
theorem XE.chg {o' : HO} (a : XE K st F H F1 H1) (hp : Dl st H1 p = some o') (h : Dl st H p = none) (hf : F1 p = none) (n : isTbl o = false := by rfl) (x : isExt o' = false := by rfl) : XE K st F H F1 (upd H1 p o) := by
  have ne := Dl_ne hp
  refine ⟨?_, a.ok.chg hp x⟩
  rw [Dl_upd ne n]
  exact a.ext.chg h hf
theorem XE.frz (a : XE K st F H F1 H1) (h : Dl st H p = none) (hf : F1 p = none) (ho : Dl st H1 p = some o) : XE K st F H (upd F1 p o) H1 := ⟨a.ext.frz h hf ho, a.ok⟩
/-- what changes nothing that stood -/
theorem XE.pure (a : XE K st F H F1 H1) (b : Ext F1 H1 F2 H2) : XE K st F H F2 H2 := by
  refine ⟨a.ext.trans ⟨Dl_same b.hh, b.ff, fun c o h => Dl_of (b.fh c o h) (fun d e z => ?_) ?_, fun c o h1 _ h2 => b.fr c (by rw [(Dl_some h1).1]; simp) h2⟩, a.ok.same b.hh⟩
  · obtain ⟨s, hs, _⟩ := a.ok.ls d e
    have f1 : F1 d = none := by
      subst e
      exact sub_none a.ext.fh Dl_st
    have f2 := b.fr d (by rw [hs]; simp) f1
    rw [z, f2] at h
    cases h
  · cases o with
    | tbl ps => exact (Dl_some (a.ext.fh _ _ (b.nt c ps h))).2
    | _ => rfl
theorem XE.same (g : Gd K st F H) (e : Same H H1) : XE K st F H F H1 :=
  (XE.refl g).pure ⟨e, Same.refl F, g.sub.trans e, fun _ _ h => h, fun _ _ h => h⟩
theorem XE.tup {xs : List V} (a : XE K st F H F1 H1) (ho : Dl st H1 p = some (.tup xs)) : XE K st F H (upd F1 p (.tup xs)) H1 := ⟨a.ext.tup ho, a.ok⟩
theorem XE.f0 (a : XE K st F H F1 H1) (g : Gd K st F H) (h : H p = none) (e : F1 = F) : F1 p = none := by
  subst e
  exact sub_none g.sub h
end

theorem sqL_noT {K : PySem.W.Frag} {H : Hp} {a : Addr} {xs : List V} (h : SqL K H a xs) : SqL K (noT H) a xs := by
  rcases h with (h | ⟨o, h⟩) | h
  · exact .inl (.inl (noT_of h rfl))
  · exact .inl (.inr ⟨o, noT_of h rfl⟩)
  · exact .inr h
/-! ### a state for the draws comes and goes -/
theorem tabs_but {T : List (Addr × Str)} {H H' : Hp} {p : Addr} {u : HO} (t : LamX.Tabs T H) (hp : H p = some u) (n : isTbl u = false) (x : isExt u = false) (e : ∀ b o, b ≠ p → H b = some o → H' b = some o) : LamX.Tabs T H' := fun q hq => by
  obtain ⟨ps, h1, h2, h3⟩ := t q hq
  refine ⟨ps, e _ _ (fun z => ?_) h1, h2, fun pos cv hc => ?_⟩
  · rw [z, hp] at h1
    cases h1
    cases n
  · obtain ⟨c, e1, e2⟩ := h3 pos cv hc
    refine ⟨c, e1, e _ _ (fun z => ?_) e2⟩
    rw [z, hp] at e2
    unfold LamX.CodeO at e2
    cases e2
    cases x
theorem gd_sext {K : PySem.W.Frag} {st : Addr} {F H : Hp} (g : Gd K (some st) F H) : SExt st F H F H := by
  obtain ⟨s, hs, ok⟩ := g.ok.ls st rfl
  exact SExt.refl (g.fh.trans noT_sub) hs ok
theorem sext_xe {K : PySem.W.Frag} {st : Addr} {F H F' H' : Hp} (g : Gd K (some st) F H) (e : SExt st F H F' H') : XE K (some st) F H F' H' := by
  obtain ⟨s, hs, ok⟩ := g.ok.ls st rfl
  refine ⟨⟨noT_same e.ext.hh, e.ext.ff, fun b o h => noT_of (H := del H' st) (e.ext.fh b o h) ?_, fun b o h _ hf => e.ext.fr b (by rw [(noT_some (H := del H st) h).1]; simp) hf⟩, fun a z => by cases z; exact e.st, tabs_but g.ok.tb hs rfl rfl fun b o ne h => ?_⟩
  · cases o with
    | tbl ps => exact (Dl_some (g.fh _ _ (e.ext.nt b ps h))).2
    | _ => rfl
  · have := e.ext.hh b o (by rw [del_ne ne]; exact h)
    rw [del_ne ne] at this
    exact this
section
variable {K : PySem.W.Frag} {F H H1 F' H' : Hp} {p : Addr} {s : List V}
theorem Gd.enter (g : Gd K none F H) (sm : Same H H1) (np : H p = none) (hp : H1 p = some (.lst s)) (ok : StOk s) : Gd K (some p) F H1 :=
  ⟨fun a o h => by
    obtain ⟨h1, h2⟩ := Dl_some (g.fh a o h)
    exact Dl_of (sm _ _ h1) (fun b e z => by cases e; rw [z, np] at h1; cases h1) h2, fun a e => by cases e; exact ⟨s, hp, ok⟩, g.ok.tb.ext sm⟩
theorem XE.leave (sm : Same H H1) (np : H p = none) (x : XE K (some p) F H1 F' H') : XE K none F H F' H' := by
  have up : ∀ a o, Dl none H a = some o → Dl (some p) H1 a = some o := fun a o h => by
    obtain ⟨h1, h2⟩ := Dl_some h
    exact Dl_of (sm _ _ h1) (fun b e z => by cases e; rw [z, np] at h1; cases h1) h2
  have dn : ∀ a o, Dl (some p) H' a = some o → Dl none H' a = some o := fun a o h => noT_of (Dl_some h).1 (Dl_some h).2
  exact ⟨⟨fun a o h => dn a o (x.ext.hh a o (up a o h)), x.ext.ff, fun a o h => dn a o (x.ext.fh a o h), fun b o h ht hf => x.ext.fr b o (up b o h) ht hf⟩, ⟨fun _ e => (nomatch e), x.ok.tb⟩⟩
end
/-! ### what a value is worth -/
mutual
inductive R (K : PySem.W.Frag) (C : Addr) (st : Option Addr) (F : Hp) : V → D → Prop
  | non : R K C st F .non .non
  | bl (b : Bool) : R K C st F (.bl b) (.bl b)
  | int (i : Int) : R K C st F (.int i) (.int i)
  | str (s : Str) : R K C st F (.str s) (.str s)
  | lst {a : Addr} {vs : List V} {ds : List D} : SqL K F a vs → RA K C st F vs ds → R K C st F (.ref a) (.lst ds)
  | tup {a : Addr} {vs : List V} {ds : List D} : SqT K F a vs → RA K C st F vs ds → R K C st F (.ref a) (.tup ds)
  | stn {a : Addr} {ns : List Int} : F a = some (.tup (ns.map V.int)) → R K C st F (.ref a) (.stn ns)
  | ixt {a : Addr} {ob : Obj} {ns : List Int} : F a = some (.frz ob (.tup (ns.map V.int))) → ob.dict = none → R K C st F (.ref a) (.ixt ns)
  | bench {b : Addr} {B : BD} : BenchAt K C F b B → R K C st F (.ref b) (.bench B)
  | dic {a : Addr} {ks : List Key} {vs : List V} {ds : List D} : F a = some (.dK (ks.zip vs)) → ks.length = vs.length → RA K C st F vs ds → R K C st F (.ref a) (.dic ks ds)
  | dit {a : Addr} {ks : List (List Key)} {vs : List V} {ds : List D} : F a = some (.dT (ks.zip vs)) → ks.length = vs.length → RA K C st F vs ds → R K C st F (.ref a) (.dit ks ds)
  | st {a : Addr} : st = some a → R K C st F (.ref a) .st
  | exc0 {a : Addr} : R K C st F (.ref a) (.exc a none [] [])
  | exc {a dd : Addr} {ns : List Str} {vs : List V} {ds : List D} : F dd = some (.xd (ns.zip vs)) → ns.length = vs.length → RA K C st F vs ds → R K C st F (.ref a) (.exc a (some dd) ns ds)
  | lsx {a : Addr} {ns : List Int} : F a = some (.lst (ns.map V.int)) → R K C st F (.ref a) (.lsx a ns)
inductive RA (K : PySem.W.Frag) (C : Addr) (st : Option Addr) (F : Hp) : List V → List D → Prop
  | nil : RA K C st F [] []
  | cons {v : V} {vs : List V} {d : D} {ds : List D} : R K C st F v d → RA K C st F vs ds → RA K C st F (v :: vs) (d :: ds)
end
section
variable {K : PySem.W.Frag} {C : Addr} {st : Option Addr} {F F' H : Hp}
mutual
theorem R.mono (e : Same F F') : ∀ {v : V} {d : D}, R K C st F v d → R K C st F' v d
  | _, _, .non => .non
  | _, _, .bl b => .bl b
  | _, _, .int i => .int i
  | _, _, .str x => .str x
  | _, _, .lst h hs => .lst (sqL_mono e h) (RA.mono e hs)
  | _, _, .tup h hs => .tup (sqT_mono e h) (RA.mono e hs)
  | _, _, .stn h => .stn (e _ _ h)
  | _, _, .ixt h d => .ixt (e _ _ h) d
  | _, _, .bench h => .bench (h.mono e)
  | _, _, .dic h l hs => .dic (e _ _ h) l (RA.mono e hs)
  | _, _, .dit h l hs => .dit (e _ _ h) l (RA.mono e hs)
  | _, _, .st h => .st h
  | _, _, .exc0 => .exc0
  | _, _, .exc h l hs => .exc (e _ _ h) l (RA.mono e hs)
  | _, _, .lsx h => .lsx (e _ _ h)
theorem RA.mono (e : Same F F') : ∀ {vs : List V} {ds : List D}, RA K C st F vs ds → RA K C st F' vs ds
  | _, _, .nil => .nil
  | _, _, .cons h hs => .cons (R.mono e h) (RA.mono e hs)
end
theorem RA.len : ∀ {vs : List V} {ds : List D}, RA K C st F vs ds → vs.length = ds.length
  | _, _, .nil => rfl
  | _, _, .cons _ t => by rw [List.length_cons, List.length_cons, RA.len t]
theorem RA.get : ∀ {vs : List V} {ds : List D} {i : Nat} {d : D}, RA K C st F vs ds → ds[i]? = some d → ∃ v, vs[i]? = some v ∧ R K C st F v d
  | _, _, _, _, .nil, h => by simp at h
  | _, _, 0, _, .cons h _, e => by simp at e; subst e; exact ⟨_, rfl, h⟩
  | _, _, i + 1, _, .cons _ t, e => by
    obtain ⟨v, h1, h2⟩ := RA.get (i := i) t (by simpa using e)
    exact ⟨v, by simpa using h1, h2⟩
theorem RA.at : ∀ {vs : List V} {ds : List D} {i : Nat} {v : V}, RA K C st F vs ds → vs[i]? = some v → ∃ d, ds[i]? = some d ∧ R K C st F v d
  | _, _, _, _, .nil, h => by simp at h
  | _, _, 0, _, .cons h _, e => by simp at e; subst e; exact ⟨_, rfl, h⟩
  | _, _, i + 1, _, .cons _ t, e => by
    obtain ⟨v, h1, h2⟩ := RA.at (i := i) t (by simpa using e)
    exact ⟨v, by simpa using h1, h2⟩
theorem RA.of : ∀ {vs : List V} {ds : List D}, vs.length = ds.length → (∀ (i : Nat) v d, vs[i]? = some v → ds[i]? = some d → R K C st F v d) → RA K C st F vs ds
  | [], [], _, _ => .nil
  | [], _ :: _, h, _ => by simp at h
  | _ :: _, [], h, _ => by simp at h
  | v :: vs, d :: ds, h, f => .cons (f 0 v d rfl rfl) (RA.of (by simpa using h) fun i v d h1 h2 => f (i + 1) v d (by simpa using h1) (by simpa using h2))
theorem RA.app : ∀ {vs us : List V} {ds es : List D}, RA K C st F vs ds → RA K C st F us es → RA K C st F (vs ++ us) (ds ++ es)
  | _, _, _, _, .nil, h => h
  | _, _, _, _, .cons a b, h => .cons a (b.app h)
theorem RA.set {vs : List V} {ds : List D} {v : V} {d : D} (i : Nat) (h : RA K C st F vs ds) (r : R K C st F v d) : RA K C st F (vs.set i v) (ds.set i d) := by
  refine RA.of (by simp [h.len]) fun j x e h1 h2 => ?_
  rw [List.getElem?_set] at h1 h2
  by_cases z : i = j
  · subst z
    rw [if_pos rfl] at h1 h2
    by_cases w : i < vs.length
    · rw [if_pos w] at h1
      rw [if_pos (h.len ▸ w)] at h2
      cases h1
      cases h2
      exact r
    · rw [if_neg w] at h1
      cases h1
  · rw [if_neg z] at h1 h2
    obtain ⟨u, h3, h4⟩ := h.get h2
    rw [h1] at h3
    cases h3
    exact h4
theorem RA.drop : ∀ {vs : List V} {ds : List D} (n : Nat), RA K C st F vs ds → RA K C st F (vs.drop n) (ds.drop n)
  | _, _, 0, h => h
  | _, _, n + 1, .nil => .nil
  | _, _, n + 1, .cons _ b => b.drop n
theorem RA.take : ∀ {vs : List V} {ds : List D} (n : Nat), RA K C st F vs ds → RA K C st F (vs.take n) (ds.take n)
  | _, _, 0, _ => .nil
  | _, _, n + 1, .nil => .nil
  | _, _, n + 1, .cons a b => .cons a (b.take n)
theorem RA.ints : ∀ {vs : List V} {ns : List Int}, RA K C st F vs (ns.map D.int) → vs = ns.map V.int
  | [], [], _ => rfl
  | [], _ :: _, h => by cases h
  | _ :: _, [], h => by cases h
  | v :: vs, n :: ns, h => by
    cases h with
    | cons h1 h2 =>
      cases h1
      rw [RA.ints h2]
      rfl
theorem RA.ofInts : ∀ (ns : List Int), RA K C st F (ns.map V.int) (ns.map D.int)
  | [] => .nil
  | n :: ns => .cons (.int n) (RA.ofInts ns)
theorem RA.bools : ∀ {vs : List V} {ns : List Bool}, RA K C st F vs (ns.map D.bl) → vs = ns.map V.bl
  | [], [], _ => rfl
  | [], _ :: _, h => by cases h
  | _ :: _, [], h => by cases h
  | v :: vs, n :: ns, h => by
    cases h with
    | cons h1 h2 =>
      cases h1
      rw [RA.bools h2]
      rfl
end

/-! ### plain data and the model's own -/
mutual
def D.py : D → PyData
  | .non => .none
  | .bl b => .bool b
  | .int i => .int i
  | .str s => .str s
  | .lst l => .list (pys l)
  | .tup l => .tuple (pys l)
  | .stn ns => .tuple (ns.map PyData.int)
  | .ixt ns => .tuple (ns.map PyData.int)
  | .bench _ => .none
  | .dic _ _ => .none
  | .dit _ _ => .none
  | .st => .none
  | .exc _ _ _ _ => .none
  | .lsx _ _ => .none
def pys : List D → List PyData
  | [] => []
  | d :: l => d.py :: pys l
end
theorem pys_map : ∀ l : List D, pys l = l.map D.py
  | [] => by simp [pys]
  | d :: l => by rw [pys, pys_map l]; rfl
/-- plain, of a depth of at most n -/
inductive Pl : Nat → D → Prop
  | non {n : Nat} : Pl n .non
  | bl {n : Nat} {b : Bool} : Pl n (.bl b)
  | int {n : Nat} {i : Int} : Pl n (.int i)
  | str {n : Nat} {s : Str} : PySem.PyData.strOk s = true → Pl n (.str s)
  | lst {n : Nat} {l : List D} : (∀ d ∈ l, Pl n d) → Pl (n + 1) (.lst l)
  | tup {n : Nat} {l : List D} : (∀ d ∈ l, Pl n d) → Pl (n + 1) (.tup l)
  | stn {n : Nat} {ns : List Int} : Pl (n + 1) (.stn ns)
  | ixt {n : Nat} {ns : List Int} : Pl (n + 1) (.ixt ns)
theorem Pl.sh : ∀ {n : Nat} {d : D}, Pl n d → Sh n d.py := by
  intro n d h
  induction h with
  | non => exact ⟨rfl, Nat.zero_le _⟩
  | bl => exact ⟨rfl, Nat.zero_le _⟩
  | int => exact ⟨rfl, Nat.zero_le _⟩
  | str h => exact ⟨h, Nat.zero_le _⟩
  | lst h ih =>
    rw [D.py, pys_map]
    refine sh_list fun e he => ?_
    obtain ⟨x, hx, rfl⟩ := List.mem_map.mp he
    exact ih x hx
  | tup h ih =>
    rw [D.py, pys_map]
    refine sh_tuple fun e he => ?_
    obtain ⟨x, hx, rfl⟩ := List.mem_map.mp he
    exact ih x hx
  | stn =>
    rw [D.py]
    exact sh_mono (sh_tupleI _) (by omega)
  | ixt =>
    rw [D.py]
    exact sh_mono (sh_tupleI _) (by omega)
theorem Pl.mono : ∀ {n m : Nat} {d : D}, Pl n d → n ≤ m → Pl m d := by
  intro n m d h
  induction h generalizing m with
  | non => exact fun _ => .non
  | bl => exact fun _ => .bl
  | int => exact fun _ => .int
  | str h => exact fun _ => .str h
  | lst h ih =>
    intro q
    cases m with
    | zero => omega
    | succ m => exact .lst fun d hd => ih d hd (by omega)
  | tup h ih =>
    intro q
    cases m with
    | zero => omega
    | succ m => exact .tup fun d hd => ih d hd (by omega)
  | stn =>
    intro q
    cases m with
    | zero => omega
    | succ m => exact .stn
  | ixt =>
    intro q
    cases m with
    | zero => omega
    | succ m => exact .ixt
theorem pl_ints {n : Nat} (ns : List Int) : ∀ d ∈ ns.map D.int, Pl n d := fun d h => by
  obtain ⟨x, _, rfl⟩ := List.mem_map.mp h
  exact .int
theorem pl_map {α : Type} {n : Nat} {f : α → D} {l : List α} (h : ∀ x ∈ l, Pl n (f x)) : ∀ d ∈ l.map f, Pl n d := fun d hd => by
  obtain ⟨x, hx, rfl⟩ := List.mem_map.mp hd
  exact h x hx
theorem pl_nil {n : Nat} : ∀ d ∈ ([] : List D), Pl n d := fun _ h => nomatch h
theorem pl_cons {n : Nat} {d : D} {l : List D} (h : Pl n d) (t : ∀ e ∈ l, Pl n e) : ∀ e ∈ d :: l, Pl n e := fun e he => by
  rcases List.mem_cons.mp he with rfl | he
  · exact h
  · exact t e he
section
variable {K : PySem.W.Frag} {C : Addr} {st : Option Addr} {F : Hp}
theorem RA.dpAll {n : Nat} : ∀ {vs : List V} {ds : List D}, (∀ v d, d ∈ ds → R K C st F v d → Dp K F v d.py) → RA K C st F vs ds → DpAll K F vs (pys ds)
  | _, _, _, .nil => .nil
  | _, _, f, .cons h t => .cons (f _ _ List.mem_cons_self h) (RA.dpAll (n := n) (fun v d hd => f v d (List.mem_cons_of_mem _ hd)) t)
theorem Pl.dp : ∀ {n : Nat} {d : D}, Pl n d → ∀ {v : V}, R K C st F v d → Dp K F v d.py := by
  intro n d h
  induction h with
  | non => intro v r; cases r; exact .non
  | bl => intro v r; cases r; exact .bl _
  | int => intro v r; cases r; exact .int _
  | str h => intro v r; cases r; exact .str _
  | lst h ih =>
    intro v r
    cases r with
    | lst a b => exact .lst a (RA.dpAll (n := 0) (fun v d hd r => ih d hd r) b)
  | tup h ih =>
    intro v r
    cases r with
    | tup a b => exact .tup a (RA.dpAll (n := 0) (fun v d hd r => ih d hd r) b)
  | stn =>
    intro v r
    cases r with
    | stn a =>
      rw [D.py]
      exact dp_tupI (.inl (.inl a))
  | ixt =>
    intro v r
    cases r with
    | ixt a _ =>
      rw [D.py]
      exact dp_tupI (.inl (.inr ⟨_, a⟩))
end
def eqD (d e : D) : Bool := PyData.eqv d.py e.py
theorem eqD_self {n : Nat} {d : D} (h : Pl n d) : eqD d d = true := eqv_self h.sh
theorem eqD_int (i j : Int) : eqD (.int i) (.int j) = decide (i = j) := by
  show (i == j) = _
  by_cases h : i = j
  · simp [h]
  · simp [h]
theorem eqD_lst (l m : List D) : eqD (.lst l) (.lst m) = PyData.eqvAll (pys l) (pys m) := by
  unfold eqD
  rw [D.py, D.py]
  rfl
theorem pys_ints (ns : List Int) : pys (ns.map D.int) = ns.map PyData.int := by
  rw [pys_map, List.map_map]
  rfl
theorem eqD_intsL (ns ms : List Int) : eqD (.lst (ns.map D.int)) (.lst (ms.map D.int)) = decide (ns = ms) := by
  rw [eqD_lst, pys_ints, pys_ints, eqvAll_ints]
end G

namespace G
open PySem PySem.Spec PyProof.Rows L2
/-! ## a def's frame, by data -/
structure Cm where
  K : PySem.W.Frag
  C : Addr
  st : Option Addr
  F0 : Hp
  H0 : Hp
/-- what a slot holds: data; a list, a dict of its own, that may change -/
inductive Sl where
  | d (x : D) | own (l : List D) | ownK (ks : List Key) (l : List D) | ownT (ks : List (List Key)) (l : List D)
  | lk (p : Addr) (o : HO) (vs : List V) (l : List D)
def Sl.mine : Sl → Bool
  | .d _ => false
  | _ => true
abbrev Rho := List (Option Sl)
abbrev RV (M : Cm) (F : Hp) : V → D → Prop := R M.K M.C M.st F
abbrev RL (M : Cm) (F : Hp) : List V → List D → Prop := RA M.K M.C M.st F
abbrev XM (M : Cm) (F H F' H' : Hp) : Prop := XE M.K M.st F H F' H'
def SR (M : Cm) (F H : Hp) (v : V) : Sl → Prop
  | .d x => RV M F v x
  | .own l => ∃ p vs, v = .ref p ∧ Dl M.st H p = some (.lst vs) ∧ F p = none ∧ Dl M.st M.H0 p = none ∧ RL M F vs l
  | .ownK ks l => ∃ p vs, v = .ref p ∧ Dl M.st H p = some (.dK (ks.zip vs)) ∧ ks.length = vs.length ∧ F p = none ∧ Dl M.st M.H0 p = none ∧ RL M F vs l
  | .ownT ks l => ∃ p vs, v = .ref p ∧ Dl M.st H p = some (.dT (ks.zip vs)) ∧ ks.length = vs.length ∧ F p = none ∧ Dl M.st M.H0 p = none ∧ RL M F vs l
  | .lk p o vs l => v = .ref p ∧ Dl M.st H p = some o ∧ isTupO o = false ∧ F p = none ∧ Dl M.st M.H0 p = none ∧ RL M F vs l
structure Fr (M : Cm) (ρ : Rho) (σ : L2.St) (F H : Hp) : Prop where
  x : XM M M.F0 M.H0 F H
  len : σ.length = ρ.length
  each : ∀ (i : Nat) s, ρ[i]? = some (some s) → ∃ v, σ[i]? = some (some v) ∧ SR M F H v s
  dist : ∀ (i j : Nat) s t, i ≠ j → ρ[i]? = some (some s) → ρ[j]? = some (some t) → s.mine = true → t.mine = true → σ[i]? ≠ σ[j]?
section
variable {M : Cm} {ρ : Rho} {σ : L2.St} {F H F' H' : Hp} {v : V} {d : D} {i : Nat} {p : Addr} {vs : List V} {l : List D}
theorem Fr.gd (e : Fr M ρ σ F H) : Gd M.K M.st F H := e.x.gd
theorem SR.step {s : Sl} (x : XM M F H F' H') (h : SR M F H v s) : SR M F' H' v s := by
  cases s with
  | d y => exact R.mono x.ff h
  | own l =>
    obtain ⟨p, vs, rfl, h1, h2, h3, h4⟩ := h
    exact ⟨p, vs, rfl, x.ext.hh _ _ h1, x.ext.fr p _ h1 rfl h2, h3, h4.mono x.ff⟩
  | ownK ks l =>
    obtain ⟨p, vs, rfl, h1, h5, h2, h3, h4⟩ := h
    exact ⟨p, vs, rfl, x.ext.hh _ _ h1, h5, x.ext.fr p _ h1 rfl h2, h3, h4.mono x.ff⟩
  | ownT ks l =>
    obtain ⟨p, vs, rfl, h1, h5, h2, h3, h4⟩ := h
    exact ⟨p, vs, rfl, x.ext.hh _ _ h1, h5, x.ext.fr p _ h1 rfl h2, h3, h4.mono x.ff⟩
  | lk p o vs l =>
    obtain ⟨rfl, h1, h5, h2, h3, h4⟩ := h
    exact ⟨rfl, x.ext.hh _ _ h1, h5, x.ext.fr p _ h1 h5 h2, h3, h4.mono x.ff⟩
theorem Fr.step (e : Fr M ρ σ F H) (x : XM M F H F' H') : Fr M ρ σ F' H' :=
  ⟨e.x.trans x, e.len, fun i s h => by
    obtain ⟨v, h1, h2⟩ := e.each i s h
    exact ⟨v, h1, h2.step x⟩, e.dist⟩
/-- a slot takes data -/
theorem Fr.put (e : Fr M ρ σ F H) (r : RV M F v d) : Fr M (ρ.set i (some (.d d))) (σ.set i (some v)) F H := by
  refine ⟨e.x, by simp [e.len], fun j s h => ?_, fun a b s t ne h1 h2 m1 m2 => ?_⟩
  · rw [List.getElem?_set] at h
    by_cases z : i = j
    · subst z
      rw [if_pos rfl] at h
      by_cases w : i < ρ.length
      · rw [if_pos w] at h
        cases h
        exact ⟨v, by rw [List.getElem?_set_self (by rw [e.len]; exact w)], r⟩
      · rw [if_neg w] at h
        cases h
    · rw [if_neg z] at h
      rw [List.getElem?_set_ne z]
      exact e.each j s h
  · have own : ∀ (j : Nat) s, (ρ.set i (some (Sl.d d)))[j]? = some (some s) → s.mine = true → ρ[j]? = some (some s) ∧ i ≠ j := fun j s h m => by
      rw [List.getElem?_set] at h
      by_cases z : i = j
      · subst z
        rw [if_pos rfl] at h
        by_cases w : i < ρ.length
        · rw [if_pos w] at h
          cases h
          cases m
        · rw [if_neg w] at h
          cases h
      · rw [if_neg z] at h
        exact ⟨h, z⟩
    obtain ⟨a1, a2⟩ := own a s h1 m1
    obtain ⟨b1, b2⟩ := own b t h2 m2
    rw [List.getElem?_set_ne a2, List.getElem?_set_ne b2]
    exact e.dist a b s t ne a1 b1 m1 m2
/-- a slot takes what no other slot holds -/
theorem Fr.putO {s0 : Sl} (e : Fr M ρ σ F H) (r : SR M F H v s0) (nw : ∀ (j : Nat) s, j ≠ i → ρ[j]? = some (some s) → s.mine = true → σ[j]? ≠ some (some v)) : Fr M (ρ.set i (some s0)) (σ.set i (some v)) F H := by
  refine ⟨e.x, by simp [e.len], fun j s h => ?_, fun a b s t ne h1 h2 m1 m2 => ?_⟩
  · rw [List.getElem?_set] at h
    by_cases z : i = j
    · subst z
      rw [if_pos rfl] at h
      by_cases w : i < ρ.length
      · rw [if_pos w] at h
        cases h
        exact ⟨v, by rw [List.getElem?_set_self (by rw [e.len]; exact w)], r⟩
      · rw [if_neg w] at h
        cases h
    · rw [if_neg z] at h
      rw [List.getElem?_set_ne z]
      exact e.each j s h
  · by_cases za : i = a
    · subst za
      have zb : i ≠ b := ne
      rw [List.getElem?_set_ne zb] at h2
      rw [List.getElem?_set_ne zb]
      have w : i < σ.length := by
        rw [e.len]
        rw [List.getElem?_set] at h1
        rw [if_pos rfl] at h1
        by_cases w : i < ρ.length
        · exact w
        · rw [if_neg w] at h1; cases h1
      rw [List.getElem?_set_self w]
      exact fun q => nw b t (Ne.symm zb) h2 m2 q.symm
    · rw [List.getElem?_set_ne za] at h1
      rw [List.getElem?_set_ne za]
      by_cases zb : i = b
      · subst zb
        have w : i < σ.length := by
          rw [e.len]
          rw [List.getElem?_set] at h2
          rw [if_pos rfl] at h2
          by_cases w : i < ρ.length
          · exact w
          · rw [if_neg w] at h2; cases h2
        rw [List.getElem?_set_self w]
        exact nw a s (fun q => za q.symm) h1 m1
      · rw [List.getElem?_set_ne zb] at h2
        rw [List.getElem?_set_ne zb]
        exact e.dist a b s t ne h1 h2 m1 m2
/-- where a thing of its own stands -/
theorem SR.mine_at {s : Sl} (h : SR M F H v s) (m : s.mine = true) : ∃ p o, v = .ref p ∧ Dl M.st H p = some o ∧ F p = none ∧ Dl M.st M.H0 p = none := by
  cases s with
  | d y => cases m
  | own l =>
    obtain ⟨p, vs, rfl, h1, h2, h3, h4⟩ := h
    exact ⟨p, _, rfl, h1, h2, h3⟩
  | ownK ks l =>
    obtain ⟨p, vs, rfl, h1, h5, h2, h3, h4⟩ := h
    exact ⟨p, _, rfl, h1, h2, h3⟩
  | ownT ks l =>
    obtain ⟨p, vs, rfl, h1, h5, h2, h3, h4⟩ := h
    exact ⟨p, _, rfl, h1, h2, h3⟩
  | lk p o vs l =>
    obtain ⟨rfl, h1, h5, h2, h3, h4⟩ := h
    exact ⟨p, _, rfl, h1, h2, h3⟩
/-- a thing of its own changes -/
theorem SR.other {s : Sl} {o : HO} (h : SR M F H v s) (fp : F p = none) (ne : s.mine = true → v ≠ .ref p) (hp : ∀ a, M.st = some a → p ≠ a) : SR M F (upd H p o) v s := by
  cases s with
  | d y => exact h
  | own l =>
    obtain ⟨q, vs, rfl, h1, h2, h3, h4⟩ := h
    refine ⟨q, vs, rfl, ?_, h2, h3, h4⟩
    rw [Dl_off (fun z => ne rfl (by rw [z]))]
    exact h1
  | ownK ks l =>
    obtain ⟨q, vs, rfl, h1, h5, h2, h3, h4⟩ := h
    refine ⟨q, vs, rfl, ?_, h5, h2, h3, h4⟩
    rw [Dl_off (fun z => ne rfl (by rw [z]))]
    exact h1
  | ownT ks l =>
    obtain ⟨q, vs, rfl, h1, h5, h2, h3, h4⟩ := h
    refine ⟨q, vs, rfl, ?_, h5, h2, h3, h4⟩
    rw [Dl_off (fun z => ne rfl (by rw [z]))]
    exact h1
  | lk q o vs l =>
    obtain ⟨rfl, h1, h5, h2, h3, h4⟩ := h
    refine ⟨rfl, ?_, h5, h2, h3, h4⟩
    rw [Dl_off (fun z => ne rfl (by rw [z]))]
    exact h1
theorem Fr.chg {s0 s1 : Sl} {o o' : HO} (e : Fr M ρ σ F H) (hi : ρ[i]? = some (some s0)) (m0 : s0.mine = true) (hv : σ[i]? = some (some (.ref p))) (hp : Dl M.st H p = some o') (fp : F p = none) (h0 : Dl M.st M.H0 p = none) (r : SR M F (upd H p o) (.ref p) s1) (n : isTbl o = false := by rfl) (x : isExt o' = false := by rfl) : Fr M (ρ.set i (some s1)) σ F (upd H p o) := by
  have w : i < ρ.length := (List.getElem?_eq_some_iff.mp hi).1
  have hne := Dl_ne hp
  refine ⟨e.x.chg hp h0 fp n x, by simp [e.len], fun j s h => ?_, fun a b s t ne h1 h2 m1 m2 => ?_⟩
  · by_cases z : i = j
    · subst z
      rw [List.getElem?_set_self w] at h
      cases h
      exact ⟨_, hv, r⟩
    · rw [List.getElem?_set_ne z] at h
      obtain ⟨v, q1, q2⟩ := e.each j s h
      refine ⟨v, q1, q2.other fp (fun m q => ?_) hne⟩
      subst q
      exact e.dist i j s0 s z hi h m0 m (by rw [hv, q1])
  · have get : ∀ (j : Nat) s, (ρ.set i (some s1))[j]? = some (some s) → s.mine = true → ∃ s', ρ[j]? = some (some s') ∧ s'.mine = true := fun j s h m => by
      by_cases z : i = j
      · subst z
        exact ⟨s0, hi, m0⟩
      · rw [List.getElem?_set_ne z] at h
        exact ⟨s, h, m⟩
    obtain ⟨s', a1, a2⟩ := get a s h1 m1
    obtain ⟨t', b1, b2⟩ := get b t h2 m2
    exact e.dist a b s' t' ne a1 b1 a2 b2
/-- a thing of its own becomes data -/
theorem Fr.frz {s0 : Sl} {o : HO} (e : Fr M ρ σ F H) (hi : ρ[i]? = some (some s0)) (m0 : s0.mine = true) (hv : σ[i]? = some (some (.ref p))) (hp : Dl M.st H p = some o) (fp : F p = none) (h0 : Dl M.st M.H0 p = none) (r : RV M (upd F p o) (.ref p) d) : Fr M (ρ.set i (some (.d d))) σ (upd F p o) H := by
  have w : i < ρ.length := (List.getElem?_eq_some_iff.mp hi).1
  refine ⟨e.x.frz h0 fp hp, by simp [e.len], fun j s h => ?_, fun a b s t ne h1 h2 m1 m2 => ?_⟩
  · by_cases z : i = j
    · subst z
      rw [List.getElem?_set_self w] at h
      cases h
      exact ⟨_, hv, r⟩
    · rw [List.getElem?_set_ne z] at h
      obtain ⟨v, q1, q2⟩ := e.each j s h
      refine ⟨v, q1, ?_⟩
      have key : ∀ q, v = .ref q → s.mine = true → q ≠ p := fun q e1 m e2 => by
        subst e1 e2
        exact e.dist i j s0 s z hi h m0 m (by rw [hv, q1])
      cases s with
      | d y => exact R.mono (same_upd fp) q2
      | own l =>
        obtain ⟨q, vs, rfl, h1, h2, h3, h4⟩ := q2
        exact ⟨q, vs, rfl, h1, by rw [upd_ne (key q rfl rfl)]; exact h2, h3, h4.mono (same_upd fp)⟩
      | ownK ks l =>
        obtain ⟨q, vs, rfl, h1, h5, h2, h3, h4⟩ := q2
        exact ⟨q, vs, rfl, h1, h5, by rw [upd_ne (key q rfl rfl)]; exact h2, h3, h4.mono (same_upd fp)⟩
      | ownT ks l =>
        obtain ⟨q, vs, rfl, h1, h5, h2, h3, h4⟩ := q2
        exact ⟨q, vs, rfl, h1, h5, by rw [upd_ne (key q rfl rfl)]; exact h2, h3, h4.mono (same_upd fp)⟩
      | lk q o vs l =>
        obtain ⟨rfl, h1, h5, h2, h3, h4⟩ := q2
        exact ⟨rfl, h1, h5, by rw [upd_ne (key q rfl rfl)]; exact h2, h3, h4.mono (same_upd fp)⟩
  · have own : ∀ (j : Nat) s, (ρ.set i (some (Sl.d d)))[j]? = some (some s) → s.mine = true → ρ[j]? = some (some s) := fun j s h m => by
      by_cases z : i = j
      · subst z
        rw [List.getElem?_set_self w] at h
        cases h
        cases m
      · rw [List.getElem?_set_ne z] at h
        exact h
    exact e.dist a b s t ne (own a s h1 m1) (own b t h2 m2) m1 m2
def wipeR (ρ : Rho) : List Nat → Rho
  | [] => ρ
  | v :: vs => (wipeR ρ vs).set v none
theorem Fr.drop (e : Fr M ρ σ F H) (i : Nat) : Fr M (ρ.set i none) (σ.set i none) F H := by
  have get : ∀ (j : Nat) s, (ρ.set i none)[j]? = some (some s) → ρ[j]? = some (some s) ∧ i ≠ j := fun j s h => by
    rw [List.getElem?_set] at h
    by_cases z : i = j
    · rw [if_pos z] at h
      by_cases w : i < ρ.length
      · rw [if_pos w] at h; cases h
      · rw [if_neg w] at h; cases h
    · rw [if_neg z] at h
      exact ⟨h, z⟩
  refine ⟨e.x, by simp [e.len], fun j s h => ?_, fun a b s t ne h1 h2 m1 m2 => ?_⟩
  · obtain ⟨h, z⟩ := get j s h
    rw [List.getElem?_set_ne z]
    exact e.each j s h
  · obtain ⟨h1, z1⟩ := get a s h1
    obtain ⟨h2, z2⟩ := get b t h2
    rw [List.getElem?_set_ne z1, List.getElem?_set_ne z2]
    exact e.dist a b s t ne h1 h2 m1 m2
theorem Fr.wipe (e : Fr M ρ σ F H) : ∀ vs : List Nat, Fr M (wipeR ρ vs) (L2.wipe σ vs) F H
  | [] => e
  | v :: vs => (e.wipe vs).drop v
end
/-! ### borrowed: what is read at once -/
def RB (M : Cm) (F H : Hp) (v : V) (d : D) : Prop := RV M F v d ∨ (∃ p vs l, v = .ref p ∧ d = .lst l ∧ Dl M.st H p = some (.lst vs) ∧ RL M F vs l) ∨
  (∃ p ks vs l, v = .ref p ∧ d = .dic ks l ∧ Dl M.st H p = some (.dK (ks.zip vs)) ∧ ks.length = vs.length ∧ RL M F vs l) ∨ (∃ p ks vs l, v = .ref p ∧ d = .dit ks l ∧ Dl M.st H p = some (.dT (ks.zip vs)) ∧ ks.length = vs.length ∧ RL M F vs l)
section
variable {M : Cm} {F H F' H' : Hp} {v : V} {d : D} {l : List D}
theorem RB.step (x : XM M F H F' H') (h : RB M F H v d) : RB M F' H' v d := by
  rcases h with h | ⟨p, vs, l, rfl, rfl, h1, h2⟩ | ⟨p, ks, vs, l, rfl, rfl, h1, h3, h2⟩ | ⟨p, ks, vs, l, rfl, rfl, h1, h3, h2⟩
  · exact .inl (R.mono x.ff h)
  · exact .inr (.inl ⟨p, vs, l, rfl, rfl, x.ext.hh _ _ h1, h2.mono x.ff⟩)
  · exact .inr (.inr (.inl ⟨p, ks, vs, l, rfl, rfl, x.ext.hh _ _ h1, h3, h2.mono x.ff⟩))
  · exact .inr (.inr (.inr ⟨p, ks, vs, l, rfl, rfl, x.ext.hh _ _ h1, h3, h2.mono x.ff⟩))
theorem RB.lst (g : Gd M.K M.st F H) (h : RB M F H v (.lst l)) : ∃ p vs, v = .ref p ∧ SqL M.K H p vs ∧ RL M F vs l := by
  rcases h with h | ⟨p, vs, l', rfl, e, h1, h2⟩ | ⟨p, ks, vs, l', rfl, e, h1, h3, h2⟩ | ⟨p, ks, vs, l', rfl, e, h1, h3, h2⟩
  · cases h with
    | lst a b => exact ⟨_, _, rfl, sqL_mono g.sub a, b⟩
  · cases e
    exact ⟨p, vs, rfl, .inl (.inl (Dl_sub _ _ h1)), h2⟩
  · cases e
  · cases e
theorem RB.tup (h : RB M F H v (.tup l)) : ∃ p vs, v = .ref p ∧ SqT M.K F p vs ∧ RL M F vs l := by
  rcases h with h | ⟨p, vs, l', rfl, e, h1, h2⟩ | ⟨p, ks, vs, l', rfl, e, h1, h3, h2⟩ | ⟨p, ks, vs, l', rfl, e, h1, h3, h2⟩
  · cases h with
    | tup a b => exact ⟨_, _, rfl, a, b⟩
  · cases e
  · cases e
  · cases e
theorem RB.stn {ns : List Int} (h : RB M F H v (.stn ns)) : ∃ p, v = .ref p ∧ F p = some (.tup (ns.map V.int)) := by
  rcases h with h | ⟨p, vs, l', rfl, e, h1, h2⟩ | ⟨p, ks, vs, l', rfl, e, h1, h3, h2⟩ | ⟨p, ks, vs, l', rfl, e, h1, h3, h2⟩
  · cases h with
    | stn a => exact ⟨_, rfl, a⟩
  · cases e
  · cases e
  · cases e
theorem RB.ixt {ns : List Int} (h : RB M F H v (.ixt ns)) : ∃ p ob, v = .ref p ∧ F p = some (.frz ob (.tup (ns.map V.int))) ∧ ob.dict = none := by
  rcases h with h | ⟨p, vs, l', rfl, e, h1, h2⟩ | ⟨p, ks, vs, l', rfl, e, h1, h3, h2⟩ | ⟨p, ks, vs, l', rfl, e, h1, h3, h2⟩
  · cases h with
    | ixt a b => exact ⟨_, _, rfl, a, b⟩
  · cases e
  · cases e
  · cases e
theorem RB.int {i : Int} (h : RB M F H v (.int i)) : v = .int i := by
  rcases h with h | ⟨p, vs, l', rfl, e, h1, h2⟩ | ⟨p, ks, vs, l', rfl, e, h1, h3, h2⟩ | ⟨p, ks, vs, l', rfl, e, h1, h3, h2⟩
  · cases h; rfl
  · cases e
  · cases e
  · cases e
theorem RB.bl {i : Bool} (h : RB M F H v (.bl i)) : v = .bl i := by
  rcases h with h | ⟨p, vs, l', rfl, e, h1, h2⟩ | ⟨p, ks, vs, l', rfl, e, h1, h3, h2⟩ | ⟨p, ks, vs, l', rfl, e, h1, h3, h2⟩
  · cases h; rfl
  · cases e
  · cases e
  · cases e
theorem RB.str {i : Str} (h : RB M F H v (.str i)) : v = .str i := by
  rcases h with h | ⟨p, vs, l', rfl, e, h1, h2⟩ | ⟨p, ks, vs, l', rfl, e, h1, h3, h2⟩ | ⟨p, ks, vs, l', rfl, e, h1, h3, h2⟩
  · cases h; rfl
  · cases e
  · cases e
  · cases e
theorem RB.non (h : RB M F H v .non) : v = .non := by
  rcases h with h | ⟨p, vs, l', rfl, e, h1, h2⟩ | ⟨p, ks, vs, l', rfl, e, h1, h3, h2⟩ | ⟨p, ks, vs, l', rfl, e, h1, h3, h2⟩
  · cases h; rfl
  · cases e
  · cases e
  · cases e
theorem RB.bench {B : BD} (h : RB M F H v (.bench B)) : ∃ b, v = .ref b ∧ BenchAt M.K M.C F b B := by
  rcases h with h | ⟨p, vs, l', rfl, e, h1, h2⟩ | ⟨p, ks, vs, l', rfl, e, h1, h3, h2⟩ | ⟨p, ks, vs, l', rfl, e, h1, h3, h2⟩
  · cases h with
    | bench a => exact ⟨_, rfl, a⟩
  · cases e
  · cases e
  · cases e
theorem RB.dic {ks : List Key} (g : Gd M.K M.st F H) (h : RB M F H v (.dic ks l)) : ∃ p vs, v = .ref p ∧ H p = some (.dK (ks.zip vs)) ∧ ks.length = vs.length ∧ RL M F vs l := by
  rcases h with h | ⟨p, vs, l', rfl, e, h1, h2⟩ | ⟨p, ks, vs, l', rfl, e, h1, h3, h2⟩ | ⟨p, ks, vs, l', rfl, e, h1, h3, h2⟩
  · cases h with
    | dic a b c => exact ⟨_, _, rfl, g.sub _ _ a, b, c⟩
  · cases e
  · cases e
    exact ⟨p, vs, rfl, Dl_sub _ _ h1, h3, h2⟩
  · cases e
theorem RB.dit {ks : List (List Key)} (g : Gd M.K M.st F H) (h : RB M F H v (.dit ks l)) : ∃ p vs, v = .ref p ∧ H p = some (.dT (ks.zip vs)) ∧ ks.length = vs.length ∧ RL M F vs l := by
  rcases h with h | ⟨p, vs, l', rfl, e, h1, h2⟩ | ⟨p, ks, vs, l', rfl, e, h1, h3, h2⟩ | ⟨p, ks, vs, l', rfl, e, h1, h3, h2⟩
  · cases h with
    | dit a b c => exact ⟨_, _, rfl, g.sub _ _ a, b, c⟩
  · cases e
  · cases e
  · cases e
    exact ⟨p, vs, rfl, Dl_sub _ _ h1, h3, h2⟩
/-- plain data, borrowed, as the model's own -/
theorem RB.dp {n : Nat} (g : Gd M.K M.st F H) (hp : Pl n d) (h : RB M F H v d) : Dp M.K H v d.py := by
  rcases h with h | ⟨p, vs, l', rfl, e, h1, h2⟩ | ⟨p, ks, vs, l', rfl, e, h1, h3, h2⟩ | ⟨p, ks, vs, l', rfl, e, h1, h3, h2⟩
  · exact dp_mono g.sub (hp.dp h)
  · subst e
    cases hp with
    | lst a => exact .lst (.inl (.inl (Dl_sub _ _ h1))) (dpAll_mono g.sub (RA.dpAll (n := 0) (fun v d hd r => (a d hd).dp r) h2))
  · subst e
    cases hp
  · subst e
    cases hp
end

/-! ## the judgements -/
def WE (M : Cm) (t : TE) (ρ : Rho) (k : D → Prop) : Prop := ∀ σ F H Q, Fr M ρ σ F H → (∀ v d F' H', XM M F H F' H' → RV M F' v d → k d → Q v H') → t σ H Q
def WB (M : Cm) (t : TE) (ρ : Rho) (k : D → Prop) : Prop := ∀ σ F H Q, Fr M ρ σ F H → (∀ v d F' H', XM M F H F' H' → RB M F' H' v d → k d → Q v H') → t σ H Q
/-- a new list of its own -/
def WO (M : Cm) (t : TE) (ρ : Rho) (k : List D → Prop) : Prop := ∀ σ F H Q, Fr M ρ σ F H → (∀ p vs l F' H', XM M F H F' H' → Dl M.st H' p = some (.lst vs) → F' p = none → Dl M.st H p = none → RL M F' vs l → k l → Q (.ref p) H') → t σ H Q
def WT (M : Cm) (t : TT) (ρ : Rho) (k : Bool → Prop) : Prop := ∀ σ F H Q, Fr M ρ σ F H → (∀ b F' H', XM M F H F' H' → k b → Q b H') → t σ H Q
def WA (M : Cm) (t : TA) (ρ : Rho) (k : List D → Prop) : Prop := ∀ σ F H Q, Fr M ρ σ F H → (∀ vs ds F' H', XM M F H F' H' → RL M F' vs ds → k ds → Q vs H') → t σ H Q
inductive RBs (M : Cm) (F H : Hp) : List V → List D → Prop
  | nil : RBs M F H [] []
  | cons {v : V} {d : D} {vs : List V} {ds : List D} : RB M F H v d → RBs M F H vs ds → RBs M F H (v :: vs) (d :: ds)
theorem RBs.step {M : Cm} {F H F' H' : Hp} (x : XM M F H F' H') : ∀ {vs : List V} {ds : List D}, RBs M F H vs ds → RBs M F' H' vs ds
  | _, _, .nil => .nil
  | _, _, .cons h t => .cons (h.step x) (t.step x)
def WAB (M : Cm) (t : TA) (ρ : Rho) (k : List D → Prop) : Prop := ∀ σ F H Q, Fr M ρ σ F H → (∀ vs ds F' H', XM M F H F' H' → RBs M F' H' vs ds → k ds → Q vs H') → t σ H Q
def WS (M : Cm) (t : TS) (ρ : Rho) (nx : Rho → Prop) (rt : Sl → Rho → Prop) (bk ct : Rho → Prop) : Prop := ∀ σ F H (E : Ends), Fr M ρ σ F H →
  (∀ ρ' σ' F' H', Same F F' → Fr M ρ' σ' F' H' → nx ρ' → E.nx σ' H') → (∀ v s ρ' σ' F' H', Fr M ρ' σ' F' H' → SR M F' H' v s → rt s ρ' → E.rt v H') →
  (∀ ρ' σ' F' H', Same F F' → Fr M ρ' σ' F' H' → bk ρ' → E.bk σ' H') → (∀ ρ' σ' F' H', Same F F' → Fr M ρ' σ' F' H' → ct ρ' → E.ct σ' H') → t E σ H
/-- data are told -/
abbrev rtD (k : D → Prop) : Sl → Rho → Prop := fun s _ => match s with
  | .d d => k d
  | _ => False
/-- a list of its own is told -/
abbrev rtO (k : List D → Prop) : Sl → Rho → Prop := fun s _ => match s with
  | .own l => k l
  | _ => False
def WG (M : Cm) (S : Nat → Prop) (g : TG) (d : D) (ρ : Rho) (k : Rho → Prop) : Prop := ∀ v σ F H Q, Fr M ρ σ F H → RV M F v d →
  (∀ ρ' σ' F' H', XM M F H F' H' → Fr M ρ' σ' F' H' → σ'.length = σ.length → (∀ i : Nat, ¬ S i → σ'[i]? = σ[i]?) → (∀ (i : Nat) s, ρ'[i]? = some (some s) → s.mine = true → ρ[i]? = some (some s) ∧ σ'[i]? = σ[i]?) → k ρ' → Q σ' H') → g v σ H Q
def WGs (M : Cm) (S : Nat → Prop) (g : TGs) (ds : List D) (ρ : Rho) (k : Rho → Prop) : Prop := ∀ vs σ F H Q, Fr M ρ σ F H → RL M F vs ds →
  (∀ ρ' σ' F' H', XM M F H F' H' → Fr M ρ' σ' F' H' → σ'.length = σ.length → (∀ i : Nat, ¬ S i → σ'[i]? = σ[i]?) → (∀ (i : Nat) s, ρ'[i]? = some (some s) → s.mine = true → ρ[i]? = some (some s) ∧ σ'[i]? = σ[i]?) → k ρ' → Q σ' H') → g vs σ H Q
/-- an iterator over data that stays -/
def Dw (M : Cm) (J : It) (l : List D) (F : Hp) : Prop := ∃ G Y, Walk J l.length G Y ∧ (∀ F' H', Same F F' → Gd M.K M.st F' H' → G H') ∧ ∀ (i : Nat) x Fa Ha Hb d, Same F Fa → Gd M.K M.st Fa Ha → Y i Ha x Hb → l[i]? = some d → ∃ Fb, XM M Fa Ha Fb Hb ∧ RV M Fb x d
/-- an iterator over what is borrowed -/
def Dv (M : Cm) (J : It) (l : List D) (F H : Hp) : Prop := ∃ G Y, Walk J l.length G Y ∧ (∀ F' H', XM M F H F' H' → G H') ∧ ∀ (i : Nat) x Fa Ha Hb d, XM M F H Fa Ha → Y i Ha x Hb → l[i]? = some d → ∃ Fb, XM M Fa Ha Fb Hb ∧ RV M Fb x d
def WI (M : Cm) (wi : TI) (ρ : Rho) (k : List D → Prop) : Prop := ∀ σ F H Q, Fr M ρ σ F H → (∀ J l F' H', XM M F H F' H' → Dw M J l F' → k l → Q J H') → wi σ H Q
def WV (M : Cm) (wi : TI) (ρ : Rho) (k : List D → Prop) : Prop := ∀ σ F H Q, Fr M ρ σ F H → (∀ J l F' H', XM M F H F' H' → Dv M J l F' H' → k l → Q J H') → wi σ H Q
theorem Dw.dv {M : Cm} {J : It} {l : List D} {F H : Hp} (g : Gd M.K M.st F H) (w : Dw M J l F) : Dv M J l F H := by
  obtain ⟨G, Y, w1, w2, w3⟩ := w
  exact ⟨G, Y, w1, fun F' H' x => w2 F' H' x.ff x.gd, fun i x Fa Ha Hb d e => w3 i x Fa Ha Hb d e.ff e.gd⟩
theorem WI.wv {M : Cm} {wi : TI} {ρ : Rho} {k : List D → Prop} (h : WI M wi ρ k) : WV M wi ρ k := fun σ F H Q e q => h σ F H Q e fun J l F' H' x w => q J l F' H' x (w.dv x.gd)
theorem WE.wb {M : Cm} {t : TE} {ρ : Rho} {k : D → Prop} (h : WE M t ρ k) : WB M t ρ k := fun σ F H Q e q => h σ F H Q e fun v d F' H' x r => q v d F' H' x (.inl r)
theorem WO.we {M : Cm} {t : TE} {ρ : Rho} {k : D → Prop} (h : WO M t ρ fun l => k (.lst l)) : WE M t ρ k := fun σ F H Q e q => h σ F H Q e fun p vs l F' H' x h1 h2 h3 h4 => q _ _ (upd F' p (.lst vs)) H' (x.frz h3 h2 h1) (.lst (.inl (.inl upd_same)) (h4.mono (same_upd h2)))
end G

namespace G
open PySem PySem.Spec PyProof.Rows L2
section
variable {M : Cm} {ρ : Rho} {k : D → Prop} {kb : Bool → Prop} {ka : List D → Prop} {kr : Rho → Prop} {ta tb tc te : TE} {t u : TT} {tr : TA} {i : Nat} {d : D} {l : List D}
/-! ### expressions -/
theorem we_var (h : ρ[i]? = some (some (.d d))) (q : k d) : WE M (tVar i) ρ k := fun σ F H Q e f => by
  obtain ⟨v, h1, h2⟩ := e.each i _ h
  exact ⟨v, h1, f v d F H (XE.refl e.gd) h2 q⟩
theorem wb_own (h : ρ[i]? = some (some (.own l))) (q : k (.lst l)) : WB M (tVar i) ρ k := fun σ F H Q e f => by
  obtain ⟨v, h1, p, vs, rfl, h2, h3, h4, h5⟩ := e.each i _ h
  exact ⟨_, h1, f _ _ F H (XE.refl e.gd) (.inr (.inl ⟨p, vs, l, rfl, rfl, h2, h5⟩)) q⟩
theorem wb_ownK {ks : List Key} (h : ρ[i]? = some (some (.ownK ks l))) (q : k (.dic ks l)) : WB M (tVar i) ρ k := fun σ F H Q e f => by
  obtain ⟨v, h1, p, vs, rfl, h2, h6, h3, h4, h5⟩ := e.each i _ h
  exact ⟨_, h1, f _ _ F H (XE.refl e.gd) (.inr (.inr (.inl ⟨p, ks, vs, l, rfl, rfl, h2, h6, h5⟩))) q⟩
theorem wb_ownT {ks : List (List Key)} (h : ρ[i]? = some (some (.ownT ks l))) (q : k (.dit ks l)) : WB M (tVar i) ρ k := fun σ F H Q e f => by
  obtain ⟨v, h1, p, vs, rfl, h2, h6, h3, h4, h5⟩ := e.each i _ h
  exact ⟨_, h1, f _ _ F H (XE.refl e.gd) (.inr (.inr (.inr ⟨p, ks, vs, l, rfl, rfl, h2, h6, h5⟩))) q⟩
theorem we_int {n : Int} (q : k (.int n)) : WE M (tC (.int n)) ρ k := fun σ F H Q e f => f _ _ F H (XE.refl e.gd) (.int n) q
theorem we_str {n : Str} (q : k (.str n)) : WE M (tC (.str n)) ρ k := fun σ F H Q e f => f _ _ F H (XE.refl e.gd) (.str n) q
theorem we_bl {n : Bool} (q : k (.bl n)) : WE M (tC (.bl n)) ρ k := fun σ F H Q e f => f _ _ F H (XE.refl e.gd) (.bl n) q
theorem we_non (q : k .non) : WE M (tC .non) ρ k := fun σ F H Q e f => f _ _ F H (XE.refl e.gd) .non q
theorem WE.mono {k' : D → Prop} (h : WE M te ρ k) (f : ∀ d, k d → k' d) : WE M te ρ k' := fun σ F H Q e q => h σ F H Q e fun v d F' H' x r kd => q v d F' H' x r (f d kd)
theorem WB.mono {k' : D → Prop} (h : WB M te ρ k) (f : ∀ d, k d → k' d) : WB M te ρ k' := fun σ F H Q e q => h σ F H Q e fun v d F' H' x r kd => q v d F' H' x r (f d kd)
/-- a binary operator by data -/
def OP (M : Cm) (r : R2) (d e : D) (k : D → Prop) : Prop := ∀ F H x y Q, Gd M.K M.st F H → RB M F H x d → RB M F H y e → (∀ v d F' H', XM M F H F' H' → RV M F' v d → k d → Q v H') → r x y H Q
theorem we_op {r : R2} (h : WB M ta ρ fun d => WB M tb ρ fun e => OP M r d e k) : WE M (tOp r ta tb) ρ k := fun σ F H Q e f =>
  h σ F H _ e fun x d F1 H1 x1 r1 h1 => h1 σ F1 H1 _ (e.step x1) fun y d2 F2 H2 x2 r2 h2 => h2 F2 H2 x y Q x2.gd (r1.step x2) r2 fun v d3 F3 H3 x3 => f v d3 F3 H3 ((x1.trans x2).trans x3)
/-- .. that makes a new list -/
def OPO (M : Cm) (r : R2) (d e : D) (k : List D → Prop) : Prop := ∀ F H x y Q, Gd M.K M.st F H → RB M F H x d → RB M F H y e → (∀ p vs l F' H', XM M F H F' H' → Dl M.st H' p = some (.lst vs) → F' p = none → Dl M.st H p = none → RL M F' vs l → k l → Q (.ref p) H') → r x y H Q
theorem wo_op {r : R2} (h : WB M ta ρ fun d => WB M tb ρ fun e => OPO M r d e ka) : WO M (tOp r ta tb) ρ ka := fun σ F H Q e f =>
  h σ F H _ e fun x d F1 H1 x1 r1 h1 => h1 σ F1 H1 _ (e.step x1) fun y d2 F2 H2 x2 r2 h2 => h2 F2 H2 x y Q x2.gd (r1.step x2) r2 fun p vs l F3 H3 x3 a b c => f p vs l F3 H3 ((x1.trans x2).trans x3) a b ((x1.trans x2).ext.hh.free c)
section
variable {m n : Int} {f : Int → Int → V} {r : R2} {e : D}
theorem op_I0i {g : Int → Int → Int} (q : k (.int (g m n))) : OP M (rI0 fun i j => .int (g i j)) (.int m) (.int n) k := fun F H x y Q g0 rx ry f => by
  cases rx.int
  cases ry.int
  exact ⟨m, n, rfl, rfl, f _ _ F H (XE.refl g0) (.int _) q⟩
theorem op_I0b {g : Int → Int → Bool} (q : k (.bl (g m n))) : OP M (rI0 fun i j => .bl (g i j)) (.int m) (.int n) k := fun F H x y Q g0 rx ry f => by
  cases rx.int
  cases ry.int
  exact ⟨m, n, rfl, rfl, f _ _ F H (XE.refl g0) (.bl _) q⟩
theorem op_Ii {cc : Int → Int → Prop} {g : Int → Int → Int} (c : cc m n) (q : k (.int (g m n))) : OP M (rI cc fun i j => .int (g i j)) (.int m) (.int n) k := fun F H x y Q g0 rx ry f => by
  cases rx.int
  cases ry.int
  exact ⟨m, n, rfl, rfl, c, f _ _ F H (XE.refl g0) (.int _) q⟩
theorem op_or1 {r s : R2} {d : D} (h : OP M r d e k) : OP M (fun x y H Q => r x y H Q ∨ s x y H Q) d e k := fun F H x y Q g rx ry f => .inl (h F H x y Q g rx ry f)
theorem op_addII (q : k (.int (m + n))) : OP M (rAddU M.K) (.int m) (.int n) k := op_or1 (op_I0i (g := fun i j => i + j) q)
theorem op_eqII (q : k (.bl (decide (m = n)))) : OP M (rEqU M.K) (.int m) (.int n) k := fun F H x y Q g0 rx ry f => by
  cases rx.int
  cases ry.int
  exact s_eqI (f _ _ F H (XE.refl g0) (.bl _) q)
theorem op_neII (q : k (.bl (!decide (m = n)))) : OP M (rNeU M.K) (.int m) (.int n) k := fun F H x y Q g0 rx ry f => by
  cases rx.int
  cases ry.int
  exact s_neI (f _ _ F H (XE.refl g0) (.bl _) q)
theorem op_eqBB {a b : Bool} (q : k (.bl (decide (a = b)))) : OP M (rEqU M.K) (.bl a) (.bl b) k := fun F H x y Q g0 rx ry f => by
  cases rx.bl
  cases ry.bl
  exact s_eqB (f _ _ F H (XE.refl g0) (.bl _) q)
theorem op_neBB {a b : Bool} (q : k (.bl (!decide (a = b)))) : OP M (rNeU M.K) (.bl a) (.bl b) k := fun F H x y Q g0 rx ry f => by
  cases rx.bl
  cases ry.bl
  exact s_neB (f _ _ F H (XE.refl g0) (.bl _) q)
theorem op_eqSS {a b : Str} (q : k (.bl (decide (a = b)))) : OP M (rEqU M.K) (.str a) (.str b) k := fun F H x y Q g0 rx ry f => by
  cases rx.str
  cases ry.str
  exact s_eq rfl (by rw [show decide (V.str a = V.str b) = decide (a = b) from by simp]; exact f _ _ F H (XE.refl g0) (.bl _) q)
theorem op_neSS {a b : Str} (q : k (.bl (!decide (a = b)))) : OP M (rNeU M.K) (.str a) (.str b) k := fun F H x y Q g0 rx ry f => by
  cases rx.str
  cases ry.str
  exact s_ne rfl (by rw [show decide (V.str a = V.str b) = decide (a = b) from by simp]; exact f _ _ F H (XE.refl g0) (.bl _) q)
theorem op_eqDD {d e : D} (h1 : Pl 20 d) (h2 : Pl 20 e) (q : k (.bl (eqD d e))) : OP M (rEqU M.K) d e k := fun F H x y Q g0 rx ry f =>
  s_eqD (rx.dp g0 h1) (ry.dp g0 h2) (sh_shaped h1.sh) (sh_shaped h2.sh) (f _ _ F H (XE.refl g0) (.bl _) q)
theorem op_neDD {d e : D} (h1 : Pl 20 d) (h2 : Pl 20 e) (q : k (.bl (!eqD d e))) : OP M (rNeU M.K) d e k := fun F H x y Q g0 rx ry f =>
  s_neD (rx.dp g0 h1) (ry.dp g0 h2) (sh_shaped h1.sh) (sh_shaped h2.sh) (f _ _ F H (XE.refl g0) (.bl _) q)
/-- is None, is not None -/
def D.isN : D → Bool
  | .non => true
  | _ => false
theorem rb_isN {F H : Hp} {x : V} {d : D} (h : RB M F H x d) : decide (x = V.non) = d.isN := by
  rcases h with h | ⟨p, vs, l', rfl, e, h1, h2⟩ | ⟨p, ks, vs, l', rfl, e, h1, h3, h2⟩ | ⟨p, ks, vs, l', rfl, e, h1, h3, h2⟩
  · cases h <;> rfl
  · subst e; rfl
  · subst e; rfl
  · subst e; rfl
theorem op_isNn {d : D} (q : k (.bl d.isN)) : OP M (fun x y H Q => y = V.non ∧ Q (.bl (decide (x = .non))) H) d .non k := fun F H x y Q g0 rx ry f => by
  cases ry.non
  rw [rb_isN rx]
  exact ⟨rfl, f _ _ F H (XE.refl g0) (.bl _) q⟩
theorem op_notNn {d : D} (q : k (.bl (!d.isN))) : OP M (fun x y H Q => y = V.non ∧ Q (.bl (!decide (x = .non))) H) d .non k := fun F H x y Q g0 rx ry f => by
  cases ry.non
  rw [rb_isN rx]
  exact ⟨rfl, f _ _ F H (XE.refl g0) (.bl _) q⟩
/-! items -/
theorem atI_RA {F : Hp} {vs : List V} {l : List D} {i : Int} {d : D} (h : RL M F vs l) (e : atI l i = some d) : ∃ v, atI vs i = some v ∧ RV M F v d := by
  unfold atI at e ⊢
  rw [h.len]
  cases q : ixN l.length i with
  | none => rw [q] at e; cases e
  | some j =>
    rw [q] at e
    exact h.get e
theorem op_ixT {l : List D} {d : D} (h : atI l m = some d) (q : k d) : OP M (rIx M.K) (.tup l) (.int m) k := fun F H x y Q g0 rx ry f => by
  cases ry.int
  obtain ⟨p, vs, rfl, h1, h2⟩ := rx.tup
  obtain ⟨v, h3, h4⟩ := atI_RA h2 h
  exact s_ixT (sqT_mono g0.sub h1) h3 (f _ _ F H (XE.refl g0) h4 q)
theorem op_ixS {ns : List Int} {d : D} (h : atI (ns.map D.int) m = some d) (q : k d) : OP M (rIx M.K) (.stn ns) (.int m) k := fun F H x y Q g0 rx ry f => by
  cases ry.int
  obtain ⟨p, rfl, h1⟩ := rx.stn
  obtain ⟨v, h3, h4⟩ := atI_RA (M := M) (F := F) (RA.ofInts ns) h
  exact s_ixT (sqT_mono g0.sub (.inl (.inl h1))) h3 (f _ _ F H (XE.refl g0) h4 q)
theorem op_ixX {ns : List Int} {d : D} (h : atI (ns.map D.int) m = some d) (q : k d) : OP M (rIx M.K) (.ixt ns) (.int m) k := fun F H x y Q g0 rx ry f => by
  cases ry.int
  obtain ⟨p, ob, rfl, h1, _⟩ := rx.ixt
  obtain ⟨v, h3, h4⟩ := atI_RA (M := M) (F := F) (RA.ofInts ns) h
  exact s_ixT (sqT_mono g0.sub (.inl (.inr ⟨_, h1⟩))) h3 (f _ _ F H (XE.refl g0) h4 q)
theorem op_ixL {l : List D} {d : D} (h : atI l m = some d) (q : k d) : OP M (rIx M.K) (.lst l) (.int m) k := fun F H x y Q g0 rx ry f => by
  cases ry.int
  obtain ⟨p, vs, rfl, h1, h2⟩ := rx.lst g0
  obtain ⟨v, h3, h4⟩ := atI_RA h2 h
  exact s_ixL h1 h3 (f _ _ F H (XE.refl g0) h4 q)
end
/-! one argument -/
def OU (M : Cm) (r : V → Hp → VK → Prop) (d : D) (k : D → Prop) : Prop := ∀ F H x Q, Gd M.K M.st F H → RB M F H x d → (∀ v d F' H', XM M F H F' H' → RV M F' v d → k d → Q v H') → r x H Q
theorem we_un {r : V → Hp → VK → Prop} (h : WB M ta ρ fun d => OU M r d k) : WE M (tUn r ta) ρ k := fun σ F H Q e f =>
  h σ F H _ e fun x d F1 H1 x1 r1 h1 => h1 F1 H1 x Q x1.gd r1 fun v d3 F3 H3 x3 => f v d3 F3 H3 (x1.trans x3)
theorem ou_neg {m : Int} (q : k (.int (-m))) : OU M (rU fun i => .int (-i)) (.int m) k := fun F H x Q g0 rx f => by
  cases rx.int
  exact ⟨m, rfl, f _ _ F H (XE.refl g0) (.int _) q⟩
/-! tests and truths -/
theorem wt_test (h : WB M te ρ fun d => ∃ b, d = .bl b ∧ kb b) : WT M (tTest te) ρ kb := fun σ F H Q e f =>
  h σ F H _ e fun x d F1 H1 x1 r1 ⟨b, h1, h2⟩ => by
    subst h1
    cases r1.bl
    exact ⟨b, rfl, f b F1 H1 x1 h2⟩
theorem wt_B (h : WB M te ρ fun d => ∃ b, d = .bl b ∧ kb b) : WT M (tB te) ρ kb := fun σ F H Q e f =>
  h σ F H _ e fun x d F1 H1 x1 r1 ⟨b, h1, h2⟩ => by
    subst h1
    cases r1.bl
    exact ⟨b, rfl, f b F1 H1 x1 h2⟩
theorem wt_not (h : WT M t ρ fun c => kb (!c)) : WT M (tNot t) ρ kb := fun σ F H Q e f => h σ F H _ e fun b F1 H1 x1 h1 => f _ F1 H1 x1 h1
theorem wt_and (h : WT M t ρ fun c => if c = true then WT M u ρ kb else kb false) : WT M (tAnd t u) ρ kb := fun σ F H Q e f => h σ F H _ e fun b F1 H1 x1 h1 => by
  cases b with
  | true => exact iteT ((show WT M u ρ kb from h1) σ F1 H1 _ (e.step x1) fun c F2 H2 x2 => f c F2 H2 (x1.trans x2))
  | false => exact iteF (f _ F1 H1 x1 h1)
theorem wt_or (h : WT M t ρ fun c => if c = true then kb true else WT M u ρ kb) : WT M (tOr t u) ρ kb := fun σ F H Q e f => h σ F H _ e fun b F1 H1 x1 h1 => by
  cases b with
  | true => exact iteT (f _ F1 H1 x1 h1)
  | false => exact iteF ((show WT M u ρ kb from h1) σ F1 H1 _ (e.step x1) fun c F2 H2 x2 => f c F2 H2 (x1.trans x2))
theorem wt_yes (q : kb true) : WT M tYes ρ kb := fun σ F H Q e f => f true F H (XE.refl e.gd) q
theorem we_notV (h : WB M ta ρ fun d => ∃ b, d = .bl b ∧ k (.bl (!b))) : WE M (tNotV ta) ρ k := fun σ F H Q e f =>
  h σ F H _ e fun x d F1 H1 x1 r1 ⟨b, h1, h2⟩ => by
    subst h1
    cases r1.bl
    exact ⟨b, rfl, f _ _ F1 H1 x1 (.bl _) h2⟩
theorem we_andV (h : WB M ta ρ fun d => ∃ b, d = .bl b ∧ if b = true then WE M tb ρ k else k (.bl false)) : WE M (tAndV ta tb) ρ k := fun σ F H Q e f =>
  h σ F H _ e fun x d F1 H1 x1 r1 ⟨b, h1, h2⟩ => by
    subst h1
    cases r1.bl
    refine ⟨b, rfl, ?_⟩
    cases b with
    | true => exact iteT ((show WE M tb ρ k from h2) σ F1 H1 _ (e.step x1) fun v c F2 H2 x2 => f v c F2 H2 (x1.trans x2))
    | false => exact iteF (f _ _ F1 H1 x1 (.bl _) h2)
theorem we_orV (h : WB M ta ρ fun d => ∃ b, d = .bl b ∧ if b = true then k (.bl true) else WE M tb ρ k) : WE M (tOrV ta tb) ρ k := fun σ F H Q e f =>
  h σ F H _ e fun x d F1 H1 x1 r1 ⟨b, h1, h2⟩ => by
    subst h1
    cases r1.bl
    refine ⟨b, rfl, ?_⟩
    cases b with
    | true => exact iteT (f _ _ F1 H1 x1 (.bl _) h2)
    | false => exact iteF ((show WE M tb ρ k from h2) σ F1 H1 _ (e.step x1) fun v c F2 H2 x2 => f v c F2 H2 (x1.trans x2))
theorem we_if (h : WT M t ρ fun c => if c = true then WE M ta ρ k else WE M tb ρ k) : WE M (tIf t ta tb) ρ k := fun σ F H Q e f => h σ F H _ e fun b F1 H1 x1 h1 => by
  cases b with
  | true => exact iteT ((show WE M ta ρ k from h1) σ F1 H1 _ (e.step x1) fun v c F2 H2 x2 => f v c F2 H2 (x1.trans x2))
  | false => exact iteF ((show WE M tb ρ k from h1) σ F1 H1 _ (e.step x1) fun v c F2 H2 x2 => f v c F2 H2 (x1.trans x2))
theorem we_chain {r r' : R2} (h : WB M ta ρ fun d => WB M tb ρ fun e => OP M r d e fun z => ∃ b, z = .bl b ∧ if b = true then WB M tc ρ fun w => OP M r' e w k else k (.bl false)) : WE M (tChain r r' ta tb tc) ρ k := fun σ F H Q e f =>
  h σ F H _ e fun x d F1 H1 x1 r1 h1 => h1 σ F1 H1 _ (e.step x1) fun y d2 F2 H2 x2 r2 h2 => h2 F2 H2 x y _ x2.gd (r1.step x2) r2 fun v d3 F3 H3 x3 r3 ⟨b, e3, h3⟩ => by
    subst e3
    cases r3
    refine ⟨b, rfl, ?_⟩
    have x03 := (x1.trans x2).trans x3
    cases b with
    | true => exact iteT ((show WB M tc ρ fun w => OP M r' d2 w k from h3) σ F3 H3 _ (e.step x03) fun w d4 F4 H4 x4 r4 h4 => h4 F4 H4 y w Q x4.gd (r2.step (x3.trans x4)) r4 fun v d5 F5 H5 x5 => f v d5 F5 H5 ((x03.trans x4).trans x5))
    | false => exact iteF (f _ _ F3 H3 x03 (.bl _) h3)
/-! arguments -/
theorem wa_nil (q : ka []) : WA M tNil ρ ka := fun σ F H Q e f => f [] [] F H (XE.refl e.gd) .nil q
theorem wa_cons (h : WE M ta ρ fun d => WA M tr ρ fun ds => ka (d :: ds)) : WA M (tCons ta tr) ρ ka := fun σ F H Q e f =>
  h σ F H _ e fun x d F1 H1 x1 r1 h1 => h1 σ F1 H1 _ (e.step x1) fun vs ds F2 H2 x2 r2 => f _ _ F2 H2 (x1.trans x2) (.cons (r1.mono x2.ff) r2)
theorem wab_nil (q : ka []) : WAB M tNil ρ ka := fun σ F H Q e f => f [] [] F H (XE.refl e.gd) .nil q
theorem wab_cons (h : WB M ta ρ fun d => WAB M tr ρ fun ds => ka (d :: ds)) : WAB M (tCons ta tr) ρ ka := fun σ F H Q e f =>
  h σ F H _ e fun x d F1 H1 x1 r1 h1 => h1 σ F1 H1 _ (e.step x1) fun vs ds F2 H2 x2 r2 => f _ _ F2 H2 (x1.trans x2) (.cons (r1.step x2) r2)
theorem we_tup (h : WA M tr ρ fun ds => ds.length ≤ 1000 ∧ k (.tup ds)) : WE M (tTup tr) ρ k := fun σ F H Q e f =>
  h σ F H _ e fun vs ds F1 H1 x1 r1 ⟨h1, h2⟩ => ⟨Nat.le_trans (by rw [r1.len]; exact h1) (by decide), fun p np => f _ _ _ _ (x1.new np) (.tup (.inl (.inl upd_same)) (r1.mono (same_upd (sub_none x1.gd.sub np)))) h2⟩
theorem wo_lst (h : WA M tr ρ fun ds => ds.length ≤ 1000 ∧ ka ds) : WO M (tLst tr) ρ ka := fun σ F H Q e f =>
  h σ F H _ e fun vs ds F1 H1 x1 r1 ⟨h1, h2⟩ => ⟨Nat.le_trans (by rw [r1.len]; exact h1) (by decide), fun p np => f p vs ds F1 _ (x1.mut np) (Dl_at (x1.ok.ne np)) (sub_none x1.gd.sub np) (x1.ext.hh.free (Dl_none np)) r1 h2⟩
/-! calls of built-ins -/
def CR (M : Cm) (r : List V → Hp → VK → Prop) (ds : List D) (k : D → Prop) : Prop := ∀ F H vs Q, Gd M.K M.st F H → RBs M F H vs ds → (∀ v d F' H', XM M F H F' H' → RV M F' v d → k d → Q v H') → r vs H Q
def CRO (M : Cm) (r : List V → Hp → VK → Prop) (ds : List D) (k : List D → Prop) : Prop := ∀ F H vs Q, Gd M.K M.st F H → RBs M F H vs ds → (∀ p vs l F' H', XM M F H F' H' → Dl M.st H' p = some (.lst vs) → F' p = none → Dl M.st H p = none → RL M F' vs l → k l → Q (.ref p) H') → r vs H Q
theorem we_cb {r : List V → Hp → VK → Prop} (h : WAB M tr ρ fun ds => CR M r ds k) : WE M (tCB r tr) ρ k := fun σ F H Q e f =>
  h σ F H _ e fun vs ds F1 H1 x1 r1 h1 => h1 F1 H1 vs Q x1.gd r1 fun v d3 F3 H3 x3 => f v d3 F3 H3 (x1.trans x3)
theorem wo_cb {r : List V → Hp → VK → Prop} (h : WAB M tr ρ fun ds => CRO M r ds ka) : WO M (tCB r tr) ρ ka := fun σ F H Q e f =>
  h σ F H _ e fun vs ds F1 H1 x1 r1 h1 => h1 F1 H1 vs Q x1.gd r1 fun p vs l F3 H3 x3 a b c => f p vs l F3 H3 (x1.trans x3) a b (x1.ext.hh.free c)
theorem CRO.cr {r : List V → Hp → VK → Prop} {ds : List D} (h : CRO M r ds fun l => k (.lst l)) : CR M r ds k := fun F H vs Q g rr f => h F H vs Q g rr fun p vs l F' H' x h1 h2 h3 h4 => f _ _ (upd F' p (.lst vs)) H' (x.frz h3 h2 h1) (.lst (.inl (.inl upd_same)) (h4.mono (same_upd h2)))
theorem OPO.op {r : R2} {d e : D} (h : OPO M r d e fun l => k (.lst l)) : OP M r d e k := fun F H x y Q g r1 r2 f => h F H x y Q g r1 r2 fun p vs l F' H' x h1 h2 h3 h4 => f _ _ (upd F' p (.lst vs)) H' (x.frz h3 h2 h1) (.lst (.inl (.inl upd_same)) (h4.mono (same_upd h2)))
theorem rbs1 {F H : Hp} {vs : List V} {d : D} (h : RBs M F H vs [d]) : ∃ v, vs = [v] ∧ RB M F H v d := by
  cases h with
  | cons a b => cases b; exact ⟨_, rfl, a⟩
theorem rbs2 {F H : Hp} {vs : List V} {d e : D} (h : RBs M F H vs [d, e]) : ∃ v u, vs = [v, u] ∧ RB M F H v d ∧ RB M F H u e := by
  cases h with
  | cons a b =>
    cases b with
    | cons b c => cases c; exact ⟨_, _, rfl, a, b⟩
theorem cr_lenL (q : k (.int l.length)) : CR M (rLen M.K) [.lst l] k := fun F H vs Q g rr f => by
  obtain ⟨v, rfl, r⟩ := rbs1 rr
  obtain ⟨p, us, rfl, h1, h2⟩ := r.lst g
  refine s_lenL h1 ?_
  rw [h2.len]
  exact f _ _ F H (XE.refl g) (.int _) q
theorem cr_lenT (q : k (.int l.length)) : CR M (rLen M.K) [.tup l] k := fun F H vs Q g rr f => by
  obtain ⟨v, rfl, r⟩ := rbs1 rr
  obtain ⟨p, us, rfl, h1, h2⟩ := r.tup
  refine s_lenT (sqT_mono g.sub h1) ?_
  rw [h2.len]
  exact f _ _ F H (XE.refl g) (.int _) q
theorem cr_lenS {ns : List Int} (q : k (.int ns.length)) : CR M (rLen M.K) [.stn ns] k := fun F H vs Q g rr f => by
  obtain ⟨v, rfl, r⟩ := rbs1 rr
  obtain ⟨p, rfl, h1⟩ := r.stn
  refine s_lenT (sqT_mono g.sub (.inl (.inl h1))) ?_
  rw [List.length_map]
  exact f _ _ F H (XE.refl g) (.int _) q
theorem cr_lenX {ns : List Int} (q : k (.int ns.length)) : CR M (rLen M.K) [.ixt ns] k := fun F H vs Q g rr f => by
  obtain ⟨v, rfl, r⟩ := rbs1 rr
  obtain ⟨p, ob, rfl, h1, _⟩ := r.ixt
  refine s_lenT (sqT_mono g.sub (.inl (.inr ⟨_, h1⟩))) ?_
  rw [List.length_map]
  exact f _ _ F H (XE.refl g) (.int _) q
theorem cr_sumS {ns : List Int} (q : k (.int ns.sum)) : CR M (rSumU M.K) [.stn ns] k := fun F H vs Q g rr f => by
  obtain ⟨v, rfl, r⟩ := rbs1 rr
  obtain ⟨p, rfl, h1⟩ := r.stn
  exact s_sumT (sqT_mono g.sub (.inl (.inl h1))) (f _ _ F H (XE.refl g) (.int _) q)
theorem cr_sumLi {ns : List Int} (q : k (.int ns.sum)) : CR M (rSumU M.K) [.lst (ns.map D.int)] k := fun F H vs Q g rr f => by
  obtain ⟨v, rfl, r⟩ := rbs1 rr
  obtain ⟨p, us, rfl, h1, h2⟩ := r.lst g
  rw [h2.ints] at h1
  exact s_sumL h1 (f _ _ F H (XE.refl g) (.int _) q)
theorem cr_sumTi {ns : List Int} (q : k (.int ns.sum)) : CR M (rSumU M.K) [.tup (ns.map D.int)] k := fun F H vs Q g rr f => by
  obtain ⟨v, rfl, r⟩ := rbs1 rr
  obtain ⟨p, us, rfl, h1, h2⟩ := r.tup
  rw [h2.ints] at h1
  exact s_sumT (sqT_mono g.sub h1) (f _ _ F H (XE.refl g) (.int _) q)
theorem cr_allB {bs : List Bool} (q : k (.bl (bs.all id))) : CR M (rAll M.K) [.lst (bs.map D.bl)] k := fun F H vs Q g rr f => by
  obtain ⟨v, rfl, r⟩ := rbs1 rr
  obtain ⟨p, us, rfl, h1, h2⟩ := r.lst g
  rw [h2.bools] at h1
  exact s_all h1 (f _ _ F H (XE.refl g) (.bl _) q)
theorem cr_anyB {bs : List Bool} (q : k (.bl (bs.any id))) : CR M (rAny M.K) [.lst (bs.map D.bl)] k := fun F H vs Q g rr f => by
  obtain ⟨v, rfl, r⟩ := rbs1 rr
  obtain ⟨p, us, rfl, h1, h2⟩ := r.lst g
  rw [h2.bools] at h1
  exact s_any h1 (f _ _ F H (XE.refl g) (.bl _) q)
theorem cr_absI {m : Int} (q : k (.int (if m < 0 then -m else m))) : CR M (fun xs H Q => ∃ i, xs = [V.int i] ∧ Q (V.int (if i < 0 then -i else i)) H) [.int m] k := fun F H vs Q g rr f => by
  obtain ⟨v, rfl, r⟩ := rbs1 rr
  cases r.int
  exact ⟨m, rfl, f _ _ F H (XE.refl g) (.int _) q⟩
theorem cr_int_i {m : Int} (q : k (.int m)) : CR M (fun xs H Q => (∃ i, xs = [V.int i] ∧ Q (.int i) H) ∨ ∃ k, xs = [V.bl k] ∧ Q (.int (if k then 1 else 0)) H) [.int m] k := fun F H vs Q g rr f => by
  obtain ⟨v, rfl, r⟩ := rbs1 rr
  cases r.int
  exact .inl ⟨m, rfl, f _ _ F H (XE.refl g) (.int _) q⟩
theorem cr_int_b {m : Bool} (q : k (.int (if m then 1 else 0))) : CR M (fun xs H Q => (∃ i, xs = [V.int i] ∧ Q (.int i) H) ∨ ∃ k, xs = [V.bl k] ∧ Q (.int (if k then 1 else 0)) H) [.bl m] k := fun F H vs Q g rr f => by
  obtain ⟨v, rfl, r⟩ := rbs1 rr
  cases r.bl
  exact .inr ⟨m, rfl, f _ _ F H (XE.refl g) (.int _) q⟩
theorem cro_new {F H : Hp} {Q : VK} {vs : List V} {l : List D} {p : Addr} (g : Gd M.K M.st F H) (h2 : RL M F vs l) (np : H p = none) (q : ka l) (f : ∀ p vs l F' H', XM M F H F' H' → Dl M.st H' p = some (.lst vs) → F' p = none → Dl M.st H p = none → RL M F' vs l → ka l → Q (.ref p) H') : Q (.ref p) (upd H p (.lst vs)) :=
  f p vs l F _ ((XE.refl g).mut np) (Dl_at (g.ok.ne np)) (sub_none g.sub np) (Dl_none np) h2 q
theorem cr_listL (q : ka l) : CRO M (rListOf M.K) [.lst l] ka := fun F H vs Q g rr f => by
  obtain ⟨v, rfl, r⟩ := rbs1 rr
  obtain ⟨p, us, rfl, h1, h2⟩ := r.lst g
  exact s_listL h1 fun p np => cro_new g h2 np q f
theorem cr_listT (q : ka l) : CRO M (rListOf M.K) [.tup l] ka := fun F H vs Q g rr f => by
  obtain ⟨v, rfl, r⟩ := rbs1 rr
  obtain ⟨p, us, rfl, h1, h2⟩ := r.tup
  exact s_listT (sqT_mono g.sub h1) fun p np => cro_new g h2 np q f
theorem cr_listS {ns : List Int} (q : ka (ns.map D.int)) : CRO M (rListOf M.K) [.stn ns] ka := fun F H vs Q g rr f => by
  obtain ⟨v, rfl, r⟩ := rbs1 rr
  obtain ⟨p, rfl, h1⟩ := r.stn
  exact s_listT (sqT_mono g.sub (.inl (.inl h1))) fun p np => cro_new g (RA.ofInts ns) np q f
theorem cr_tupLi {ns : List Int} (q : k (.stn ns)) : CR M (rTupleOf M.K) [.lst (ns.map D.int)] k := fun F H vs Q g rr f => by
  obtain ⟨v, rfl, r⟩ := rbs1 rr
  obtain ⟨p, us, rfl, h1, h2⟩ := r.lst g
  rw [h2.ints] at h1
  exact s_tupleL h1 fun p np => f _ _ _ _ ((XE.refl g).new np) (.stn upd_same) q
theorem cr_tupS {ns : List Int} (q : k (.stn ns)) : CR M (rTupleOf M.K) [.stn ns] k := fun F H vs Q g rr f => by
  obtain ⟨v, rfl, r⟩ := rbs1 rr
  obtain ⟨p, rfl, h1⟩ := r.stn
  exact ⟨p, _, rfl, .inr ⟨sqT_mono g.sub (.inl (.inl h1)), f _ _ F H (XE.refl g) (.stn h1) q⟩⟩
theorem cr_tupL (q : k (.tup l)) : CR M (rTupleOf M.K) [.lst l] k := fun F H vs Q g rr f => by
  obtain ⟨v, rfl, r⟩ := rbs1 rr
  obtain ⟨p, us, rfl, h1, h2⟩ := r.lst g
  exact s_tupleL h1 fun p np => f _ _ _ _ ((XE.refl g).new np) (.tup (.inl (.inl upd_same)) (h2.mono (same_upd (sub_none g.sub np)))) q
theorem cr_tupT (q : k (.tup l)) : CR M (rTupleOf M.K) [.tup l] k := fun F H vs Q g rr f => by
  obtain ⟨v, rfl, r⟩ := rbs1 rr
  obtain ⟨p, us, rfl, h1, h2⟩ := r.tup
  exact ⟨p, us, rfl, .inr ⟨sqT_mono g.sub h1, f _ _ F H (XE.refl g) (.tup h1 h2) q⟩⟩
/-! slices -/
def WP (M : Cm) (t : TO) (ρ : Rho) (k : Option Int → Prop) : Prop := ∀ σ F H (Q : Option Int → Hp → Prop), Fr M ρ σ F H → (∀ o F' H', XM M F H F' H' → k o → Q o H') → t σ H Q
theorem wp_no {ko : Option Int → Prop} (q : ko none) : WP M tNoPart ρ ko := fun σ F H Q e f => f none F H (XE.refl e.gd) q
theorem wp_some {ko : Option Int → Prop} (h : WB M te ρ fun d => ∃ i, d = .int i ∧ ko (some i)) : WP M (tPart te) ρ ko := fun σ F H Q e f => h σ F H _ e fun x d F1 H1 x1 r1 ⟨j, h1, h2⟩ => by
  subst h1
  cases r1.int
  exact ⟨j, rfl, f _ F1 H1 x1 h2⟩
def cutD (l : List D) (lo hi : Option Int) : List D := (l.drop (HT.sIx l.length 0 lo)).take (HT.sIx l.length l.length hi - HT.sIx l.length 0 lo)
theorem RA.cut {F : Hp} {vs : List V} {lo hi : Option Int} (h : RL M F vs l) : RL M F (cutV vs lo hi) (cutD l lo hi) := by
  unfold cutV cutD
  rw [h.len]
  exact (h.drop _).take _
def wholeSl (n : Nat) (lo hi : Option Int) : Prop := HT.sIx n 0 lo = 0 ∧ HT.sIx n n hi = n
theorem wo_slL {tl th : TO} (h : WB M te ρ fun d => ∃ l, d = .lst l ∧ WP M tl ρ fun lo => WP M th ρ fun hi => ka (cutD l lo hi)) : WO M (tSl (rSlU M.K) te tl th) ρ ka := fun σ F H Q e f =>
  h σ F H _ e fun x d F1 H1 x1 r1 ⟨l, e1, h1⟩ => h1 σ F1 H1 _ (e.step x1) fun lo F2 H2 x2 h2 => h2 σ F2 H2 _ (e.step (x1.trans x2)) fun hi F3 H3 x3 h3 => by
    subst e1
    have x03 := (x1.trans x2).trans x3
    obtain ⟨p, us, rfl, h4, h5⟩ := (r1.step (x2.trans x3)).lst x03.gd
    exact .inl ⟨p, us, rfl, h4, fun p np => cro_new (ka := ka) x03.gd h5.cut np h3 fun p vs l F4 H4 x4 a b c => f p vs l F4 H4 (x03.trans x4) a b (x03.ext.hh.free c)⟩
def cutI (l : List Int) (lo hi : Option Int) : List Int := (l.drop (HT.sIx l.length 0 lo)).take (HT.sIx l.length l.length hi - HT.sIx l.length 0 lo)
end
end G

namespace G
open PySem PySem.Spec PyProof.Rows L2
/-! ### tuples cut and put together -/
theorem k_catA {X : Cx} {K : PySem.W.Frag} (h : X.K = K) : OpR X (binaryOp .Add) (rCatA K) := by
  subst h
  exact op_catA
abbrev rAddA (K : PySem.W.Frag) : R2 := fun x y H Q => rAddU K x y H Q ∨ rCatA K x y H Q
theorem k_addA {X : Cx} {K : PySem.W.Frag} (h : X.K = K) : OpR X (binaryOp .Add) (rAddA K) := op_or (k_add h) (k_catA h)
theorem cut_from (ns : List Int) (n : Nat) (h : n ≤ ns.length) : cutV (ns.map V.int) (some (n : Int)) none = (ns.drop n).map V.int := by
  unfold cutV
  rw [HT.sIx_none, HT.sIx_nat]
  rw [List.length_map, Nat.min_eq_left h, List.take_of_length_le (by rw [List.length_drop, List.length_map]; omega), List.map_drop]
/-! ### xs.extend(ys), ys any list -/
section
open AutoSeq1 (wpAny_loadPart')
end
def rExtendS (K : PySem.W.Frag) : V → List V → Hp → VK → Prop := fun x vs H Q => ∃ l b xs zs, x = .ref l ∧ vs = [.ref b] ∧ H l = some (.lst xs) ∧ SqL K H b zs ∧ xs.length + zs.length ≤ 100000 ∧ Q .non (upd H l (.lst (xs ++ zs)))
end G

namespace G
open PySem PySem.Spec PyProof.Rows L2
section
variable {M : Cm} {ρ : Rho} {k : D → Prop} {kb : Bool → Prop} {ka : List D → Prop} {kr nx bk ct : Rho → Prop} {rt : Sl → Rho → Prop} {ta tb te : TE} {t : TT} {ts us : TS} {tr : TA} {i : Nat} {d : D} {l : List D} {S : Nat → Prop}
/-! ### statements -/
theorem ws_seq (h : WS M ts ρ (fun ρ' => WS M us ρ' nx rt bk ct) rt bk ct) : WS M (tSeq ts us) ρ nx rt bk ct := fun σ F H E e f1 f2 f3 f4 =>
  h σ F H ⟨us E, E.rt, E.bk, E.ct⟩ e (fun ρ' σ' F' H' s e' h' => h' σ' F' H' E e' (fun ρ2 σ2 F2 H2 s2 => f1 ρ2 σ2 F2 H2 (s.trans s2)) f2 (fun ρ2 σ2 F2 H2 s2 => f3 ρ2 σ2 F2 H2 (s.trans s2)) (fun ρ2 σ2 F2 H2 s2 => f4 ρ2 σ2 F2 H2 (s.trans s2))) f2 f3 f4
theorem ws_next (h : nx ρ) : WS M tNext ρ nx rt bk ct := fun σ F H E e f1 f2 f3 f4 => f1 ρ σ F H (Same.refl F) e h
theorem ws_break (h : bk ρ) : WS M tBreak ρ nx rt bk ct := fun σ F H E e f1 f2 f3 f4 => f3 ρ σ F H (Same.refl F) e h
theorem ws_cont (h : ct ρ) : WS M tCont ρ nx rt bk ct := fun σ F H E e f1 f2 f3 f4 => f4 ρ σ F H (Same.refl F) e h
theorem ws_ret (h : WE M te ρ fun d => rt (.d d) ρ) : WS M (tRet te) ρ nx rt bk ct := fun σ F H E e f1 f2 f3 f4 => h σ F H _ e fun v d F' H' x r q => f2 v (.d d) ρ σ F' H' (e.step x) r q
theorem ws_retN (h : rt (.d .non) ρ) : WS M tRetN ρ nx rt bk ct := fun σ F H E e f1 f2 f3 f4 => f2 _ (.d .non) ρ σ F H e .non h
theorem ws_if (h : WT M t ρ fun b => if b = true then WS M ts ρ nx rt bk ct else WS M us ρ nx rt bk ct) : WS M (tIfS t ts us) ρ nx rt bk ct := fun σ F H E e f1 f2 f3 f4 =>
  h σ F H _ e fun b F1 H1 x1 h1 => by
    have g1 := fun ρ2 σ2 F2 H2 s2 => f1 ρ2 σ2 F2 H2 (x1.ff.trans s2)
    have g3 := fun ρ2 σ2 F2 H2 s2 => f3 ρ2 σ2 F2 H2 (x1.ff.trans s2)
    have g4 := fun ρ2 σ2 F2 H2 s2 => f4 ρ2 σ2 F2 H2 (x1.ff.trans s2)
    cases b with
    | true => exact iteT ((show WS M ts ρ nx rt bk ct from h1) σ F1 H1 E (e.step x1) g1 f2 g3 g4)
    | false => exact iteF ((show WS M us ρ nx rt bk ct from h1) σ F1 H1 E (e.step x1) g1 f2 g3 g4)
theorem ws_drop (h : WB M te ρ fun _ => nx ρ) : WS M (tDrop te) ρ nx rt bk ct := fun σ F H E e f1 f2 f3 f4 => h σ F H _ e fun v d F' H' x r q => f1 ρ σ F' H' x.ff (e.step x) q
theorem ws_asg {g : TG} (h : WE M te ρ fun d => WG M (fun _ => True) g d ρ nx) : WS M (tAsg te g) ρ nx rt bk ct := fun σ F H E e f1 f2 f3 f4 => h σ F H _ e fun v d F1 H1 x1 r1 h1 => h1 v σ F1 H1 _ (e.step x1) r1 fun ρ' σ' F' H' x2 e2 _ _ _ q => f1 ρ' σ' F' H' (x1.trans x2).ff e2 q
/-- x = e, a new list that will change -/
theorem ws_setO (h : WO M te ρ fun l => nx (ρ.set i (some (.own l)))) : WS M (tAsg te (gName i)) ρ nx rt bk ct := fun σ F H E e f1 f2 f3 f4 => h σ F H _ e fun p vs l F1 H1 x1 h1 h2 h3 h4 q => by
  have e1 := e.step x1
  refine f1 _ _ F1 H1 x1.ff (e1.putO (i := i) (v := .ref p) (s0 := .own l) ⟨p, vs, rfl, h1, h2, e.x.ext.hh.free h3, h4⟩ fun j s hj hs m z => ?_) q
  obtain ⟨v, q1, q2⟩ := e.each j s hs
  obtain ⟨p', o, rfl, h5, _⟩ := q2.mine_at m
  rw [z] at q1
  cases q1
  rw [h3] at h5
  cases h5
theorem wg_name (s : S i) (h : kr (ρ.set i (some (.d d)))) : WG M S (gName i) d ρ kr := fun v σ F H Q e r f => f _ _ F H (XE.refl e.gd) (e.put r) (by simp) (fun j hj => List.getElem?_set_ne (fun z => by subst z; exact hj s)) (fun j s hj m => by
  rw [List.getElem?_set] at hj
  by_cases z : i = j
  · subst z
    rw [if_pos rfl] at hj
    by_cases w : i < ρ.length
    · rw [if_pos w] at hj
      cases hj
      cases m
    · rw [if_neg w] at hj
      cases hj
  · rw [if_neg z] at hj
    exact ⟨hj, List.getElem?_set_ne z⟩) h
theorem wg_tup {n : Nat} {g : TGs} (hn : l.length = n) (h : WGs M S g l ρ kr) : WG M S (gTup M.K n g) (.tup l) ρ kr := fun v σ F H Q e r f => by
  cases r with
  | tup a b => exact ⟨_, _, rfl, sqT_mono e.gd.sub a, by rw [b.len]; exact hn, h _ σ F H Q e b f⟩
theorem wg_stn {n : Nat} {g : TGs} {ns : List Int} (hn : ns.length = n) (h : WGs M S g (ns.map D.int) ρ kr) : WG M S (gTup M.K n g) (.stn ns) ρ kr := fun v σ F H Q e r f => by
  cases r with
  | stn a => exact ⟨_, _, rfl, .inl (.inl (e.gd.sub _ _ a)), by rw [List.length_map]; exact hn, h _ σ F H Q e (RA.ofInts ns) f⟩
theorem wgs_nil (h : kr ρ) : WGs M S gNil [] ρ kr := fun vs σ F H Q e r f => by
  cases r
  exact ⟨rfl, f ρ σ F H (XE.refl e.gd) e rfl (fun _ _ => rfl) (fun _ _ a _ => ⟨a, rfl⟩) h⟩
theorem wgs_cons {g : TG} {gs : TGs} (h : WG M S g d ρ fun ρ' => WGs M S gs l ρ' kr) : WGs M S (gCons g gs) (d :: l) ρ kr := fun vs σ F H Q e r f => by
  cases r with
  | cons a b => exact ⟨_, _, rfl, h _ σ F H _ e a fun ρ1 σ1 F1 H1 x1 e1 l1 s1 o1 h1 => h1 _ σ1 F1 H1 Q e1 (b.mono x1.ff) fun ρ2 σ2 F2 H2 x2 e2 l2 s2 o2 => f ρ2 σ2 F2 H2 (x1.trans x2) e2 (l2.trans l1) (fun j hj => (s2 j hj).trans (s1 j hj)) fun j s a m => ⟨(o1 j s (o2 j s a m).1 m).1, (o2 j s a m).2.trans (o1 j s (o2 j s a m).1 m).2⟩⟩
theorem wgs_nilM (h : kr ρ) : WGs M S gNil (([] : List Int).map D.int) ρ kr := wgs_nil h
theorem wgs_consM {g : TG} {gs : TGs} {a : Int} {ns : List Int} (h : WG M S g (.int a) ρ fun ρ' => WGs M S gs (ns.map D.int) ρ' kr) : WGs M S (gCons g gs) ((a :: ns).map D.int) ρ kr := wgs_cons h
/-- x op= e -/
theorem ws_aug {ti : TIp} (hx : ρ[i]? = some (some (.d d))) (h : WB M te ρ fun e => OP M ti d e fun z => nx (ρ.set i (some (.d z)))) : WS M (tAug i te ti) ρ nx rt bk ct := fun σ F H E e f1 f2 f3 f4 => by
  obtain ⟨v, h1, h2⟩ := e.each i _ hx
  refine ⟨v, h1, h σ F H _ e fun y d2 F1 H1 x1 r1 q1 => q1 F1 H1 v y _ x1.gd (.inl (R.mono x1.ff h2)) r1 fun z d3 F2 H2 x2 r2 q2 => f1 _ _ F2 H2 (x1.trans x2).ff ((e.step (x1.trans x2)).put r2) q2⟩
theorem op_ip {f : Int → Int → Int} {m n : Int} (q : k (.int (f m n))) : OP M (ipI f) (.int m) (.int n) k := fun F H x y Q g0 rx ry f => by
  cases rx.int
  cases ry.int
  exact ⟨m, n, rfl, rfl, f _ _ F H (XE.refl g0) (.int _) q⟩
/-- a list, a dict of its own becomes data -/
theorem ws_frz (hx : ρ[i]? = some (some (.own l))) (h : WS M ts (ρ.set i (some (.d (.lst l)))) nx rt bk ct) : WS M ts ρ nx rt bk ct := fun σ F H E e f1 f2 f3 f4 => by
  obtain ⟨v, h1, p, vs, rfl, h2, h3, h4, h5⟩ := e.each i _ hx
  have s := same_upd (o := HO.lst vs) h3
  exact h σ _ H E (e.frz hx rfl h1 h2 h3 h4 (.lst (.inl (.inl upd_same)) (h5.mono s))) (fun ρ2 σ2 F2 H2 s2 => f1 ρ2 σ2 F2 H2 (s.trans s2)) f2 (fun ρ2 σ2 F2 H2 s2 => f3 ρ2 σ2 F2 H2 (s.trans s2)) (fun ρ2 σ2 F2 H2 s2 => f4 ρ2 σ2 F2 H2 (s.trans s2))
/-- what is asked of a method of a list of its own: the list at p is l, behind it l' -/
def MO (M : Cm) (r : V → List V → Hp → VK → Prop) (l : List D) (ds : List D) (k : List D → D → Prop) : Prop := ∀ F H p vs us Q, Gd M.K M.st F H → Dl M.st H p = some (.lst vs) → F p = none → RL M F vs l → RL M F us ds →
  (∀ vs' l' v d, RL M F vs' l' → RV M F v d → k l' d → Q v (upd H p (.lst vs'))) → r (.ref p) us H Q
theorem ws_mt {r : V → List V → Hp → VK → Prop} (hx : ρ[i]? = some (some (.own l))) (h : WA M tr ρ fun ds => MO M r l ds fun l' _ => nx (ρ.set i (some (.own l')))) : WS M (tDrop (tBM M.K "list" r (tVar i) tr)) ρ nx rt bk ct := fun σ F H E e f1 f2 f3 f4 => by
  obtain ⟨v, h1, p, vs, rfl, h2, h3, h4, h5⟩ := e.each i _ hx
  refine ⟨_, h1, tyV_lst (Dl_sub _ _ h2), h σ F H _ e fun us ds F1 H1 x1 r1 q => ?_⟩
  have e1 := e.step x1
  have h2' := x1.ext.hh _ _ h2
  have h3' := x1.ext.fr p _ h2 rfl h3
  refine q F1 H1 p vs us _ x1.gd h2' h3' (h5.mono x1.ff) r1 fun vs' l' v d r2 r3 q => ?_
  exact f1 _ σ F1 _ x1.ff (e1.chg hx rfl h1 h2' h3' h4 (s1 := .own l') ⟨p, _, rfl, Dl_at (Dl_ne h2'), h3', h4, r2⟩) q
theorem ws_mt0 {r : V → List V → Hp → VK → Prop} (hx : ρ[i]? = some (some (.own l))) (h : MO M r l [] fun l' _ => nx (ρ.set i (some (.own l')))) : WS M (tDrop (tBM0 M.K "list" r (tVar i))) ρ nx rt bk ct := fun σ F H E e f1 f2 f3 f4 => by
  obtain ⟨v, h1, p, vs, rfl, h2, h3, h4, h5⟩ := e.each i _ hx
  refine ⟨_, h1, tyV_lst (Dl_sub _ _ h2), ?_⟩
  refine h F H p vs [] _ e.gd h2 h3 h5 .nil fun vs' l' v d r2 r3 q => ?_
  exact f1 _ σ F _ (Same.refl F) (e.chg hx rfl h1 h2 h3 h4 (s1 := .own l') ⟨p, _, rfl, Dl_at (Dl_ne h2), h3, h4, r2⟩) q
/-- y = xs.pop(), y = xs.pop(e) -/
theorem ws_mtS {r : V → List V → Hp → VK → Prop} {j : Nat} (hx : ρ[i]? = some (some (.own l))) (h : WA M tr ρ fun ds => MO M r l ds fun l' d => nx ((ρ.set i (some (.own l'))).set j (some (.d d)))) : WS M (tAsg (tBM M.K "list" r (tVar i) tr) (gName j)) ρ nx rt bk ct := fun σ F H E e f1 f2 f3 f4 => by
  obtain ⟨v, h1, p, vs, rfl, h2, h3, h4, h5⟩ := e.each i _ hx
  refine ⟨_, h1, tyV_lst (Dl_sub _ _ h2), h σ F H _ e fun us ds F1 H1 x1 r1 q => ?_⟩
  have e1 := e.step x1
  have h2' := x1.ext.hh _ _ h2
  have h3' := x1.ext.fr p _ h2 rfl h3
  refine q F1 H1 p vs us _ x1.gd h2' h3' (h5.mono x1.ff) r1 fun vs' l' v d r2 r3 q => ?_
  exact f1 _ _ F1 _ x1.ff ((e1.chg hx rfl h1 h2' h3' h4 (s1 := .own l') ⟨p, _, rfl, Dl_at (Dl_ne h2'), h3', h4, r2⟩).put r3) q
theorem ws_mt0S {r : V → List V → Hp → VK → Prop} {j : Nat} (hx : ρ[i]? = some (some (.own l))) (h : MO M r l [] fun l' d => nx ((ρ.set i (some (.own l'))).set j (some (.d d)))) : WS M (tAsg (tBM0 M.K "list" r (tVar i)) (gName j)) ρ nx rt bk ct := fun σ F H E e f1 f2 f3 f4 => by
  obtain ⟨v, h1, p, vs, rfl, h2, h3, h4, h5⟩ := e.each i _ hx
  refine ⟨_, h1, tyV_lst (Dl_sub _ _ h2), ?_⟩
  refine h F H p vs [] _ e.gd h2 h3 h5 .nil fun vs' l' v d r2 r3 q => ?_
  exact f1 _ _ F _ (Same.refl F) ((e.chg hx rfl h1 h2 h3 h4 (s1 := .own l') ⟨p, _, rfl, Dl_at (Dl_ne h2), h3, h4, r2⟩).put r3) q
/-- xs[j] = e -/
theorem ws_setItem (hx : ρ[i]? = some (some (.own l))) (h : WE M te ρ fun d => WE M tb ρ fun e => ∃ m j, e = .int m ∧ ixN l.length m = some j ∧ nx (ρ.set i (some (.own (l.set j d))))) : WS M (tAsg te (gSub (tVar i) tb rSetL)) ρ nx rt bk ct := fun σ F H E e f1 f2 f3 f4 => by
  refine h σ F H _ e fun v d F1 H1 x1 r1 h1 => ?_
  have e1 := e.step x1
  obtain ⟨v', h2, p, vs, rfl, h3, h4, h5, h6⟩ := e1.each i _ hx
  refine ⟨_, h2, h1 σ F1 H1 _ e1 fun w d2 F2 H2 x2 r2 ⟨m, j, z, hj, q⟩ => ?_⟩
  subst z
  cases r2
  have e2 := e1.step x2
  have h3' := x2.ext.hh _ _ h3
  have h4' := x2.ext.fr p _ h3 rfl h4
  have h6' := RA.mono x2.ff h6
  refine ⟨p, vs, m, j, rfl, rfl, Dl_sub _ _ h3', by rw [h6.len]; exact hj, ?_⟩
  exact f1 _ σ F2 _ (x1.trans x2).ff (e2.chg hx rfl h2 h3' h4' h5 (s1 := .own (l.set j d)) ⟨p, _, rfl, Dl_at (Dl_ne h3'), h4', h5, h6'.set j (r1.mono x2.ff)⟩) q
/-- xs[j] op= e -/
theorem ws_augItem {ti : TIp} (hx : ρ[i]? = some (some (.own l))) (h : WE M tb ρ fun e => ∃ m j d, e = .int m ∧ ixN l.length m = some j ∧ l[j]? = some d ∧ WE M te ρ fun y => OP M ti d y fun z => nx (ρ.set i (some (.own (l.set j z))))) : WS M (tAugS (tVar i) tb te (rIxL M.K) ti rSetL) ρ nx rt bk ct := fun σ F H E e f1 f2 f3 f4 => by
  obtain ⟨v', h2, p, vs, rfl, h3, h4, h5, h6⟩ := e.each i _ hx
  refine ⟨_, h2, h σ F H _ e fun w d2 F1 H1 x1 r1 ⟨m, j, d, z, hj, hd, h7⟩ => ?_⟩
  subst z
  cases r1
  have e1 := e.step x1
  have a3 := x1.ext.hh _ _ h3
  have a4 := x1.ext.fr p _ h3 rfl h4
  have a6 := RA.mono x1.ff h6
  obtain ⟨u, hu, ru⟩ := a6.get hd
  refine ⟨p, vs, m, u, rfl, rfl, .inl (.inl (Dl_sub _ _ a3)), ?_, ?_⟩
  · unfold atI
    rw [a6.len, hj]
    exact hu
  refine h7 σ F1 H1 _ e1 fun y dy F2 H2 x2 r2 q => ?_
  refine q F2 H2 u y _ x2.gd (.inl (ru.mono x2.ff)) (.inl r2) fun z dz F3 H3 x3 r3 q3 => ?_
  have x23 := x2.trans x3
  have e3 := e1.step x23
  have b3 := x23.ext.hh _ _ a3
  have b4 := x23.ext.fr p _ a3 rfl a4
  refine ⟨p, vs, m, j, rfl, rfl, Dl_sub _ _ b3, by rw [h6.len]; exact hj, ?_⟩
  exact f1 _ σ F3 _ (x1.trans x23).ff (e3.chg hx rfl h2 b3 b4 h5 (s1 := .own (l.set j dz)) ⟨p, _, rfl, Dl_at (Dl_ne b3), b4, h5, (a6.mono x23.ff).set j r3⟩) q3
/-! ### walks -/
theorem wi_seqL (h : WE M te ρ fun d => ∃ l, d = .lst l ∧ ka l) : WI M (iSeq M.K te) ρ ka := fun σ F H Q e f => h σ F H _ e fun v d F1 H1 x1 r1 ⟨l, z, q⟩ => by
  subst z
  cases r1 with
  | @lst a vs _ h1 h2 =>
    refine .inl ⟨a, rfl, ⟨vs, sqL_mono x1.gd.sub h1⟩, f _ l F1 H1 x1 ⟨_, _, by rw [← h2.len]; exact walk_list, fun F' H' s g => sqL_mono (s.trans g.sub) h1, fun i x Fa Ha Hb d s g y hd => ?_⟩ q⟩
    obtain ⟨rfl, hv⟩ := y
    obtain ⟨d', e1, e2⟩ := h2.at hv
    rw [hd] at e1
    cases e1
    exact ⟨Fa, XE.refl g, e2.mono s⟩
def rngD (n : Nat) : List D := (List.range n).map fun (i : Nat) => D.int (i : Int)
theorem rngD_len (n : Nat) : (rngD n).length = n := by simp [rngD]
theorem rngD_at {n i : Nat} {d : D} (h : (rngD n)[i]? = some d) : i < n ∧ d = .int (i : Int) := by
  unfold rngD at h
  rw [List.getElem?_map] at h
  by_cases z : i < n
  · rw [List.getElem?_range z] at h
    cases h
    exact ⟨z, rfl⟩
  · rw [List.getElem?_eq_none (by simpa using z)] at h
    cases h
theorem wi_rng1 (h : WAB M tr ρ fun ds => ∃ m : Int, ds = [.int m] ∧ -1000000 ≤ m ∧ m ≤ 1000000 ∧ ka (rngD m.toNat)) : WI M (iRng1 tr) ρ ka := fun σ F H Q e f => h σ F H _ e fun vs ds F1 H1 x1 r1 ⟨m, z, h1, h2, q⟩ => by
  subst z
  obtain ⟨v, rfl, r⟩ := rbs1 r1
  cases r.int
  refine s_rngI ⟨h1, h2⟩ (f _ (rngD m.toNat) F1 H1 x1 ⟨_, _, by rw [rngD_len]; exact walk_range, fun _ _ _ _ => trivial, fun i x Fa Ha Hb d s g y hd => ?_⟩ q)
  obtain ⟨rfl, rfl⟩ := y
  obtain ⟨_, rfl⟩ := rngD_at hd
  refine ⟨Fa, XE.refl g, ?_⟩
  simp only [Int.zero_add]
  exact .int _
def rngD2 (a b : Int) : List D := (List.range (b - a).toNat).map fun (i : Nat) => D.int (a + (i : Int))
def zipD (l m : List D) : List D := List.zipWith (fun a b => D.tup [a, b]) l m
theorem yp {F : Hp} {f g : Nat → Option V} {i : Nat} {x : V} {Fa Ha Hb : Hp} {a b : D} (gd : Gd M.K M.st Fa Ha) (y : YPair f g i Ha x Hb) (ha : ∀ v, f i = some v → RV M Fa v a) (hb : ∀ v, g i = some v → RV M Fa v b) : ∃ Fb, XM M Fa Ha Fb Hb ∧ RV M Fb x (.tup [a, b]) := by
  obtain ⟨T, u, w, rfl, nT, rfl, h1, h2⟩ := y
  have s := same_upd (o := HO.tup [u, w]) (sub_none gd.sub nT)
  exact ⟨upd Fa T (.tup [u, w]), (XE.refl gd).new nT, .tup (.inl (.inl upd_same)) (.cons ((ha u h1).mono s) (.cons ((hb w h2).mono s) .nil))⟩
/-- a sequence: a list or not, its items -/
@[reducible] def isSq : D → Option (Bool × List D)
  | .lst l => some (true, l)
  | .tup l => some (false, l)
  | .stn ns => some (false, ns.map D.int)
  | .ixt ns => some (false, ns.map D.int)
  | _ => none
theorem RV.sqb {F : Hp} {v : V} {d : D} {j : Bool} {l : List D} (h : RV M F v d) (e : isSq d = some (j, l)) : ∃ a vs, v = .ref a ∧ SqB j M.K F a vs ∧ RL M F vs l := by
  cases h with
  | lst a b => cases e; exact ⟨_, _, rfl, a, b⟩
  | tup a b => cases e; exact ⟨_, _, rfl, a, b⟩
  | stn a => cases e; exact ⟨_, _, rfl, .inl (.inl a), RA.ofInts _⟩
  | ixt a _ => cases e; exact ⟨_, _, rfl, .inl (.inr ⟨_, a⟩), RA.ofInts _⟩
  | _ => cases e
theorem sqB_mono {K : PySem.W.Frag} {F H : Hp} {j : Bool} {a : Addr} {vs : List V} (s : Same F H) (h : SqB j K F a vs) : SqB j K H a vs := by
  cases j with
  | true => exact sqL_mono s h
  | false => exact sqT_mono s h
theorem wi_sq (h : WE M te ρ fun d => ∃ j l, isSq d = some (j, l) ∧ ka l) : WI M (iSeq M.K te) ρ ka := fun σ F H Q e f => h σ F H _ e fun v d F1 H1 x1 r1 ⟨j, l, z, q⟩ => by
  obtain ⟨a, vs, rfl, h1, h2⟩ := RV.sqb r1 z
  have key : ∀ (i : Nat) x Fa Ha Hb d, Same F1 Fa → Gd M.K M.st Fa Ha → YAt vs i Ha x Hb → l[i]? = some d → ∃ Fb, XM M Fa Ha Fb Hb ∧ RV M Fb x d := fun i x Fa Ha Hb d s g y hd => by
    obtain ⟨rfl, hv⟩ := y
    obtain ⟨d', e1, e2⟩ := h2.at hv
    rw [hd] at e1
    cases e1
    exact ⟨Fa, XE.refl g, e2.mono s⟩
  cases j with
  | true => exact .inl ⟨a, rfl, ⟨vs, sqL_mono x1.gd.sub h1⟩, f _ l F1 H1 x1 ⟨_, _, by rw [← h2.len]; exact walk_list, fun F' H' s g => sqL_mono (s.trans g.sub) h1, key⟩ q⟩
  | false => exact .inr ⟨a, rfl, ⟨vs, sqT_mono x1.gd.sub h1⟩, f _ l F1 H1 x1 ⟨_, _, by rw [← h2.len]; exact walk_tup, fun F' H' s g => sqT_mono (s.trans g.sub) h1, key⟩ q⟩
def enumD (l : List D) : List D := l.mapIdx fun i d => D.tup [.int (i : Int), d]
/-! ### loops -/
theorem ws_for {wi : TI} {g : TG} {tb : TS} (h : WI M wi ρ fun l => ∃ I : Nat → Rho → Prop, I 0 ρ ∧ (∀ (i : Nat) d ρ', l[i]? = some d → I i ρ' → WG M (fun _ => True) g d ρ' fun ρ2 => WS M tb ρ2 (I (i + 1)) rt nx (I (i + 1))) ∧ ∀ ρ', I l.length ρ' → nx ρ') : WS M (tFor wi g tb) ρ nx rt bk ct := fun σ F H E e f1 f2 f3 f4 =>
  h σ F H _ e fun J l F1 H1 x1 ⟨G, Y, w1, w2, w3⟩ ⟨I, h0, hs, hd⟩ => by
    refine for_w w1 (nx := E.nx) (Q := E.rt) (fun i σ' H' => ∃ ρ' F', Same F1 F' ∧ Fr M ρ' σ' F' H' ∧ I i ρ') ⟨ρ, F1, Same.refl _, e.step x1, h0⟩ ?_ ?_ ?_
    · rintro i σ' H' _ ⟨ρ', F', s, e', _⟩
      exact w2 F' H' s e'.gd
    · rintro i x σ' H' H2 hi ⟨ρ', F', s, e', hI⟩ y
      have hl : l[i]? = some l[i] := List.getElem?_eq_getElem hi
      obtain ⟨Fb, xb, rb⟩ := w3 i x F' H' H2 _ s e'.gd y hl
      refine hs i _ ρ' hl hI x σ' Fb H2 _ (e'.step xb) rb fun ρ2 σ2 F2 H3 x2 e2 _ _ _ h2 => ?_
      refine h2 σ2 F2 H3 ⟨_, _, _, _⟩ e2 (fun ρ3 σ3 F3 H4 s3 e3 h3 => ⟨ρ3, F3, (s.trans (xb.trans x2).ff).trans s3, e3, h3⟩) f2 (fun ρ3 σ3 F3 H4 s3 e3 h3 => f1 ρ3 σ3 F3 H4 (x1.ff.trans ((s.trans (xb.trans x2).ff).trans s3)) e3 h3) fun ρ3 σ3 F3 H4 s3 e3 h3 => ⟨ρ3, F3, (s.trans (xb.trans x2).ff).trans s3, e3, h3⟩
    · rintro σ' H' ⟨ρ', F', s, e', hI⟩
      exact f1 ρ' σ' F' H' (x1.ff.trans s) e' (hd ρ' hI)
/-! ### comprehensions -/
theorem wipe_eq {σ σ' : L2.St} : ∀ (vs : List Nat), σ'.length = σ.length → (∀ i : Nat, ¬ i ∈ vs → σ'[i]? = (wipe σ vs)[i]?) → wipe σ' vs = wipe σ vs := fun vs hl h => by
  have none_in : ∀ (τ : L2.St) (vs : List Nat) (i : Nat), i ∈ vs → i < τ.length → (wipe τ vs)[i]? = some none := fun τ vs => by
    induction vs with
    | nil => intro i hi; cases hi
    | cons v vs ih =>
      intro i hi hl
      unfold wipe
      by_cases z : v = i
      · subst z
        rw [List.getElem?_set_self (by rw [wipe_length]; exact hl)]
      · rw [List.getElem?_set_ne z]
        rcases List.mem_cons.mp hi with rfl | hi
        · exact absurd rfl z
        · exact ih i hi hl
  have out : ∀ (τ : L2.St) (vs : List Nat) (i : Nat), i ∉ vs → (wipe τ vs)[i]? = τ[i]? := fun τ vs => by
    induction vs with
    | nil => intro i _; rfl
    | cons v vs ih =>
      intro i hi
      unfold wipe
      rw [List.getElem?_set_ne (fun z => hi (by rw [z]; exact List.mem_cons_self))]
      exact ih i fun q => hi (List.mem_cons_of_mem _ q)
  refine List.ext_getElem? fun i => ?_
  by_cases z : i ∈ vs
  · by_cases w : i < σ.length
    · rw [none_in _ _ _ z (by rw [hl]; exact w), none_in _ _ _ z w]
    · rw [List.getElem?_eq_none (by rw [wipe_length, hl]; omega), List.getElem?_eq_none (by rw [wipe_length]; omega)]
  · rw [out _ _ _ z, h i z]
/-- each element some data of a kind -/
theorem wo_lcR {wi : TI} {g : TG} {vs : List Nat} (h : WV M wi ρ fun l => l.length < 100000 ∧ ∃ P : Nat → D → Prop, (∀ (i : Nat) d, l[i]? = some d → WG M (· ∈ vs) g d (wipeR ρ vs) fun ρ' => WE M te ρ' (P i)) ∧ ∀ m : List D, m.length = l.length → (∀ (i : Nat) d, m[i]? = some d → P i d) → ka m) : WO M (tLc wi g tYes te vs) ρ ka := fun σ F H Q e f =>
  h σ F H _ e fun J l F1 H1 x1 ⟨G, Y, w1, w2, w3⟩ ⟨hn, P, hs, hd⟩ => by
    intro L hL
    have nL := x1.ok.ne hL
    have fL := sub_none x1.gd.sub hL
    have e1 := e.step x1
    refine lc_it w1 (fun i H' => ∃ F' acc ds, XM M F1 H1 F' H' ∧ F' L = none ∧ Dl M.st H' L = some (.lst acc) ∧ RL M F' acc ds ∧ ds.length = i ∧ ∀ (j : Nat) d, ds[j]? = some d → P j d) ?_ ?_ ?_ ?_
    · exact ⟨F1, [], [], (XE.refl x1.gd).mut hL, fL, Dl_at nL, .nil, rfl, fun j d hj => by simp at hj⟩
    · rintro i H' _ ⟨F', acc, ds, x, _⟩
      exact w2 F' H' x
    · rintro i x H' H2 hi ⟨F', acc, ds, x2, fl, hl, hr, hlen, hP⟩ y
      have hli : l[i]? = some l[i] := List.getElem?_eq_getElem hi
      obtain ⟨Fb, xb, rb⟩ := w3 i x F' H' H2 _ x2 y hli
      have eb := (e1.step (x2.trans xb)).wipe vs
      refine hs i _ hli x _ Fb H2 _ eb rb fun ρ3 σ3 F3 H3 x3 e3 l3 s3 _ h3 => ?_
      refine ⟨?_, ?_⟩
      · have := wipe_eq (σ := σ) (σ' := σ3) vs (by rw [l3, wipe_length]) s3
        exact this
      · show te σ3 H3 _
        refine h3 σ3 F3 H3 _ e3 fun v d F4 H4 x4 r4 h4 => ?_
        have xb4 := xb.trans (x3.trans x4)
        have hl4 := xb4.ext.hh _ _ hl
        have fl4 := xb4.ext.fr L _ hl rfl fl
        refine ⟨acc, Dl_sub _ _ hl4, Nat.lt_of_lt_of_le (show acc.length < 100000 by rw [hr.len]; omega) (by decide), F4, acc ++ [v], ds ++ [d], ?_, fl4, ?_, (hr.mono xb4.ff).app (.cons r4 .nil), by simp [hlen], ?_⟩
        · exact (x2.trans xb4).chg hl4 (Dl_none hL) fl4
        · exact Dl_at nL
        · intro j dj hj
          by_cases q : j < ds.length
          · rw [List.getElem?_append_left q] at hj
            exact hP j dj hj
          · have : j = ds.length := by
              have := (List.getElem?_eq_some_iff.mp hj).1
              simp at this
              omega
            subst this
            rw [List.getElem?_append_right (Nat.le_refl _)] at hj
            simp at hj
            rw [← hj, hlen]
            exact h4
    · rintro H' ⟨F', acc, ds, x2, fl, hl, hr, hlen, hP⟩
      exact f L acc ds F' H' (x1.trans x2) hl fl (x1.ext.hh.free (Dl_none hL)) hr (hd ds hlen hP)
/-- each element a function of the item -/
theorem wo_lc {α : Type} {wi : TI} {g : TG} {vs : List Nat} (h : WV M wi ρ fun l => l.length < 100000 ∧ ∃ (xs : List α) (f g' : α → D), l = xs.map f ∧ (∀ a ∈ xs, WG M (· ∈ vs) g (f a) (wipeR ρ vs) fun ρ' => WE M te ρ' fun d => d = g' a) ∧ ka (xs.map g')) : WO M (tLc wi g tYes te vs) ρ ka := by
  refine wo_lcR fun σ F H Q e f => h σ F H Q e fun J l F' H' x w ⟨hn, xs, e1, g', hl, hs, q⟩ => f J l F' H' x w ⟨hn, fun i d => ∃ a, xs[i]? = some a ∧ d = g' a, ?_, ?_⟩
  · intro i d hd
    subst hl
    rw [List.getElem?_map] at hd
    cases hx : xs[i]? with
    | none => rw [hx] at hd; cases hd
    | some a =>
      rw [hx] at hd
      cases hd
      have := hs a (List.mem_of_getElem? hx)
      intro v σ F H Q e r f
      exact this v σ F H Q e r fun ρ' σ' F' H' x' e' l' s' o' h' => f ρ' σ' F' H' x' e' l' s' o' (h'.mono fun d hd => ⟨a, hx, hd⟩)
  · intro m hm hP
    have : m = xs.map g' := by
      refine List.ext_getElem? fun i => ?_
      cases hv : m[i]? with
      | none =>
        have : m.length ≤ i := List.getElem?_eq_none_iff.mp hv
        rw [hm, hl, List.length_map] at this
        rw [List.getElem?_eq_none (by simpa using this)]
      | some v =>
        obtain ⟨a, h1, rfl⟩ := hP i v hv
        rw [List.getElem?_map, h1]
        rfl
    rw [this]
    exact q
/-- .. with a test -/
theorem wo_lcf {α : Type} {wi : TI} {g : TG} {tt : TT} {vs : List Nat} (h : WV M wi ρ fun l => l.length < 100000 ∧ ∃ (xs : List α) (f g' : α → D) (p : α → Bool), l = xs.map f ∧ (∀ a ∈ xs, WG M (· ∈ vs) g (f a) (wipeR ρ vs) fun ρ' => WT M tt ρ' fun b => b = p a ∧ (b = true → WE M te ρ' fun d => d = g' a)) ∧ ka ((xs.filter p).map g')) : WO M (tLc wi g tt te vs) ρ ka := fun σ F H Q e f =>
  h σ F H _ e fun J l F1 H1 x1 ⟨G, Y, w1, w2, w3⟩ ⟨hn, xs, fe, g', pp, hle, hs, hd⟩ => by
    intro L hL
    have nL := x1.ok.ne hL
    have fL := sub_none x1.gd.sub hL
    have e1 := e.step x1
    refine lc_it w1 (fun i H' => ∃ F' acc, XM M F1 H1 F' H' ∧ F' L = none ∧ Dl M.st H' L = some (.lst acc) ∧ RL M F' acc (((xs.take i).filter pp).map g')) ?_ ?_ ?_ ?_
    · exact ⟨F1, [], (XE.refl x1.gd).mut hL, fL, Dl_at nL, by simp; exact .nil⟩
    · rintro i H' _ ⟨F', acc, x, _⟩
      exact w2 F' H' x
    · rintro i x H' H2 hi ⟨F', acc, x2, fl, hl, hr⟩ y
      have hli : l[i]? = some l[i] := List.getElem?_eq_getElem hi
      have hi' : i < xs.length := by rw [hle, List.length_map] at hi; exact hi
      have hxi : xs[i]? = some xs[i] := List.getElem?_eq_getElem hi'
      have hfe : l[i]? = some (fe xs[i]) := by rw [hle, List.getElem?_map, hxi]; rfl
      obtain ⟨Fb, xb, rb⟩ := w3 i x F' H' H2 _ x2 y hfe
      have eb := (e1.step (x2.trans xb)).wipe vs
      have alen : acc.length ≤ i := by
        rw [hr.len, List.length_map]
        exact Nat.le_trans (List.length_filter_le _ _) (by rw [List.length_take]; omega)
      refine hs xs[i] (List.getElem_mem _) x _ Fb H2 _ eb rb fun ρ3 σ3 F3 H3 x3 e3 l3 s3 _ h3 => ⟨wipe_eq (σ := σ) (σ' := σ3) vs (by rw [l3, wipe_length]) s3, ?_⟩
      refine h3 σ3 F3 H3 _ e3 fun b F4 H4 x4 ⟨hb, h4⟩ => ?_
      have tk : xs.take (i + 1) = xs.take i ++ [xs[i]] := by rw [List.take_add_one, hxi]; rfl
      cases b with
      | true =>
        refine iteT ((h4 rfl) σ3 F4 H4 _ (e3.step x4) fun v d F5 H5 x5 r5 h5 => ?_)
        have xb4 := xb.trans (x3.trans (x4.trans x5))
        have hl4 := xb4.ext.hh _ _ hl
        have fl4 := xb4.ext.fr L _ hl rfl fl
        refine ⟨acc, Dl_sub _ _ hl4, Nat.lt_of_lt_of_le (show acc.length < 100000 by omega) (by decide), F5, acc ++ [v], (x2.trans xb4).chg hl4 (Dl_none hL) fl4, fl4, Dl_at nL, ?_⟩
        rw [tk, List.filter_append, List.map_append]
        refine (hr.mono xb4.ff).app ?_
        subst h5
        rw [List.filter_cons_of_pos (by rw [← hb])]
        exact .cons r5 .nil
      | false =>
        have xb4 := xb.trans (x3.trans x4)
        refine iteF ⟨F4, acc, x2.trans xb4, xb4.ext.fr L _ hl rfl fl, xb4.ext.hh _ _ hl, ?_⟩
        rw [tk, List.filter_append, List.map_append, List.filter_cons_of_neg (by rw [← hb]; decide)]
        simp
        exact hr.mono xb4.ff
    · rintro H' ⟨F', acc, x2, fl, hl, hr⟩
      refine f L acc _ F' H' (x1.trans x2) hl fl (x1.ext.hh.free (Dl_none hL)) hr ?_
      rw [List.take_of_length_le (by rw [hle, List.length_map]; omega)]
      exact hd
end
end G

namespace G
open PySem PySem.Spec PyProof.Rows L2
/-! ## promises by data -/
abbrev Ct := List D → (D → Prop) → Prop
def spD (K : PySem.W.Frag) (C : Addr) (c : Ct) : Sp := fun vs H Q _ => ∃ st F ds k, Gd K st F H ∧ RA K C st F vs ds ∧ c ds k ∧ ∀ v d F' H', XE K st F H F' H' → R K C st F' v d → k d → Q v H'
def startR (N : List Str) (ds : List D) : Rho := ds.map (fun d => some (Sl.d d)) ++ List.replicate (N.length - ds.length) none
theorem fr_start {K : PySem.W.Frag} {C : Addr} {st : Option Addr} {F H : Hp} {N : List Str} {vs : List V} {ds : List D} (g : Gd K st F H) (r : RA K C st F vs ds) : Fr ⟨K, C, st, F, H⟩ (startR N ds) (start N vs) F H := by
  refine ⟨XE.refl g, by simp [L2.start, startR, r.len], fun i s h => ?_, fun i j s t _ h1 _ m1 _ => ?_⟩
  · unfold startR at h
    unfold L2.start
    by_cases z : i < ds.length
    · rw [List.getElem?_append_left (by simpa using z), List.getElem?_map] at h
      rw [List.getElem?_append_left (by simpa [r.len] using z), List.getElem?_map]
      rw [List.getElem?_eq_getElem z] at h
      cases h
      obtain ⟨v, h1, h2⟩ := r.get (List.getElem?_eq_getElem z)
      exact ⟨v, by rw [h1]; rfl, h2⟩
    · rw [List.getElem?_append_right (by simpa using z), List.getElem?_replicate] at h
      split at h
      · cases h
      · cases h
  · unfold startR at h1
    by_cases z : i < ds.length
    · rw [List.getElem?_append_left (by simpa using z), List.getElem?_map, List.getElem?_eq_getElem z] at h1
      cases h1
      cases m1
    · rw [List.getElem?_append_right (by simpa using z), List.getElem?_replicate] at h1
      split at h1
      · cases h1
      · cases h1
theorem ws_start {K : PySem.W.Frag} {C : Addr} {st : Option Addr} {F H : Hp} {N : List Str} {vs : List V} {ds : List D} {k : D → Prop} {Q : VK} {t : TS} (g : Gd K st F H) (r : RA K C st F vs ds) (f : ∀ v d F' H', XE K st F H F' H' → R K C st F' v d → k d → Q v H')
    (h : WS ⟨K, C, st, F, H⟩ t (startR N ds) (fun _ => k .non) (rtD k) (fun _ => False) (fun _ => False)) : t { nx := fun _ H' => Q .non H', rt := Q } (start N vs) H :=
  h _ F H _ (fr_start g r) (fun ρ' σ' F' H' _ e q => f _ _ F' H' e.x .non q) (fun v s ρ' σ' F' H' e r q => by
    cases s with
    | d d => exact f v d F' H' e.x r q
    | _ => exact q.elim) (fun _ _ _ _ _ _ q => q.elim) (fun _ _ _ _ _ _ q => q.elim)
section
variable {P : Program} {w : World} {K : PySem.W.Frag} {mg : Str → Option Value} {base : Heap} {C : Addr}
theorem FunAt.defD {x : Str} {st : Stmt} {N ps : List Str} {n : Nat} {c : Ct} (F : FunAt K mg x st ps) (S : FnScope N ps (defScope st)) (len : ∀ ds k, c ds k → ds.length = ps.length)
    (hbody : ∀ (f : Addr) (cdv : Value) (A : Around) (outer : List Env) (s : Shared) (H : Hp) (E : XK) (sa : Option Addr) (F : Hp) (ds : List D) (k : D → Prop), Room n (A.deeper (envOfC x (defScope st) s.heap.objs.size f cdv)) → c ds k →
      ∃ t, PSs (cxOf CX0 P w K mg base N x (defScope st) f cdv A outer s H E).nox (defBody st) t ∧ WS ⟨K, C, sa, F, H⟩ t (startR N ds) (fun _ => k .non) (rtD k) (fun _ => False) (fun _ => False)) : Def P w K mg base (n + 1) x ps (spD K C c) := by
  refine F.def S (fun vs H Q E h => ?_) fun f cdv A outer s H vs Q E hr h => ?_
  · obtain ⟨st, F, ds, k, _, r, hc, _⟩ := h
    rw [r.len]
    exact len ds k hc
  · obtain ⟨st, F, ds, k, g, r, hc, q⟩ := h
    obtain ⟨t, h1, h2⟩ := hbody f cdv A outer s H E st F ds k hr hc
    exact ⟨t, h1, ws_start g r q h2⟩
theorem MethAt.defD {x qual : Str} {st : Stmt} {N ps : List Str} {n : Nat} {c : Ct} (F : MethAt K C x qual st ps) (S : FnScope N ps (defScope st)) (len : ∀ ds k, c ds k → ds.length = ps.length)
    (hbody : ∀ (f : Addr) (cdv : Value) (A : Around) (outer : List Env) (s : Shared) (H : Hp) (E : XK) (sa : Option Addr) (F : Hp) (ds : List D) (k : D → Prop), Room n (A.deeper (envOfC qual (defScope st) s.heap.objs.size f cdv)) → c ds k →
      ∃ t, PSs (cxOf CX0 P w K mg base N qual (defScope st) f cdv A outer s H E).nox (defBody st) t ∧ WS ⟨K, C, sa, F, H⟩ t (startR N ds) (fun _ => k .non) (rtD k) (fun _ => False) (fun _ => False)) : DefM P w K mg base (n + 1) C x ps (spD K C c) := by
  refine F.def S (fun vs H Q E h => ?_) fun f cdv A outer s H vs Q E hr h => ?_
  · obtain ⟨st, F, ds, k, _, r, hc, _⟩ := h
    rw [r.len]
    exact len ds k hc
  · obtain ⟨st, F, ds, k, g, r, hc, q⟩ := h
    obtain ⟨t, h1, h2⟩ := hbody f cdv A outer s H E st F ds k hr hc
    exact ⟨t, h1, ws_start g r q h2⟩
/-- an older promise, by data -/
theorem Def.to {k : Nat} {x : Str} {ps : List Str} {sp sp' : Sp} (D : Def P w K mg base k x ps sp) (h : ∀ vs H Q E, sp' vs H Q E → sp vs H Q E) : Def P w K mg base k x ps sp' := by
  obtain ⟨f, fd, F, b⟩ := D.ex
  exact ⟨f, fd, F.imp h, b⟩
theorem DefM.to {k : Nat} {x : Str} {ps : List Str} {sp sp' : Sp} (D : DefM P w K mg base k C x ps sp) (h : ∀ vs H Q E, sp' vs H Q E → sp vs H Q E) : DefM P w K mg base k C x ps sp' := by
  obtain ⟨f, fd, F, b⟩ := D.ex
  exact ⟨f, fd, F.imp h, b⟩
end
section
variable {M : Cm} {ρ : Rho} {k : D → Prop} {ka : List D → Prop} {ta tb te : TE} {tr : TA} {i : Nat} {d : D} {l : List D}
theorem we_call {c : Ct} {E : XK} (h : WA M tr ρ fun ds => c ds k) : WE M (tCall (spD M.K M.C c) [] E tr) ρ k := fun σ F H Q e f => by
  refine s_call (h σ F H _ e fun vs ds F1 H1 x1 r1 h1 => ⟨M.st, F1, ds, k, x1.gd, r1, h1, fun v d F' H' x2 => f v d F' H' (x1.trans x2)⟩)
/-- data that is no object -/
def D.flat : D → Bool
  | .non => true
  | .bl _ => true
  | .int _ => true
  | .str _ => true
  | _ => false
theorem R.flat {K : PySem.W.Frag} {C : Addr} {st : Option Addr} {F F' : Hp} {v : V} {d : D} (h : R K C st F v d) (hf : d.flat = true) : R K C st F' v d := by
  cases h with
  | non => exact .non
  | bl b => exact .bl b
  | int i => exact .int i
  | str s => exact .str s
  | lst _ _ => cases hf
  | tup _ _ => cases hf
  | stn _ => cases hf
  | ixt _ _ => cases hf
  | bench _ => cases hf
  | dic _ _ _ => cases hf
  | dit _ _ _ => cases hf
  | st _ => cases hf
  | exc0 => cases hf
  | exc _ _ _ => cases hf
  | lsx _ => cases hf
theorem RB.rv {F H : Hp} {v : V} {d : D} (g : Gd M.K M.st F H) (h : RB M F H v d) : RV M (Dl M.st H) v d := by
  rcases h with h | ⟨p, vs, l, rfl, rfl, h1, h2⟩ | ⟨p, ks, vs, l, rfl, rfl, h1, h3, h2⟩ | ⟨p, ks, vs, l, rfl, rfl, h1, h3, h2⟩
  · exact R.mono g.fh h
  · exact .lst (.inl (.inl h1)) (h2.mono g.fh)
  · exact .dic h1 h3 (h2.mono g.fh)
  · exact .dit h1 h3 (h2.mono g.fh)
theorem RBs.rl {F H : Hp} (g : Gd M.K M.st F H) : ∀ {vs : List V} {ds : List D}, RBs M F H vs ds → RL M (Dl M.st H) vs ds
  | _, _, .nil => .nil
  | _, _, .cons h t => .cons (h.rv g) (t.rl g)
theorem fl_noM {m : Str} (h : [("hard" : Str), "places", "told", "heavy", "meets"].contains m = false) {l1 l2 l3 l4 : Addr} {n : Int} : (bflds l1 n l2 l3 l4).lookup m = none := by
  simp only [List.contains_eq_mem, List.mem_cons, List.not_mem_nil, or_false, decide_eq_false_iff_not, not_or] at h
  obtain ⟨h1, h2, h3, h4, h5⟩ := h
  unfold bflds
  simp only [List.lookup]
  rw [show (m == ("hard" : Str)) = false by simpa using h1]
  dsimp only
  rw [show (m == ("places" : Str)) = false by simpa using h2]
  dsimp only
  rw [show (m == ("told" : Str)) = false by simpa using h3]
  dsimp only
  rw [show (m == ("heavy" : Str)) = false by simpa using h4]
  dsimp only
  rw [show (m == ("meets" : Str)) = false by simpa using h5]
theorem we_meth {m : Str} {c : Ct} {E : XK} (hm : [("hard" : Str), "places", "told", "heavy", "meets"].contains m = false) (h : WE M ta ρ fun d => ∃ B, d = .bench B ∧ WA M tr ρ fun ds => c (d :: ds) k) : WE M (tMeth M.C m (spD M.K M.C c) [] E ta tr) ρ k := fun σ F H Q e f => by
  refine s_meth (h σ F H _ e fun v d F1 H1 x1 r1 ⟨B, z, h1⟩ => ?_)
  subst z
  cases r1 with
  | bench hb =>
    obtain ⟨dx, l1, l2, l3, l4, h2, _⟩ := hb.ex
    refine ⟨_, dx, _, rfl, x1.gd.sub _ _ h2, fl_noM hm, h1 σ F1 H1 _ (e.step x1) fun vs ds F2 H2 x2 r2 h3 => ?_⟩
    exact ⟨M.st, F2, _, k, x2.gd, .cons (.bench (hb.mono x2.ff)) r2, h3, fun v d F' H' x3 => f v d F' H' ((x1.trans x2).trans x3)⟩
/-! the fields of a bench -/
abbrev gDD (g : Nat × Nat × List Nat) : D := .tup [.int g.1, .int g.2.1, .tup (g.2.2.map fun (x : Nat) => D.int (x : Int))]
abbrev pDD (p : Nat × Nat) : D := .tup [.int p.1, .int p.2]
/-- plain data without strict tuples -/
inductive Pz : D → Prop
  | non : Pz .non
  | bl {b : Bool} : Pz (.bl b)
  | int {i : Int} : Pz (.int i)
  | str {s : Str} : Pz (.str s)
  | lst {l : List D} : (∀ d ∈ l, Pz d) → Pz (.lst l)
  | tup {l : List D} : (∀ d ∈ l, Pz d) → Pz (.tup l)
theorem pz_map {α : Type} {f : α → D} {l : List α} (h : ∀ x ∈ l, Pz (f x)) : ∀ d ∈ l.map f, Pz d := fun d hd => by
  obtain ⟨x, hx, rfl⟩ := List.mem_map.mp hd
  exact h x hx
theorem pz_nil : ∀ d ∈ ([] : List D), Pz d := fun _ h => nomatch h
theorem pz_cons {d : D} {l : List D} (h : Pz d) (t : ∀ e ∈ l, Pz e) : ∀ e ∈ d :: l, Pz e := fun e he => by
  rcases List.mem_cons.mp he with rfl | he
  · exact h
  · exact t e he
theorem Dp.rv {K : PySem.W.Frag} {C : Addr} {st : Option Addr} {F : Hp} {v : V} {p : PyData} {d : D} (h : Dp K F v p) (e : d.py = p) (hp : Pz d) : R K C st F v d := by
  induction hp generalizing v p with
  | non => subst e; cases h; exact .non
  | bl => subst e; cases h; exact .bl _
  | int => subst e; cases h; exact .int _
  | str => subst e; cases h; exact .str _
  | lst hl ih =>
    subst e
    rw [D.py] at h
    obtain ⟨a, xs, rfl, h1, h2⟩ := dp_refL h
    refine .lst h1 (RA.of (by rw [dpAll_len h2, pys_map, List.length_map]) fun i v d hv hd => ?_)
    obtain ⟨v', q1, q2⟩ := dpAll_get (i := i) h2 (by rw [pys_map, List.getElem?_map, hd]; rfl)
    rw [hv] at q1
    cases q1
    exact ih d (List.mem_of_getElem? hd) q2 rfl
  | tup hl ih =>
    subst e
    rw [D.py] at h
    obtain ⟨a, xs, rfl, h1, h2⟩ := dp_refT h
    refine .tup h1 (RA.of (by rw [dpAll_len h2, pys_map, List.length_map]) fun i v d hv hd => ?_)
    obtain ⟨v', q1, q2⟩ := dpAll_get (i := i) h2 (by rw [pys_map, List.getElem?_map, hd]; rfl)
    rw [hv] at q1
    cases q1
    exact ih d (List.mem_of_getElem? hd) q2 rfl
theorem pz_gDD (g : Nat × Nat × List Nat) : Pz (gDD g) := .tup (pz_cons .int (pz_cons .int (pz_cons (.tup (pz_map fun _ _ => .int)) pz_nil)))
theorem pz_pDD (p : Nat × Nat) : Pz (pDD p) := .tup (pz_cons .int (pz_cons .int pz_nil))
theorem pz_told (B : BD) : Pz (.lst (B.told.map gDD)) := .lst (pz_map fun g _ => pz_gDD g)
theorem pz_meets (B : BD) : Pz (.lst (B.meets.map fun r => .lst (r.map pDD))) := .lst (pz_map fun r _ => .lst (pz_map fun p _ => pz_pDD p))
theorem py_gDD (g : Nat × Nat × List Nat) : (gDD g).py = gD g := by
  simp only [gDD, D.py, pys, pys_map, gD, List.map_map]
  rfl
abbrev toldD (B : BD) : D := .lst (B.told.map gDD)
abbrev meetsD (B : BD) : D := .lst (B.meets.map fun r => .lst (r.map pDD))
theorem py_told (B : BD) : (toldD B).py = .list (B.told.map gD) := by
  simp only [toldD, D.py, pys_map, List.map_map]
  congr 1
  exact List.map_congr_left fun g _ => py_gDD g
theorem py_meets (B : BD) : (meetsD B).py = .list (B.meets.map fun r => .list (r.map pD)) := by
  simp only [meetsD, D.py, pys_map, List.map_map]
  congr 1
  refine List.map_congr_left fun r _ => ?_
  show PyData.list (pys (r.map pDD)) = _
  rw [pys_map, List.map_map]
  congr 1
section
variable {mg : Str → Option Value}
theorem we_fld {f : Str} (h : WE M te ρ fun d => ∃ B v, d = .bench B ∧ k v ∧ (∀ F b dx l1 l2 l3 l4, F b = some (.ins M.C dx (bflds l1 B.places l2 l3 l4)) → SqL M.K F l1 (B.hard.map V.int) → Dp M.K F (.ref l2) (.list (B.told.map gD)) → SqL M.K F l3 (B.heavy.map V.int) → Dp M.K F (.ref l4) (.list (B.meets.map fun r => .list (r.map pD))) → ∃ x, Cls M.K M.C ∧ NoAttr M.K M.C f ∧ (bflds l1 B.places l2 l3 l4).lookup f = some x ∧ RV M F x v)) : WE M (tFld M.K te f) ρ k := fun σ F H Q e g => by
  refine h σ F H _ e fun v d F1 H1 x1 r1 ⟨B, w, z, q, h1⟩ => ?_
  subst z
  cases r1 with
  | bench hb =>
    obtain ⟨dx, l1, l2, l3, l4, h2, h3, h4, h5, h6⟩ := hb.ex
    obtain ⟨x, cl, na, lk, rv⟩ := h1 F1 _ dx l1 l2 l3 l4 h2 h3 h4 h5 h6
    exact ⟨_, M.C, dx, _, x, rfl, x1.gd.sub _ _ h2, cl, na, lk, g _ _ F1 H1 x1 rv q⟩
theorem we_hard (T : Txt M.K mg M.C) (h : WE M te ρ fun d => ∃ B, d = .bench B ∧ k (.lst (B.hard.map D.int))) : WE M (tFld M.K te "hard") ρ k := we_fld (h.mono fun d ⟨B, z, q⟩ => ⟨B, _, z, q, fun F b dx l1 l2 l3 l4 h2 h3 h4 h5 h6 => ⟨_, T.cl, T.n_hard, fl_hard, .lst h3 (RA.ofInts _)⟩⟩)
theorem we_heavy (T : Txt M.K mg M.C) (h : WE M te ρ fun d => ∃ B, d = .bench B ∧ k (.lst (B.heavy.map D.int))) : WE M (tFld M.K te "heavy") ρ k := we_fld (h.mono fun d ⟨B, z, q⟩ => ⟨B, _, z, q, fun F b dx l1 l2 l3 l4 h2 h3 h4 h5 h6 => ⟨_, T.cl, T.n_heavy, fl_heavy, .lst h5 (RA.ofInts _)⟩⟩)
theorem we_places (T : Txt M.K mg M.C) (h : WE M te ρ fun d => ∃ B, d = .bench B ∧ k (.int B.places)) : WE M (tFld M.K te "places") ρ k := we_fld (h.mono fun d ⟨B, z, q⟩ => ⟨B, _, z, q, fun F b dx l1 l2 l3 l4 h2 h3 h4 h5 h6 => ⟨_, T.cl, T.n_places, fl_places, .int _⟩⟩)
theorem we_told (T : Txt M.K mg M.C) (h : WE M te ρ fun d => ∃ B, d = .bench B ∧ k (toldD B)) : WE M (tFld M.K te "told") ρ k := we_fld (h.mono fun d ⟨B, z, q⟩ => ⟨B, _, z, q, fun F b dx l1 l2 l3 l4 h2 h3 h4 h5 h6 => ⟨_, T.cl, T.n_told, fl_told, Dp.rv h4 (py_told B) (pz_told B)⟩⟩)
theorem we_meets (T : Txt M.K mg M.C) (h : WE M te ρ fun d => ∃ B, d = .bench B ∧ k (meetsD B)) : WE M (tFld M.K te "meets") ρ k := we_fld (h.mono fun d ⟨B, z, q⟩ => ⟨B, _, z, q, fun F b dx l1 l2 l3 l4 h2 h3 h4 h5 h6 => ⟨_, T.cl, T.n_meets, fl_meets, Dp.rv h6 (py_meets B) (pz_meets B)⟩⟩)
end
/-! d[k] -/
def valD {κ : Type} [DecidableEq κ] : List κ → List D → κ → Option D
  | q :: ks, d :: l, x => if q = x then some d else valD ks l x
  | _, _, _ => none
theorem valD_RA {κ : Type} [DecidableEq κ] {F : Hp} {x : κ} : ∀ {ks : List κ} {vs : List V} {l : List D} {d : D}, RL M F vs l → valD ks l x = some d → ∃ v, valV (ks.zip vs) x = some v ∧ RV M F v d
  | [], _, _, _, _, h => by simp [valD] at h
  | _ :: _, _, _, _, .nil, h => by simp [valD] at h
  | q :: ks, _, _, d, .cons (vs := vs) (v := v) a b, h => by
    unfold valD at h
    by_cases z : q = x
    · rw [if_pos z] at h
      cases h
      exact ⟨v, by simp [valV, z], a⟩
    · rw [if_neg z] at h
      obtain ⟨u, h1, h2⟩ := valD_RA b h
      refine ⟨u, ?_, h2⟩
      rw [List.zip_cons_cons]
      unfold valV at h1 ⊢
      rw [List.find?_cons_of_neg (by simpa using z)]
      exact h1
/-- the law's own bench -/
abbrev gDX (g : Nat × Nat × List Nat) : D := .tup [.int g.1, .int g.2.1, .ixt (g.2.2.map fun (x : Nat) => (x : Int))]
abbrev toldX (B : BD) : D := .lst (B.told.map gDX)
theorem py_gDX (g : Nat × Nat × List Nat) : (gDX g).py = gD g := by
  show PyData.tuple [_, _, .tuple ((g.2.2.map fun (x : Nat) => (x : Int)).map PyData.int)] = _
  rw [List.map_map]
  rfl
theorem pl_gDX (g : Nat × Nat × List Nat) : Pl 2 (gDX g) := .tup (pl_cons .int (pl_cons .int (pl_cons .ixt pl_nil)))
theorem pl_toldX (B : BD) : Pl 3 (toldX B) := .lst (pl_map fun g _ => pl_gDX g)
theorem py_toldX (B : BD) : (toldX B).py = .list (B.told.map gD) := by
  unfold toldX
  rw [D.py, pys_map, List.map_map]
  congr 1
  exact List.map_congr_left fun g _ => py_gDX g
theorem txs_R {K : PySem.W.Frag} {C : Addr} {st : Option Addr} {F : Hp} : ∀ {vs : List V} {gs : List (Nat × Nat × List Nat)}, TXs K F vs gs → RA K C st F vs (gs.map gDX)
  | _, _, .nil => .nil
  | _, _, .cons h t => .cons (by
      obtain ⟨a, c, ob, rfl, h1, h2, h3⟩ := h
      exact .tup h1 (.cons (.int _) (.cons (.int _) (.cons (.ixt h2 h3) .nil)))) (txs_R t)
abbrev modelD (B : BD) : D := .dic [Sum.inr "hard", Sum.inr "places", Sum.inr "told", Sum.inr "heavy", Sum.inr "meets"] [.lst (B.hard.map D.int), .int B.places, toldX B, .lst (B.heavy.map D.int), meetsD B]
theorem model_R {K : PySem.W.Frag} {C : Addr} {st : Option Addr} {F : Hp} {m : Addr} {B : BD} (h : ModelAt K F m B) : R K C st F (.ref m) (modelD B) := by
  obtain ⟨l1, l2, l3, l4, hb, h1, h2, h3, h4⟩ := h.ex
  obtain ⟨m1, m2, m3, m4, hc, vs, h5, h6⟩ := h.ix
  rw [hb] at hc
  cases hc
  exact .dic (vs := [.ref l1, .int B.places, .ref l2, .ref l3, .ref l4]) hb rfl (.cons (.lst h1 (RA.ofInts _)) (.cons (.int _) (.cons (.lst h5 (txs_R h6)) (.cons (.lst h3 (RA.ofInts _)) (.cons (Dp.rv h4 (py_meets B) (pz_meets B)) .nil)))))
end
end G

namespace G
open PySem PySem.Spec PyProof.Rows L2

/-! ### an instance's own __eq__, __len__; != by it -/
section
variable {X : Cx} {k : Nat} {C : Addr} {ps : List Str} {sp : Sp} {pins : List (Addr × Obj)} {σ : L2.St} {H : Hp} {s : Shared}
def rOwnEq (K : PySem.W.Frag) (C : Addr) (sp : Sp) (g : Bool → Bool) : R2 := fun x y H Q => ∃ a dx fs ty, x = .ref a ∧ H a = some (.ins C dx fs) ∧ TyX K H y ty ∧ PySem.W.notFirst K C ty = true ∧ sp [x, y] H (fun v H' => ∃ b, v = .bl b ∧ Q (.bl (g b)) H') E0
/-- len(o) by an own __len__ -/
def rOwnLen (C : Addr) (sp : Sp) : List V → Hp → VK → Prop := fun vs H Q => ∃ a dx fs, vs = [.ref a] ∧ H a = some (.ins C dx fs) ∧ sp vs H (fun v H' => ∃ n : Nat, v = .int n ∧ n < 1000000 ∧ Q (.int n) H') E0
/-! ### == of two dicts of the same keys, their values data -/
def rEqDK (K : PySem.W.Frag) : R2 := fun x y H Q => ∃ a b kvs lvs ds es, x = .ref a ∧ y = .ref b ∧ H a = some (.dK kvs) ∧ H b = some (.dK lvs) ∧ kvs.map (·.1) = lvs.map (·.1) ∧ (kvs.map (·.1)).Nodup ∧ DpAll K H (kvs.map (·.2)) ds ∧ DpAll K H (lvs.map (·.2)) es ∧
  (∀ d ∈ ds, SeqAt.shaped d = true) ∧ (∀ d ∈ es, SeqAt.shaped d = true) ∧ Q (.bl (PyData.eqvAll ds es)) H
theorem valV_at {κ : Type} [DecidableEq κ] : ∀ {lvs : List (κ × V)} {i : Nat} {k : κ} {w : V}, (lvs.map (·.1)).Nodup → lvs[i]? = some (k, w) → valV lvs k = some w
  | [], _, _, _, _, h => by simp at h
  | p :: lvs, 0, k, w, _, h => by
    have : p = (k, w) := by simpa using h
    subst this
    simp [valV]
  | p :: lvs, i + 1, k, w, nd, h => by
    have h' : lvs[i]? = some (k, w) := by simpa using h
    rw [List.map_cons, List.nodup_cons] at nd
    have ne : ¬ p.1 = k := fun e => nd.1 (by rw [e]; exact List.mem_map.mpr ⟨_, List.mem_of_getElem? h', rfl⟩)
    have ih := valV_at nd.2 h'
    unfold valV at ih ⊢
    rw [List.find?_cons_of_neg (by simpa using ne)]
    exact ih
end
end G

namespace G
open PySem PySem.Spec PyProof.Rows L2
/-! ### enumerate of a list or a tuple -/
theorem meets_enumB {v : Value} {o : Obj} {H : Heap → Prop} (B : Begins v o H) :
    Meets (Builtin.«enumerate.__new__» ⟨[.type "enumerate", v], []⟩) (fun _ R s => H s.heap ∧
      R (.ok (.ret (.ref (s.heap.push o).objs.size))) { s with heap := (s.heap.push o).push { cls := .type "enumerate", data := .fields #[.none, .bool false, .ref s.heap.objs.size, rawInt 0, .none, .none] } }) :=
  .of_wp fun prog w A R s h => by
    obtain ⟨hp, g, d, tk, os⟩ := s
    obtain ⟨h1, h⟩ := h
    have hsub := sub_enumerate
    have q1 : ∀ {A' : Around} {E : Value → Shared → Prop} {Q : Value → Shared → Prop}, Q (.ref hp.objs.size) ⟨hp.push o, g, d, tk, os⟩ → wpAny (model prog w) A' (pyIter v) Q E ⟨hp, g, d, tk, os⟩ :=
      fun q => B.iter prog w _ _ ⟨hp, g, d, tk, os⟩ _ h1 q
    wp_walk using q1
    refine wpAny_stack_any fun st => wpAny_pure ?_
    split
    · rename_i c _ _ _ _ _
      cases (c == Value.type "enumerate")
      · wp_walk using q1
        exact ⟨_, rfl, h⟩
      · wp_walk using q1
        exact ⟨_, rfl, h⟩
    · wp_walk using q1
      exact ⟨_, rfl, h⟩
theorem enum_begins1 {prog : Program} {w : World} {A : Around} {E : Value → Shared → Prop} {s : Shared} {v : Value} {o : Obj} {H : Heap → Prop} {Q : Value → Shared → Prop} (B : Begins v o H) (h1 : H s.heap)
    (h : ∀ h', IsEnum h' (s.heap.objs.size + 1) s.heap.objs.size 0 .none → h'.get? s.heap.objs.size = some o → h'.objs.size = s.heap.objs.size + 2 →
      (∀ b o, s.heap.get? b = some o → h'.get? b = some o) → Q (.ref (s.heap.objs.size + 1)) { s with heap := h' }) :
    wpAny (model prog w) A (call (.type "enumerate") [v]) Q E s := by
  refine callType_new F.called_enumerate (by decide) (F.typeCall_enumerate_1 _) (F.newCall_enumerate_1 _) (fun obj => F.args_object_init_2 obj _) F.entry_enumerate_new (meets_enumB B) ⟨h1, ?_⟩
  have hz : (s.heap.push o).objs.size = s.heap.objs.size + 1 := Heap.size_push ..
  show _ ∧ _
  rw [hz]
  have he : IsEnum ((s.heap.push o).push { cls := .type "enumerate", data := .fields #[.none, .bool false, .ref s.heap.objs.size, rawInt 0, .none, .none] }) (s.heap.objs.size + 1) s.heap.objs.size 0 .none := by
    have := Heap.get?_push_size (s.heap.push o) (o := { cls := .type "enumerate", data := .fields #[.none, .bool false, .ref s.heap.objs.size, rawInt 0, .none, .none] }) rfl
    rw [hz] at this
    exact this
  refine ⟨⟨_, he, rfl⟩, h _ he (Heap.get?_push_of_some _ (Heap.get?_push_size _ B.free)) (by rw [Heap.size_push, hz]) fun b o x => Heap.get?_push_of_some _ (Heap.get?_push_of_some _ x)⟩
def IteM (j : Bool) (K : PySem.W.Frag) (a : Addr) : It :=
  ⟨fun i H => ∃ (xs : List V) (x : V), SqB j K H a xs ∧ xs[i]? = some x, fun i H v H' => ∃ T x, v = .ref T ∧ H T = none ∧ H' = upd H T (.tup [.int (i : Nat), x]) ∧ ∀ xs, SqB j K H a xs → xs[i]? = some x, fun i H => ∃ xs : List V, SqB j K H a xs ∧ xs.length = i⟩
theorem turn_enumM {P : Program} {w : World} {K : PySem.W.Frag} {j : Bool} {elts : List Expr} {kk : Nat} {tpos : Pos} (a e it : Addr) (nai : a ≠ it) (nea : e ≠ a) (nei : e ≠ it) :
    Turn P w K (.Tuple elts kk tpos) (IteM j K a) [e, it] e (fun i h => (∃ old, IsEnum h e it ((i : Nat) : Int) old) ∧ ItB j h it a i) where
  mem := by simp
  obj := fun i h st b hb => by
    obtain ⟨⟨old, he⟩, hi⟩ := st
    have e' : b = e ∨ b = it := by simpa using hb
    rcases e' with z | z
    · rw [z]; exact ⟨_, he, fun v q => nomatch q⟩
    · rw [z]; exact hi.obj
  keep := fun i h h' st k => let ⟨⟨old, he⟩, hi⟩ := st; ⟨⟨old, k e (by simp) _ he⟩, hi.at fun o q => k it (by simp) o q⟩
  item := by
    intro X hP hw hK hc i pins s σ H E I hf st hg
    subst hP hw hK
    obtain ⟨⟨old, he⟩, hit⟩ := st
    obtain ⟨xs, x, hq, hx⟩ := hg
    obtain ⟨its, rv, p, hz⟩ := sqb_at I hq
    obtain ⟨u, hu, ru⟩ := rv.get hx
    have hel : e < s.heap.objs.size := Heap.lt_size he
    have hil : it < s.heap.objs.size := by obtain ⟨_, q, _⟩ := hit.obj; exact Heap.lt_size q
    have l1 : i < its.toArray.size := by rw [List.size_toArray]; exact (List.getElem?_eq_some_iff.mp hu).1
    refine wpAny_pyNext_enum_itemD (drawsB (A := X.A.in1) j (I.ok.hd hc) it a nai its.toArray) he ⟨hit, p⟩ l1 nei (by simp [nei, nea]) fun y h' tk ey ho hit' hT hsz hk => ?_
    have ew : y = u := by
      have : its[i]? = some y := by simpa using ey
      rw [hu] at this
      exact (Option.some.inj this).symm
    subst ew
    refine ⟨_, rfl, wpAny_letOwnedTupleGo_enum (s := { s with heap := h', toks := tk + 1 }) ho fun h'' he' sb => ?_⟩
    have hT2 : h''.get? s.heap.objs.size = some { cls := .type "tuple", data := .seq #[.int i tk, y] } := (sb.2 _ (Nat.ne_of_gt hel)).trans hT
    have new : ObjOk X.prog X.w (upd H s.heap.objs.size (.tup [.int (i : Nat), x])) h'' s.heap.objs.size (.tup [.int (i : Nat), x]) :=
      ⟨by show 2 ≤ sizeLine; decide, [.int i tk, y], .cons ⟨_, rfl⟩ (.cons ru .nil), ⟨_, hT2, rfl, _, rfl⟩⟩
    have I1 : Inv X pins σ (upd H s.heap.objs.size (.tup [.int (i : Nat), x])) { s with heap := h'', toks := tk + 1 } :=
      I.turnedNew (t' := tk + 1) (ch := [e, it]) (fun b ob hb q => (sb.2 b (fun z => hb (by simp [z]))).trans (hk b ob (fun z => hb (by simp [z])) (fun z => hb (by simp [z])) q)) hf (Nat.le_refl _) new
    refine ⟨.ref s.heap.objs.size, _, I1, rfl, ⟨_, x, rfl, I.hok.fresh (Nat.le_refl _), rfl, fun ys hy => by rw [sqb_inj I hy hq]; exact hx⟩, ⟨⟨y, ?_⟩, hit'.1.at fun o q => (sb.2 it (Ne.symm nei)).trans q⟩, fun b hb => ?_⟩
    · have e1 : ((i + 1 : Nat) : Int) = (i : Int) + 1 := by omega
      rw [e1]
      exact he'
    · have hb' : b < s.heap.objs.size := by
        have e' : b = e ∨ b = it := by simpa using hb
        rcases e' with z | z
        · rw [z]; exact hel
        · rw [z]; exact hil
      rw [upd_ne (Nat.ne_of_lt hb')]
      exact (hf b hb).1
  done := by
    intro X hP hw hK hc i pins s σ H E I hf st hg
    subst hP hw hK
    obtain ⟨⟨old, he⟩, hit⟩ := st
    obtain ⟨xs, hq, hx⟩ := hg
    obtain ⟨its, rv, p, hz⟩ := sqb_at I hq
    obtain ⟨f0, f1, f2, f3, f4, f5⟩ := hf it (by simp)
    have hl : its.toArray.size = i := by rw [List.size_toArray, ← hx]; exact rv.length.symm
    exact wpAny_pyNext_enum_endD (drawsB (A := X.A.in1) j (I.ok.hd hc) it a nai its.toArray) he (by rw [hl]; exact ⟨hit, p⟩) fun h' eb => ⟨rfl, I.turned (t' := s.toks) (fun b o hb q => eb b o hb q) f0 f1 f3 f4 f5⟩
  self := fun A i s Q E st h => let ⟨⟨_, he⟩, _⟩ := st; wpAny_pyIter_enum he h
def iEnumM (K : PySem.W.Frag) (ta : TA) : TI := fun σ H R => ta σ H fun vs H1 => ∃ j a xs, vs = [.ref a] ∧ SqB j K H1 a xs ∧ R (IteM j K a) H1
theorem pi_enumM {X : Cx} {e : Expr} {ta : TA} {p pos tpos : Pos} {elts : List Expr} {kk : Nat} (hg : Gl X "enumerate") (hm : X.mg "enumerate" = none) (ha : PA X [e] ta) (hs : starEach [e] X.env = [(false, eval e X.env)] := by rfl) :
    PI X (.Tuple elts kk tpos) (.Call (.Name "enumerate" p) [e] [] pos) (iEnumM X.K ta) := by
  refine ⟨fun pins s σ H R I h => ?_⟩
  refine Call_ (ld_blt I hg hm boot_enumerate (PyProof.Rows.callWith_type1 (thn (ha.run pos pins s σ H _ I h) fun us s1 ⟨vs, H1, I1, r1, q1⟩ => ?_) hs rfl))
  obtain ⟨j, a, xs, ex, hq, q⟩ := q1
  subst ex
  cases r1 with
  | cons r rr =>
    cases rr
    cases r
    obtain ⟨its, rv, p', hz⟩ := sqb_at I1 hq
    refine enum_begins1 (beginsB j a its.toArray) p' fun h' he hit hsz hk => wpAny_pyIter_enum he ?_
    have I2 : Inv X pins σ H1 { s1 with heap := h' } := I1.kept (t' := s1.toks) hk
    have hib : ItB j h' s1.heap.objs.size a 0 := by
      cases j with
      | true => exact ⟨_, hit, rfl, rfl⟩
      | false => exact ⟨_, hit, rfl, rfl⟩
    refine ⟨s1.heap.objs.size + 1, [s1.heap.objs.size + 1, s1.heap.objs.size], _, _, H1, rfl, I2, turn_enumM (j := j) a (s1.heap.objs.size + 1) s1.heap.objs.size (Nat.ne_of_lt hz) (Nat.ne_of_gt (Nat.lt_succ_of_lt hz)) (Nat.succ_ne_self _), ⟨⟨.none, he⟩, hib⟩, fun b hb => ?_, q⟩
    have e' : b = s1.heap.objs.size + 1 ∨ b = s1.heap.objs.size := by simpa using hb
    have hle : s1.heap.objs.size ≤ b := by
      rcases e' with z | z
      · rw [z]; exact Nat.le_add_right _ _
      · rw [z]; exact Nat.le_refl _
    exact I1.fpOk hle (I1.hok.fresh hle)
theorem k_enumM {X : Cx} {K : PySem.W.Frag} {e : Expr} {ta : TA} {p pos tpos : Pos} {elts : List Expr} {kk : Nat} (h : X.K = K) (hg : Gl X "enumerate") (hm : X.mg "enumerate" = none) (ha : PA X [e] ta) (hs : starEach [e] X.env = [(false, eval e X.env)] := by rfl) :
    PI X (.Tuple elts kk tpos) (.Call (.Name "enumerate" p) [e] [] pos) (iEnumM K ta) := by subst h; exact pi_enumM hg hm ha hs
/-! ### min of a list of whole numbers -/
theorem bb_min : bootBuiltins "min" = some (.builtin "min") := by decide +kernel
end G

namespace G
open PySem PySem.Spec PyProof.Rows L2
/-! ### rules with lists of any kind -/
section
variable {X : Cx} {K : PySem.W.Frag}
/-- xs + ys, any two lists -/
def rCatS (K : PySem.W.Frag) : R2 := fun x y H Q => ∃ l b xs zs, x = .ref l ∧ y = .ref b ∧ SqL K H l xs ∧ SqL K H b zs ∧ xs.length + zs.length ≤ 100000 ∧ ∀ p, H p = none → Q (.ref p) (upd H p (.lst (xs ++ zs)))
theorem op_catS : OpR X (binaryOp .Add) (rCatS X.K) := by
  intro pins s σ H x y v u Q I rx ry h
  obtain ⟨l, b, xs, zs, rfl, rfl, hH, hB, hz, q⟩ := h
  have hz : xs.length + zs.length ≤ sizeLine := Nat.le_trans hz (by decide)
  cases rx
  cases ry
  obtain ⟨its, r1, ⟨⟨oc, od, dt, sl⟩, n1, e1, hc, _, hd⟩, _⟩ := I.list hH
  obtain ⟨its2, r2, ⟨⟨oc2, od2, dt2, sl2⟩, n2, e2, hc2, _, hd2⟩, _⟩ := I.list hB
  dsimp only at hc hd hc2 hd2
  subst hc hd hc2 hd2
  have l1 := r1.length
  have l2 := r2.length
  refine concat_meets ⟨_, e1, rfl⟩ ⟨_, e2, rfl⟩ noFill_list_add seq_list_add PySem.F.slot_list_add PySem.F.entry_list_add (PySem.F.args_list_add_2 _ _) (list_addW l b its.toArray its2.toArray n1 n2 od od2 sl sl2 (by simp; omega)) ⟨e1, e2, ?_⟩
  have ea : its.toArray ++ its2.toArray = (its ++ its2).toArray := by simp
  rw [ea]
  exact ⟨.ref _, _, I.lnew (t' := s.toks) (r1.append r2) (by rw [List.length_append]; omega), rfl, q _ I.fresh⟩
abbrev rAddS (K : PySem.W.Frag) : R2 := fun x y H Q => rAddA K x y H Q ∨ rCatS K x y H Q
theorem k_addS (h : X.K = K) : OpR X (binaryOp .Add) (rAddS K) := by subst h; exact op_or (k_addA rfl) op_catS
abbrev rMulS : R2 := fun x y H Q => rMulU x y H Q ∨ rI CMulW (fun i j => .int (i * j)) x y H Q
theorem k_mulS : OpR X (binaryOp .Mult) rMulS := op_or opMulU op_mulW
/-- x = e, the list a thing of its own -/
def tAsgO (te : TE) (i : Nat) : TS := tAsg te (gName i)
theorem ps_own {st : Stmt} {te : TE} {i : Nat} (h : PS X st (tAsg te (gName i))) : PS X st (tAsgO te i) := h
abbrev rInU (K : PySem.W.Frag) : R2 := fun x y H Q => rIn K false x y H Q ∨ rInD K x y H Q
abbrev rNotInU (K : PySem.W.Frag) : R2 := fun x y H Q => rIn K true x y H Q ∨ rNotInD K x y H Q
end
section
variable {M : Cm} {ρ : Rho} {k : D → Prop} {kb : Bool → Prop} {ka : List D → Prop} {kr nx bk ct : Rho → Prop} {rt : Sl → Rho → Prop} {ta tb te : TE} {t : TT} {ts us : TS} {tr : TA} {i : Nat} {d : D} {l : List D}
theorem ws_setOwn (h : WO M te ρ fun l => nx (ρ.set i (some (.own l)))) : WS M (tAsgO te i) ρ nx rt bk ct := ws_setO h
theorem op_addSI {m n : Int} (q : k (.int (m + n))) : OP M (rAddS M.K) (.int m) (.int n) k := op_or1 (op_or1 (op_addII q))
theorem opo_cat {l m : List D} (hl : l.length + m.length ≤ 100000) (q : ka (l ++ m)) : OPO M (rAddS M.K) (.lst l) (.lst m) ka := fun F H x y Q g rx ry f => by
  obtain ⟨p, vs, rfl, h1, h2⟩ := rx.lst g
  obtain ⟨p', us, rfl, h3, h4⟩ := ry.lst g
  exact .inr ⟨p, p', vs, us, rfl, rfl, h1, h3, by rw [h2.len, h4.len]; exact hl, fun q' np => cro_new g (h2.app h4) np q f⟩
theorem op_cat {l m : List D} (hl : l.length + m.length ≤ 100000) (q : k (.lst (l ++ m))) : OP M (rAddS M.K) (.lst l) (.lst m) k := (opo_cat hl q).op
theorem op_catT {l m : List D} (hl : l.length + m.length ≤ 1000) (q : k (.tup (l ++ m))) : OP M (rAddS M.K) (.tup l) (.tup m) k := fun F H x y Q g rx ry f => by
  obtain ⟨a, vs, rfl, h1, h2⟩ := rx.tup
  obtain ⟨b, us, rfl, h3, h4⟩ := ry.tup
  refine .inl (.inr ⟨a, b, vs, us, rfl, rfl, sqT_mono g.sub h1, sqT_mono g.sub h3, Nat.le_trans (by rw [h2.len, h4.len]; exact hl) (by decide), fun e => ?_, fun _ e => ?_, fun _ _ p np => ?_⟩)
  · subst e
    have : l = [] := by have := h2.len; simpa using this.symm
    subst this
    exact f _ _ F H (XE.refl g) (.tup h3 h4) q
  · subst e
    have : m = [] := by have := h4.len; simpa using this.symm
    subst this
    rw [List.append_nil] at q
    exact f _ _ F H (XE.refl g) (.tup h1 h2) q
  · exact f _ _ _ _ ((XE.refl g).new np) (.tup (.inl (.inl upd_same)) ((h2.app h4).mono (same_upd (sub_none g.sub np)))) q
/-- [..] * n -/
theorem wo_rep (h : WO M ta ρ fun l => WB M tb ρ fun e => ∃ m : Int, e = .int m ∧ -(2 ^ 63) ≤ m ∧ m < 2 ^ 63 ∧ l.length * m.toNat ≤ 100000 ∧ ka (List.replicate m.toNat l).flatten) : WO M (tOp rMulS ta tb) ρ ka := fun σ F H Q e f =>
  h σ F H _ e fun p vs l F1 H1 x1 h1 h2 h3 h4 hb => hb σ F1 H1 _ (e.step x1) fun y d F2 H2 x2 r2 ⟨m, z, b1, b2, b3, q⟩ => by
    subst z
    cases r2.int
    have x02 := x1.trans x2
    have h4' := h4.mono x2.ff
    refine .inl (.inr ⟨p, m, vs, rfl, rfl, Dl_sub _ _ (x2.ext.hh _ _ h1), b1, b2, Nat.le_trans (by rw [h4.len]; exact b3) (by decide), fun q' np => ?_⟩)
    have rep : RL M F2 (List.replicate m.toNat vs).flatten (List.replicate m.toNat l).flatten := by
      induction m.toNat with
      | zero => exact .nil
      | succ n ih =>
        rw [List.replicate_succ, List.replicate_succ, List.flatten_cons, List.flatten_cons]
        exact h4'.app ih
    exact cro_new (ka := ka) x02.gd rep np q fun p vs l F4 H4 x4 a b c => f p vs l F4 H4 (x02.trans x4) a b (x02.ext.hh.free c)
theorem rep_one (n : Nat) (d : D) : (List.replicate n [d]).flatten = List.replicate n d := by
  induction n with
  | zero => rfl
  | succ n ih => rw [List.replicate_succ, List.flatten_cons, ih, List.replicate_succ]; rfl
/-- isinstance(x, a built-in class) -/
def D.ty : D → Option String
  | .non => some "NoneType"
  | .bl _ => some "bool"
  | .int _ => some "int"
  | .str _ => some "str"
  | .lst _ => some "list"
  | .tup _ => some "tuple"
  | .stn _ => some "tuple"
  | .ixt _ => some "tuple"
  | .dic _ _ => some "dict"
  | .dit _ _ => some "dict"
  | _ => none
theorem rb_ty {F H : Hp} {v : V} {d : D} {T : String} (g : Gd M.K M.st F H) (h : RB M F H v d) (e : d.ty = some T) : TyX M.K H v (.type T) := by
  have key := h.rv g
  cases key with
  | non => cases e; exact .base .non
  | bl b => cases e; exact .base (.bl b)
  | int b => cases e; exact .base (.int b)
  | str b => cases e; exact .base (.str b)
  | lst a b => cases e; exact ty_lst (sqL_mono Dl_sub a)
  | tup a b => cases e; exact ty_tup (sqT_mono Dl_sub a)
  | stn a => cases e; exact ty_tup (.inl (.inl (Dl_sub _ _ a)))
  | ixt a _ => cases e; exact ty_tup (.inl (.inr ⟨_, Dl_sub _ _ a⟩))
  | bench a => cases e
  | dic a b c => cases e; exact .base (.dK (Dl_sub _ _ a))
  | dit a b c => cases e; exact .base (.dT (Dl_sub _ _ a))
  | st a => cases e
  | exc0 => cases e
  | exc _ _ _ => cases e
  | lsx _ => cases e
theorem we_isi {U : String} (h : WB M te ρ fun d => ∃ T b, d.ty = some T ∧ kitB T U = some b ∧ k (.bl b)) : WE M (tCB (rIsi M.K) (tCons te (tCons (tC (.ty U)) tNil))) ρ k := fun σ F H Q e f =>
  h σ F H _ e fun v d F1 H1 x1 r1 ⟨T, b, e1, e2, q⟩ => s_isi (.ty U) (rb_ty x1.gd r1 e1) (kit_ty e2) (f _ _ F1 H1 x1 (.bl b) q)
theorem kb_dt : kitB "dict" "tuple" = some false := by decide +kernel
theorem kb_di : kitB "dict" "int" = some false := by decide +kernel
theorem cr_lenQ {d : D} {j : Bool} (e : isSq d = some (j, l)) (q : k (.int l.length)) : CR M (rLen M.K) [d] k := by
  cases d with
  | lst l => cases e; exact cr_lenL q
  | tup l => cases e; exact cr_lenT q
  | stn ns => cases e; rw [List.length_map] at q; exact cr_lenS q
  | ixt ns => cases e; rw [List.length_map] at q; exact cr_lenX q
  | _ => cases e
/-! sorted, of ints -/
theorem cro_sortT {ns : List Int} (hl : ns.length < 64) (q : ∀ ms : List Int, ms.Perm ns → ms.Pairwise (· ≤ ·) → ka (ms.map D.int)) : CRO M (rSortedU M.K) [.tup (ns.map D.int)] ka := fun F H vs Q g rr f => by
  obtain ⟨v, rfl, r⟩ := rbs1 rr
  obtain ⟨p, us, rfl, h1, h2⟩ := r.tup
  rw [h2.ints] at h1
  exact .inr ⟨p, ns, rfl, sqT_mono g.sub h1, hl, fun ms p' h2 h3 np => cro_new g (RA.ofInts ms) np (q ms h2 h3) f⟩
/-! list(range(..)) -/
theorem wo_lstRg {tb : TE} (h : WB M tb ρ fun d => ∃ n : Int, d = .int n ∧ -1000000 ≤ n ∧ n ≤ 1000000 ∧ ka (rngD n.toNat)) : WO M (tLstRg (tRg1 tb)) ρ ka := fun σ F H Q e f =>
  h σ F H _ e fun v d F1 H1 x1 r1 ⟨n, z, b1, b2, q⟩ => by
    subst z
    cases r1.int
    refine ⟨n, rfl, ⟨by decide, by decide, by omega, by omega, by omega⟩, fun p np => ?_⟩
    have rl : RL M F1 (rgV 0 n) (rngD n.toNat) := by
      unfold rgV rngD
      simp only [Int.sub_zero, Int.zero_add]
      refine RA.of (by simp) fun i v d h1 h2 => ?_
      rw [List.getElem?_map] at h1 h2
      cases hr : (List.range n.toNat)[i]? with
      | none => rw [hr] at h1; cases h1
      | some j =>
        rw [hr] at h1 h2
        cases h1
        cases h2
        exact .int _
    exact cro_new (ka := ka) x1.gd rl np q fun p vs l F4 H4 x4 a b c => f p vs l F4 H4 (x1.trans x4) a b (x1.ext.hh.free c)
/-! ### compared at any depth: things of one's own within tuples and lists -/
def WD (M : Cm) (t : TE) (ρ : Rho) (k : D → Prop) : Prop := ∀ σ F H Q, Fr M ρ σ F H → (∀ v d F' H', XM M F H F' H' → RV M (Dl M.st H') v d → k d → Q v H') → t σ H Q
def WAD (M : Cm) (t : TA) (ρ : Rho) (k : List D → Prop) : Prop := ∀ σ F H Q, Fr M ρ σ F H → (∀ vs ds F' H', XM M F H F' H' → RL M (Dl M.st H') vs ds → k ds → Q vs H') → t σ H Q
theorem wad_nil (q : ka []) : WAD M tNil ρ ka := fun σ F H Q e f => f [] [] F H (XE.refl e.gd) .nil q
theorem wad_cons (h : WD M ta ρ fun d => WAD M tr ρ fun ds => ka (d :: ds)) : WAD M (tCons ta tr) ρ ka := fun σ F H Q e f =>
  h σ F H _ e fun x d F1 H1 x1 r1 h1 => h1 σ F1 H1 _ (e.step x1) fun vs ds F2 H2 x2 r2 => f _ _ F2 H2 (x1.trans x2) (.cons (r1.mono x2.ext.hh) r2)
theorem wd_tup (h : WAD M tr ρ fun ds => ds.length ≤ 1000 ∧ k (.tup ds)) : WD M (tTup tr) ρ k := fun σ F H Q e f =>
  h σ F H _ e fun vs ds F1 H1 x1 r1 ⟨h1, h2⟩ => ⟨Nat.le_trans (by rw [r1.len]; exact h1) (by decide), fun p np => f _ _ F1 _ (x1.mut np) (by
    rw [Dl_upd (o := .tup vs) (x1.ok.ne np) rfl]
    exact .tup (.inl (.inl upd_same)) (r1.mono (same_upd (Dl_none np)))) h2⟩
theorem wd_lst (h : WAD M tr ρ fun ds => ds.length ≤ 1000 ∧ k (.lst ds)) : WD M (tLst tr) ρ k := fun σ F H Q e f =>
  h σ F H _ e fun vs ds F1 H1 x1 r1 ⟨h1, h2⟩ => ⟨Nat.le_trans (by rw [r1.len]; exact h1) (by decide), fun p np => f _ _ F1 _ (x1.mut np) (by
    rw [Dl_upd (o := .lst vs) (x1.ok.ne np) rfl]
    exact .lst (.inl (.inl upd_same)) (r1.mono (same_upd (Dl_none np)))) h2⟩
/-! in -/
/-! a, b = x, y -/
theorem ws_par {j : Nat} (h : WA M tr ρ fun ds => ∃ d e, ds = [d, e] ∧ nx ((ρ.set i (some (.d d))).set j (some (.d e)))) : WS M (tPar i j tr) ρ nx rt bk ct := fun σ F H E e f1 f2 f3 f4 => h σ F H _ e fun vs ds F1 H1 x1 r1 ⟨a, b, z, q⟩ => by
  subst z
  cases r1 with
  | cons r1 r2 =>
    cases r2 with
    | cons r2 r3 =>
      cases r3
      exact ⟨_, _, rfl, f1 _ _ F1 H1 x1.ff (((e.step x1).put r1).put r2) q⟩
theorem walk_enumB {K : PySem.W.Frag} {j : Bool} {a : Addr} {xs : List V} : Walk (IteM j K a) xs.length (fun H => SqB j K H a xs) (YPair (fun i => some (.int (i : Nat))) (fun i => xs[i]?)) := by
  refine ⟨fun i _ hi q => ⟨xs, xs[i], q, by simp [hi]⟩, fun _ q => ⟨xs, q, rfl⟩, fun i H v H' _ q y => ?_⟩
  obtain ⟨T, x, h1, h2, h3, h4⟩ := y
  exact ⟨T, .int (i : Nat), x, h1, h2, h3, rfl, h4 xs q⟩
/-- enumerate of a tuple or a list -/
theorem wi_enumM (h : WA M tr ρ fun ds => ∃ a j l, ds = [a] ∧ isSq a = some (j, l) ∧ ka (enumD l)) : WI M (iEnumM M.K tr) ρ ka := fun σ F H Q e f => h σ F H _ e fun vs ds F1 H1 x1 r1 ⟨da, j, l, z, sa, q⟩ => by
  subst z
  cases r1 with
  | cons ra rb =>
    cases rb
    obtain ⟨a, xs, rfl, a1, a2⟩ := RV.sqb ra sa
    refine ⟨j, a, xs, rfl, sqB_mono x1.gd.sub a1, f _ (enumD l) F1 H1 x1 ⟨fun H => SqB j M.K H a xs, _, by rw [show (enumD l).length = xs.length by simp [enumD, a2.len]]; exact walk_enumB, fun F' H' s g => sqB_mono (s.trans g.sub) a1, fun i x Fa Ha Hb d s g y hd => ?_⟩ q⟩
    unfold enumD at hd
    rw [List.getElem?_mapIdx] at hd
    cases hl : l[i]? with
    | none => rw [hl] at hd; cases hd
    | some c =>
      rw [hl] at hd
      cases hd
      refine yp (F := F1) g y (fun v hv => ?_) fun v hv => ?_
      · cases hv
        exact .int _
      · obtain ⟨d2, e1, e2⟩ := a2.at hv
        rw [hl] at e1
        cases e1
        exact e2.mono s
theorem start_eqR {ts : TS} {ρ ρ' : Rho} (e : ρ = ρ') (h : WS M ts ρ' nx rt bk ct) : WS M ts ρ nx rt bk ct := by rw [e]; exact h
end
theorem s_nnT {d : D} {A B : Prop} (e : d.isN = true) (h : A) : if d.isN = true then A else B := by rw [e]; exact iteT h
theorem s_nnF {d : D} {A B : Prop} (e : d.isN = false) (h : B) : if d.isN = true then A else B := by rw [e]; exact iteF h
theorem s_mnT {d : D} {A B : Prop} (e : d.isN = false) (h : A) : if (!d.isN) = true then A else B := by rw [e]; exact iteT h
theorem s_mnF {d : D} {A B : Prop} (e : d.isN = true) (h : B) : if (!d.isN) = true then A else B := by rw [e]; exact iteF h
theorem len_ok {l : List D} {A : Prop} (h : Nat.ble l.length 1000 = true) (a : A) : l.length ≤ 1000 ∧ A := ⟨Nat.le_of_ble_eq_true h, a⟩
end G

namespace G
open PySem PySem.Spec PyProof.Rows L2
section
variable {M : Cm} {ρ : Rho} {ka : List D → Prop} {te : TE}
/-! d[k] -/
def DGt (M : Cm) (x y : D) (k : D → Prop) : Prop := (∃ ks l s d, x = .dic ks l ∧ y = .str s ∧ valD ks l (Sum.inr s : Key) = some d ∧ k d) ∨ (∃ ks l m d, x = .dic ks l ∧ y = .int m ∧ valD ks l (Sum.inl m : Key) = some d ∧ k d) ∨ (∃ ks l ns d, x = .dit ks l ∧ y = .stn ns ∧ valD ks l (ns.map (Sum.inl : Int → Key)) = some d ∧ k d)
theorem we_dget {ta tb : TE} {k : D → Prop} (h : WB M ta ρ fun x => WB M tb ρ fun y => DGt M x y k) : WE M (tDGet ta tb) ρ k := fun σ F H Q e f =>
  h σ F H _ e fun x d F1 H1 x1 r1 h1 => h1 σ F1 H1 _ (e.step x1) fun y d2 F2 H2 x2 r2 h2 => by
    rcases h2 with ⟨ks, l, s, d, rfl, rfl, hv, q⟩ | ⟨ks, l, s, d, rfl, rfl, hv, q⟩ | ⟨ks, l, ns, d, rfl, rfl, hv, q⟩
    · cases r2.str
      obtain ⟨p, vs, rfl, h3, h4, h5⟩ := (r1.step x2).dic x2.gd
      obtain ⟨v, h6, h7⟩ := valD_RA h5 hv
      exact ⟨p, v, rfl, h6 ▸ DGet.k (k := Sum.inr s) h3, f _ _ F2 H2 (x1.trans x2) h7 q⟩
    · cases r2.int
      obtain ⟨p, vs, rfl, h3, h4, h5⟩ := (r1.step x2).dic x2.gd
      obtain ⟨v, h6, h7⟩ := valD_RA h5 hv
      exact ⟨p, v, rfl, h6 ▸ DGet.k (k := Sum.inl s) h3, f _ _ F2 H2 (x1.trans x2) h7 q⟩
    · obtain ⟨b, rfl, hb⟩ := r2.stn
      obtain ⟨p, vs, rfl, h3, h4, h5⟩ := (r1.step x2).dit x2.gd
      obtain ⟨v, h6, h7⟩ := valD_RA h5 hv
      exact ⟨p, v, rfl, h6 ▸ DGet.t (k := ns.map Sum.inl) h3 (by rw [List.map_map]; exact x2.gd.sub _ _ hb), f _ _ F2 H2 (x1.trans x2) h7 q⟩
theorem dg_S {ks : List Key} {l : List D} {s : Str} {d : D} {k : D → Prop} (h : valD ks l (Sum.inr s : Key) = some d) (q : k d) : DGt M (.dic ks l) (.str s) k := .inl ⟨ks, l, s, d, rfl, rfl, h, q⟩
theorem dg_hard {B : BD} {k : D → Prop} (q : k (.lst (B.hard.map D.int))) : DGt M (modelD B) (.str "hard") k := dg_S rfl q
theorem dg_places {B : BD} {k : D → Prop} (q : k (.int B.places)) : DGt M (modelD B) (.str "places") k := dg_S rfl q
theorem dg_told {B : BD} {k : D → Prop} (q : k (toldX B)) : DGt M (modelD B) (.str "told") k := dg_S rfl q
theorem dg_heavy {B : BD} {k : D → Prop} (q : k (.lst (B.heavy.map D.int))) : DGt M (modelD B) (.str "heavy") k := dg_S rfl q
theorem dg_meets {B : BD} {k : D → Prop} (q : k (meetsD B)) : DGt M (modelD B) (.str "meets") k := dg_S rfl q
theorem snd_cons (p : Str × Nat) (l : List (Str × Nat)) : List.map (fun x : Str × Nat => x.2) (p :: l) = p.2 :: List.map (fun x => x.2) l := rfl
theorem snd_nil : List.map (fun x : Str × Nat => x.2) [] = [] := rfl
end
end G

namespace G
open PySem PySem.Spec PyProof.Rows L2
/-! ## dicts by data -/
section
variable {κ : Type} [DecidableEq κ]
def hasK (ks : List κ) (x : κ) : Bool := decide (x ∈ ks)
def putKs (ks : List κ) (x : κ) : List κ := if x ∈ ks then ks else ks ++ [x]
def putDs {α : Type} (ks : List κ) (l : List α) (x : κ) (d : α) : List α := if x ∈ ks then List.zipWith (fun q y => if q = x then d else y) ks l else l ++ [d]
theorem any_key (x : κ) : ∀ (ks : List κ) (vs : List V), ks.length = vs.length → ((ks.zip vs).any fun kv => decide (kv.1 = x)) = decide (x ∈ ks)
  | [], [], _ => rfl
  | [], _ :: _, h => by simp at h
  | _ :: _, [], h => by simp at h
  | q :: ks, v :: vs, h => by
    rw [List.zip_cons_cons, List.any_cons, any_key x ks vs (by simpa using h)]
    by_cases z : q = x
    · subst z; simp
    · simp [z, Ne.symm z]
theorem putK_zip (ks : List κ) (vs : List V) (x : κ) (v : V) (h : ks.length = vs.length) : putK (ks.zip vs) x v = (putKs ks x).zip (putDs ks vs x v) := by
  unfold putK putKs putDs
  rw [any_key x ks vs h]
  by_cases m : x ∈ ks
  · rw [decide_eq_true m, if_pos rfl, if_pos m, if_pos m]
    clear m
    induction ks generalizing vs with
    | nil => rfl
    | cons q ks ih =>
      cases vs with
      | nil => simp at h
      | cons y vs =>
        rw [List.zip_cons_cons, List.map_cons, List.zipWith_cons_cons, List.zip_cons_cons, ih vs (by simpa using h)]
        by_cases z : q = x
        · simp [z]
        · simp [z]
  · rw [decide_eq_false m, if_neg (by decide), if_neg m, if_neg m, List.zip_append h]
    rfl
theorem putKs_len {α : Type} (ks : List κ) (l : List α) (x : κ) (d : α) (h : ks.length = l.length) : (putKs ks x).length = (putDs ks l x d).length := by
  unfold putKs putDs
  by_cases m : x ∈ ks
  · rw [if_pos m, if_pos m]
    simp
    omega
  · rw [if_neg m, if_neg m]
    simp [h]
theorem valV_zip_isSome (x : κ) (ks : List κ) (vs : List V) (h : ks.length = vs.length) : (valV (ks.zip vs) x).isSome = hasK ks x := by
  rw [← valV_any, any_key x ks vs h]
  rfl
end
section
variable {M : Cm}
theorem RL.put {κ : Type} [DecidableEq κ] {F : Hp} {x : κ} {v : V} {d : D} (r : RV M F v d) : ∀ {ks : List κ} {vs : List V} {l : List D}, RL M F vs l → RL M F (putDs ks vs x v) (putDs ks l x d) := fun {ks vs l} h => by
  unfold putDs
  by_cases m : x ∈ ks
  · rw [if_pos m, if_pos m]
    clear m
    induction ks generalizing vs l with
    | nil => cases h <;> exact .nil
    | cons q ks ih =>
      cases h with
      | nil => exact .nil
      | cons a b =>
        rw [List.zipWith_cons_cons, List.zipWith_cons_cons]
        refine .cons ?_ (ih b)
        by_cases z : q = x
        · rw [if_pos z, if_pos z]; exact r
        · rw [if_neg z, if_neg z]; exact a
  · rw [if_neg m, if_neg m]
    exact h.app (.cons r .nil)
end
section
variable {M : Cm} {ρ : Rho} {k : D → Prop} {nx bk ct : Rho → Prop} {rt : Sl → Rho → Prop} {ta tb te ty td tv : TE} {tr : TA} {i : Nat} {d : D} {l : List D}
/-- new dicts of one's own -/
def WOK (M : Cm) (t : TE) (ρ : Rho) (k : List Key → List D → Prop) : Prop := ∀ σ F H Q, Fr M ρ σ F H → (∀ p ks vs l F' H', XM M F H F' H' → Dl M.st H' p = some (.dK (ks.zip vs)) → ks.length = vs.length → F' p = none → Dl M.st H p = none → RL M F' vs l → k ks l → Q (.ref p) H') → t σ H Q
def WOT (M : Cm) (t : TE) (ρ : Rho) (k : List (List Key) → List D → Prop) : Prop := ∀ σ F H Q, Fr M ρ σ F H → (∀ p ks vs l F' H', XM M F H F' H' → Dl M.st H' p = some (.dT (ks.zip vs)) → ks.length = vs.length → F' p = none → Dl M.st H p = none → RL M F' vs l → k ks l → Q (.ref p) H') → t σ H Q
theorem WOK.we (h : WOK M te ρ fun ks l => k (.dic ks l)) : WE M te ρ k := fun σ F H Q e q => h σ F H Q e fun p ks vs l F' H' x h1 h5 h2 h3 h4 => q _ _ (upd F' p (.dK (ks.zip vs))) H' (x.frz h3 h2 h1) (.dic upd_same h5 (h4.mono (same_upd h2)))
theorem WOT.we (h : WOT M te ρ fun ks l => k (.dit ks l)) : WE M te ρ k := fun σ F H Q e q => h σ F H Q e fun p ks vs l F' H' x h1 h5 h2 h3 h4 => q _ _ (upd F' p (.dT (ks.zip vs))) H' (x.frz h3 h2 h1) (.dit upd_same h5 (h4.mono (same_upd h2)))
theorem ws_setOwnK (h : WOK M te ρ fun ks l => nx (ρ.set i (some (.ownK ks l)))) : WS M (tAsgO te i) ρ nx rt bk ct := fun σ F H E e f1 f2 f3 f4 => h σ F H _ e fun p ks vs l F1 H1 x1 h1 h5 h2 h3 h4 q => by
  have e1 := e.step x1
  refine f1 _ _ F1 H1 x1.ff (e1.putO (i := i) (v := .ref p) (s0 := .ownK ks l) ⟨p, vs, rfl, h1, h5, h2, e.x.ext.hh.free h3, h4⟩ fun j s hj hs m z => ?_) q
  obtain ⟨v, q1, q2⟩ := e.each j s hs
  obtain ⟨p', o, rfl, h5, _⟩ := q2.mine_at m
  rw [z] at q1
  cases q1
  rw [h3] at h5
  cases h5
theorem ws_setOwnT (h : WOT M te ρ fun ks l => nx (ρ.set i (some (.ownT ks l)))) : WS M (tAsgO te i) ρ nx rt bk ct := fun σ F H E e f1 f2 f3 f4 => h σ F H _ e fun p ks vs l F1 H1 x1 h1 h5 h2 h3 h4 q => by
  have e1 := e.step x1
  refine f1 _ _ F1 H1 x1.ff (e1.putO (i := i) (v := .ref p) (s0 := .ownT ks l) ⟨p, vs, rfl, h1, h5, h2, e.x.ext.hh.free h3, h4⟩ fun j s hj hs m z => ?_) q
  obtain ⟨v, q1, q2⟩ := e.each j s hs
  obtain ⟨p', o, rfl, h5, _⟩ := q2.mine_at m
  rw [z] at q1
  cases q1
  rw [h3] at h5
  cases h5
theorem wok_new {kk : List Key → List D → Prop} (h : kk [] []) : WOK M tDNewK ρ kk := fun σ F H Q e f p np =>
  f p [] [] [] F _ ((XE.refl e.gd).mut np) (Dl_at (e.gd.ok.ne np)) rfl (sub_none e.gd.sub np) (Dl_none np) .nil h
theorem wot_new {kk : List (List Key) → List D → Prop} (h : kk [] []) : WOT M tDNewT ρ kk := fun σ F H Q e f p np =>
  f p [] [] [] F _ ((XE.refl e.gd).mut np) (Dl_at (e.gd.ok.ne np)) rfl (sub_none e.gd.sub np) (Dl_none np) .nil h
/-- a key -/
def keyD : Key → D
  | .inl m => .int m
  | .inr s => .str s
theorem RB.key {F H : Hp} {v : V} {x : Key} (h : RB M F H v (keyD x)) : v = kV x := by
  cases x with
  | inl m => exact h.int
  | inr s => exact h.str
/-- {e: f} -/
theorem wok_disp1 {tk : TE} {kk : List Key → List D → Prop} (h : WE M tk ρ fun y => ∃ x, y = keyD x ∧ WE M tv ρ fun d => kk [x] [d]) : WOK M (tDisp [(tk, tv)]) ρ kk := fun σ F H Q e f p np => by
  have g := e.gd
  have x0 : XM M F H F (upd H p (.dK [])) := (XE.refl g).mut np
  have hp0 : Dl M.st (upd H p (.dK [])) p = some (.dK []) := Dl_at (g.ok.ne np)
  refine h σ F _ _ (e.step x0) fun y dy F1 H1 x1 r1 ⟨x, z, h1⟩ => h1 σ F1 H1 _ (e.step (x0.trans x1)) fun v d F2 H2 x2 r2 q => ?_
  subst z
  have x12 := x1.trans x2
  have hp2 := x12.ext.hh _ _ hp0
  have fp2 := x12.ext.fr p _ hp0 rfl (sub_none g.sub np)
  have ey : y = kV x := (show RB M F1 H1 y (keyD x) from .inl r1).key
  refine ⟨Dl_sub _ _ hp2, [(x, v)], by rw [ey]; rfl, by show 1 ≤ 15; decide, ?_⟩
  refine f p [x] [v] [d] F2 _ ((x0.trans x12).chg hp2 (Dl_none np) fp2) ?_ rfl fp2 (Dl_none np) (.cons r2 .nil) q
  rw [Dl_pt (Dl_ne hp2)]
  simp [mergeK, putK, noO]
/-- y in d -/
def DIn (M : Cm) (y x : D) (k : Bool → Prop) : Prop := (∃ c ks l, y = keyD c ∧ x = .dic ks l ∧ k (hasK ks c)) ∨ (∃ ns ks l, y = .stn ns ∧ x = .dit ks l ∧ k (hasK ks (ns.map (Sum.inl : Int → Key))))
theorem din_get {F H : Hp} {v u : V} {y x : D} {k : Bool → Prop} (g : Gd M.K M.st F H) (rv : RB M F H v y) (ru : RB M F H u x) (h : DIn M y x k) : ∃ a o, u = .ref a ∧ DGet H a v o ∧ k o.isSome := by
  rcases h with ⟨c, ks, l, rfl, rfl, q⟩ | ⟨ns, ks, l, rfl, rfl, q⟩
  · cases rv.key
    obtain ⟨p, vs, rfl, h3, h4, h5⟩ := ru.dic g
    refine ⟨p, _, rfl, DGet.k (k := c) h3, ?_⟩
    rw [valV_zip_isSome c ks vs h4]
    exact q
  · obtain ⟨b, rfl, hb⟩ := rv.stn
    obtain ⟨p, vs, rfl, h3, h4, h5⟩ := ru.dit g
    refine ⟨p, _, rfl, DGet.t (k := ns.map Sum.inl) h3 (by rw [List.map_map]; exact g.sub _ _ hb), ?_⟩
    rw [valV_zip_isSome _ ks vs h4]
    exact q
theorem we_din (h : WB M ty ρ fun y => WB M td ρ fun x => DIn M y x fun b => k (.bl b)) : WE M (tDIn ty td) ρ k := fun σ F H Q e f =>
  h σ F H _ e fun v y F1 H1 x1 r1 h1 => h1 σ F1 H1 _ (e.step x1) fun u x F2 H2 x2 r2 h2 => by
    obtain ⟨a, o, e1, e2, q⟩ := din_get x2.gd (r1.step x2) r2 h2
    exact ⟨a, o, e1, e2, f _ _ F2 H2 (x1.trans x2) (.bl _) q⟩
theorem we_dnotin (h : WB M ty ρ fun y => WB M td ρ fun x => DIn M y x fun b => k (.bl (!b))) : WE M (tDNotIn ty td) ρ k := fun σ F H Q e f =>
  h σ F H _ e fun v y F1 H1 x1 r1 h1 => h1 σ F1 H1 _ (e.step x1) fun u x F2 H2 x2 r2 h2 => by
    obtain ⟨a, o, e1, e2, q⟩ := din_get x2.gd (r1.step x2) r2 h2
    exact ⟨a, o, e1, e2, f _ _ F2 H2 (x1.trans x2) (.bl _) q⟩
theorem din_I {m : Int} {ks : List Key} {kb : Bool → Prop} (q : kb (hasK ks (Sum.inl m : Key))) : DIn M (.int m) (.dic ks l) kb := .inl ⟨.inl m, ks, l, rfl, rfl, q⟩
theorem din_S {m : Str} {ks : List Key} {kb : Bool → Prop} (q : kb (hasK ks (Sum.inr m : Key))) : DIn M (.str m) (.dic ks l) kb := .inl ⟨.inr m, ks, l, rfl, rfl, q⟩
theorem din_T {ns : List Int} {ks : List (List Key)} {kb : Bool → Prop} (q : kb (hasK ks (ns.map (Sum.inl : Int → Key)))) : DIn M (.stn ns) (.dit ks l) kb := .inr ⟨ns, ks, l, rfl, rfl, q⟩
/-- d[y] = v, d one's own -/
theorem ws_dput {ks : List Key} (hx : ρ[i]? = some (some (.ownK ks l))) (h : WE M tv ρ fun d => WE M ty ρ fun y => ∃ c, y = keyD c ∧ ks.length < 100000 ∧ nx (ρ.set i (some (.ownK (putKs ks c) (putDs ks l c d))))) : WS M (sDPut (tVar i) ty tv) ρ nx rt bk ct := fun σ F H E e f1 f2 f3 f4 => by
  refine h σ F H _ e fun v d F1 H1 x1 r1 h1 => ?_
  have e1 := e.step x1
  obtain ⟨v', h2, p, vs, rfl, h3, h9, h4, h5, h6⟩ := e1.each i _ hx
  refine ⟨_, h2, h1 σ F1 H1 _ e1 fun w d2 F2 H2 x2 r2 ⟨c, z, hl, q⟩ => ?_⟩
  subst z
  have ew : w = kV c := (show RB M F2 H2 w (keyD c) from .inl r2).key
  subst ew
  have e2 := e1.step x2
  have h3' := x2.ext.hh _ _ h3
  have h4' := x2.ext.fr p _ h3 rfl h4
  have h6' := RA.mono x2.ff h6
  refine ⟨p, _, rfl, DPut.k (k := c) (Dl_sub _ _ h3') (Nat.lt_of_lt_of_le (show (ks.zip vs).length < 100000 by rw [List.length_zip]; omega) (by decide)), ?_⟩
  rw [putK_zip ks vs c v h9]
  exact f1 _ σ F2 _ (x1.trans x2).ff (e2.chg hx rfl h2 h3' h4' h5 (s1 := .ownK (putKs ks c) (putDs ks l c d)) ⟨p, _, rfl, Dl_at (Dl_ne h3'), putKs_len _ _ _ _ h9, h4', h5, RL.put (r1.mono x2.ff) h6'⟩) q
theorem ws_dputT {ks : List (List Key)} (hx : ρ[i]? = some (some (.ownT ks l))) (h : WE M tv ρ fun d => WE M ty ρ fun y => ∃ ns : List Int, y = .stn ns ∧ ks.length < 100000 ∧ nx (ρ.set i (some (.ownT (putKs ks (ns.map (Sum.inl : Int → Key))) (putDs ks l (ns.map (Sum.inl : Int → Key)) d))))) : WS M (sDPut (tVar i) ty tv) ρ nx rt bk ct := fun σ F H E e f1 f2 f3 f4 => by
  refine h σ F H _ e fun v d F1 H1 x1 r1 h1 => ?_
  have e1 := e.step x1
  obtain ⟨v', h2, p, vs, rfl, h3, h9, h4, h5, h6⟩ := e1.each i _ hx
  refine ⟨_, h2, h1 σ F1 H1 _ e1 fun w d2 F2 H2 x2 r2 ⟨ns, z, hl, q⟩ => ?_⟩
  subst z
  obtain ⟨b, rfl, hb⟩ := (show RB M F2 H2 w (.stn ns) from .inl r2).stn
  have e2 := e1.step x2
  have h3' := x2.ext.hh _ _ h3
  have h4' := x2.ext.fr p _ h3 rfl h4
  have h6' := RA.mono x2.ff h6
  refine ⟨p, _, rfl, DPut.t (k := ns.map Sum.inl) (Dl_sub _ _ h3') (by rw [List.map_map]; exact x2.gd.sub _ _ hb) (Nat.lt_of_lt_of_le (show (ks.zip vs).length < 100000 by rw [List.length_zip]; omega) (by decide)), ?_⟩
  rw [putK_zip ks vs _ v h9]
  exact f1 _ σ F2 _ (x1.trans x2).ff (e2.chg hx rfl h2 h3' h4' h5 (s1 := .ownT _ _) ⟨p, _, rfl, Dl_at (Dl_ne h3'), putKs_len _ _ _ _ h9, h4', h5, RL.put (r1.mono x2.ff) h6'⟩) q
end
end G

namespace G
open PySem PySem.Spec PyProof.Rows L2
section
variable {X : Cx} {K : PySem.W.Frag}
/-- d.update(e) -/
def rUpd : V → List V → Hp → VK → Prop := fun x vs H Q => ∃ a b kvs more, x = .ref a ∧ vs = [.ref b] ∧ a ≠ b ∧ H a = some (.dK kvs) ∧ H b = some (.dK more) ∧ kvs.length + more.length ≤ 100000 ∧ Q .non (upd H a (.dK (mergeK kvs more)))
def rSortedDI : List V → Hp → VK → Prop := fun xs H Q => ∃ (a : Addr) (kvs : List (Key × V)) (ks : List Int), xs = [.ref a] ∧ Rd H a (.dK kvs) ∧ kvs.map (·.1) = ks.map Sum.inl ∧ ks.length < 64 ∧
    ∀ (ys : List Int) (p : Addr), ys.Perm ks → ys.Pairwise (· ≤ ·) → H p = none → Q (.ref p) (upd H p (.lst (ys.map V.int)))
abbrev rSortedV (K : PySem.W.Frag) : List V → Hp → VK → Prop := fun vs H Q => rSortedU K vs H Q ∨ rSortedDI vs H Q
theorem k_sortedV (h : X.K = K) (hc : X.calm = true) : CallR X (.builtin "sorted") (rSortedV K) := cr_or (k_sorted h) (call_sortedDI hc)
def rListT : List V → Hp → VK → Prop := fun xs H Q => ∃ d kvs, xs = [V.ref d] ∧ Rd H d (.dT kvs) ∧ ∀ p bs, H p = none → IsKeys H kvs bs → Q (.ref p) (upd H p (.lst (bs.map V.ref)))
abbrev rListV (K : PySem.W.Frag) : List V → Hp → VK → Prop := fun vs H Q => rListOf K vs H Q ∨ rListD vs H Q ∨ rListT vs H Q
def rLenD : List V → Hp → VK → Prop := fun xs H Q => ∃ a kvs, xs = [V.ref a] ∧ Rd H a (.dK kvs) ∧ Q (.int kvs.length) H
abbrev rLenV (K : PySem.W.Frag) : List V → Hp → VK → Prop := fun vs H Q => rLen K vs H Q ∨ rLenD vs H Q ∨ rLenT vs H Q
end
section
variable {M : Cm} {ρ : Rho} {k : D → Prop} {ka : List D → Prop} {nx bk ct : Rho → Prop} {rt : Sl → Rho → Prop} {ta tb te ty td tv tk : TE} {tr : TA} {i : Nat} {d : D} {l : List D}
theorem zip_fst {κ : Type} : ∀ (ks : List κ) (vs : List V), ks.length = vs.length → (ks.zip vs).map (·.1) = ks
  | [], [], _ => rfl
  | [], _ :: _, h => by simp at h
  | _ :: _, [], h => by simp at h
  | q :: ks, v :: vs, h => by rw [List.zip_cons_cons, List.map_cons, zip_fst ks vs (by simpa using h)]
theorem cro_orL {r s : List V → Hp → VK → Prop} {ds : List D} (h : CRO M r ds ka) : CRO M (fun vs H Q => r vs H Q ∨ s vs H Q) ds ka := fun F H vs Q g rr f => .inl (h F H vs Q g rr f)
theorem cr_lenDK {ks : List Key} (q : k (.int ks.length)) : CR M (rLenV M.K) [.dic ks l] k := fun F H vs Q g rr f => by
  obtain ⟨v, rfl, r⟩ := rbs1 rr
  obtain ⟨p, us, rfl, h1, h2, h3⟩ := r.dic g
  refine .inr (.inl ⟨p, _, rfl, .inl h1, ?_⟩)
  rw [List.length_zip, ← h2, Nat.min_self]
  exact f _ _ F H (XE.refl g) (.int _) q
theorem cr_lenDT {ks : List (List Key)} (q : k (.int ks.length)) : CR M (rLenV M.K) [.dit ks l] k := fun F H vs Q g rr f => by
  obtain ⟨v, rfl, r⟩ := rbs1 rr
  obtain ⟨p, us, rfl, h1, h2, h3⟩ := r.dit g
  refine .inr (.inr ⟨p, _, rfl, h1, ?_⟩)
  rw [List.length_zip, ← h2, Nat.min_self]
  exact f _ _ F H (XE.refl g) (.int _) q
/-! d.update(e) -/
def mergeKD : List Key → List D → List Key → List D → List Key × List D
  | ks, l, c :: cs, d :: ds => mergeKD (putKs ks c) (putDs ks l c d) cs ds
  | ks, l, _, _ => (ks, l)
theorem merge_RL {F : Hp} : ∀ {cs : List Key} {us : List V} {ds : List D} {ks : List Key} {vs : List V} {l : List D}, ks.length = vs.length → cs.length = us.length → RL M F vs l → RL M F us ds →
    ∃ vs', mergeK (ks.zip vs) (cs.zip us) = (mergeKD ks l cs ds).1.zip vs' ∧ (mergeKD ks l cs ds).1.length = vs'.length ∧ RL M F vs' (mergeKD ks l cs ds).2
  | [], _, ds, ks, vs, l, h1, _, r1, _ => ⟨vs, by simp [mergeK, mergeKD], by simp [mergeKD, h1], by simp [mergeKD]; exact r1⟩
  | c :: cs, [], _, _, _, _, _, h, _, _ => by simp at h
  | c :: cs, u :: us, ds, ks, vs, l, h1, h2, r1, r2 => by
    cases r2 with
    | @cons _ _ d ds ra rb =>
      have := merge_RL (cs := cs) (us := us) (ds := ds) (ks := putKs ks c) (vs := putDs ks vs c u) (l := putDs ks l c d) (putKs_len _ _ _ _ h1) (by simpa using h2) (RL.put ra r1) rb
      obtain ⟨vs', e1, e2, e3⟩ := this
      refine ⟨vs', ?_, e2, e3⟩
      rw [List.zip_cons_cons]
      show mergeK (putK (ks.zip vs) c u) (cs.zip us) = _
      rw [putK_zip _ _ _ _ h1]
      exact e1
theorem ws_upd {ks : List Key} (hx : ρ[i]? = some (some (.ownK ks l))) (h : WA M tr ρ fun ds => ∃ cs es, ds = [.dic cs es] ∧ ks.length + cs.length ≤ 100000 ∧ nx (ρ.set i (some (.ownK (mergeKD ks l cs es).1 (mergeKD ks l cs es).2)))) : WS M (tDrop (tBM M.K "dict" rUpd (tVar i) tr)) ρ nx rt bk ct := fun σ F H E e f1 f2 f3 f4 => by
  obtain ⟨v, h1, p, vs, rfl, h2, h6, h3, h4, h5⟩ := e.each i _ hx
  refine ⟨_, h1, .inr (.inr (.inl ⟨rfl, .inl ⟨_, Dl_sub _ _ h2⟩⟩)), h σ F H _ e fun us ds F1 H1 x1 r1 ⟨cs, es, z, hl, q⟩ => ?_⟩
  subst z
  have e1 := e.step x1
  have h2' := x1.ext.hh _ _ h2
  have h3' := x1.ext.fr p _ h2 rfl h3
  have h5' := RA.mono x1.ff h5
  cases r1 with
  | cons ra rb =>
    cases rb
    cases ra with
    | @dic b _ ws _ d1 d2 d3 =>
      obtain ⟨vs', m1, m2, m3⟩ := merge_RL (ks := ks) h6 d2 h5' d3
      refine ⟨p, b, _, _, rfl, rfl, fun z => ?_, Dl_sub _ _ h2', x1.gd.sub _ _ d1, by rw [List.length_zip, List.length_zip]; omega, ?_⟩
      · subst z
        rw [h3'] at d1
        cases d1
      · rw [m1]
        exact f1 _ σ F1 _ x1.ff (e1.chg hx rfl h1 h2' h3' h4 (s1 := .ownK _ _) ⟨p, vs', rfl, Dl_at (Dl_ne h2'), m2, h3', h4, m3⟩) q
/-! {e: f for x in xs} -/
end
end G

namespace G
open PySem PySem.Spec PyProof.Rows L2
/-- {(..): e}, the key a tuple -/
def tDispT1 (tk tv : TE) : TE := fun σ H Q => ∀ p, H p = none → tk σ (upd H p (.dT [])) fun y H1 => tv σ H1 fun v H2 => H2 p = some (.dT []) ∧ ∃ b k, y = .ref b ∧ H2 b = some (.tup (k.map kV)) ∧ Q (.ref p) (upd H2 p (.dT [(k, v)]))
section
variable {M : Cm} {ρ : Rho} {tk tv : TE}
theorem wot_disp1 {kk : List (List Key) → List D → Prop} (h : WE M tk ρ fun y => ∃ ns : List Int, y = .stn ns ∧ WE M tv ρ fun d => kk [ns.map (Sum.inl : Int → Key)] [d]) : WOT M (tDispT1 tk tv) ρ kk := fun σ F H Q e f p np => by
  have g := e.gd
  have x0 : XM M F H F (upd H p (.dT [])) := (XE.refl g).mut np
  have hp0 : Dl M.st (upd H p (.dT [])) p = some (.dT []) := Dl_at (g.ok.ne np)
  refine h σ F _ _ (e.step x0) fun y dy F1 H1 x1 r1 ⟨ns, z, h1⟩ => h1 σ F1 H1 _ (e.step (x0.trans x1)) fun v d F2 H2 x2 r2 q => ?_
  subst z
  have x12 := x1.trans x2
  have hp2 := x12.ext.hh _ _ hp0
  have fp2 := x12.ext.fr p _ hp0 rfl (sub_none g.sub np)
  obtain ⟨b, rfl, hb⟩ := (show RB M F1 H1 y (.stn ns) from .inl r1).stn
  refine ⟨Dl_sub _ _ hp2, b, ns.map Sum.inl, rfl, by rw [List.map_map]; exact x2.gd.sub _ _ (x2.ff _ _ hb), ?_⟩
  exact f p [ns.map Sum.inl] [v] [d] F2 _ ((x0.trans x12).chg hp2 (Dl_none np) fp2) (Dl_at (Dl_ne hp2)) rfl fp2 (Dl_none np) (.cons r2 .nil) q
end
/-- a tuple that is a key -/
def tTupK (tr : TA) : TE := tTup tr
theorem we_tupK2 {M : Cm} {ρ : Rho} {k : D → Prop} {ta tb : TE} (h : WE M ta ρ fun d => ∃ a : Int, d = .int a ∧ WE M tb ρ fun e => ∃ b : Int, e = .int b ∧ k (.stn [a, b])) : WE M (tTupK (tCons ta (tCons tb tNil))) ρ k := fun σ F H Q e f => by
  refine h σ F H _ e fun v d F1 H1 x1 r1 ⟨a, z, h1⟩ => h1 σ F1 H1 _ (e.step x1) fun u d2 F2 H2 x2 r2 ⟨b, z2, q⟩ => ?_
  subst z z2
  cases r1
  cases r2
  exact ⟨by show 2 ≤ sizeLine; decide, fun p np => f _ _ _ _ ((x1.trans x2).new np) (.stn upd_same) q⟩
/-! len of a bench -/
abbrev rLenB (K : PySem.W.Frag) (C : Addr) (sp : Sp) : List V → Hp → VK → Prop := fun vs H Q => rLen K vs H Q ∨ rOwnLen C sp vs H Q
def cLen : Ct := fun ds k => ∃ B, ds = [.bench B] ∧ k (.int B.heavy.length)
/-! ### a dict of lists that grow -/
/-- at p a dict of lists of ints, of one's own: the lists at qs, as ls tells -/
structure Nest (st : Option Addr) (F H0 H : Hp) (p : Addr) (qs : List Addr) (ls : List (List Int)) : Prop where
  len : qs.length = ls.length
  dp : Dl st H p = some (.dK (((List.range qs.length).map fun (i : Nat) => (Sum.inl (i : Int) : Key)).zip (qs.map V.ref)))
  fp : F p = none
  hp : Dl st H0 p = none
  nd : qs.Nodup
  np : p ∉ qs
  each : ∀ (i : Nat) q l, qs[i]? = some q → ls[i]? = some l → Dl st H q = some (.lst (l.map V.int)) ∧ F q = none ∧ Dl st H0 q = none
theorem nodup_ne {qs : List Addr} {i j : Nat} {a b : Addr} (nd : qs.Nodup) (h1 : qs[i]? = some a) (h2 : qs[j]? = some b) (ne : i ≠ j) : a ≠ b := fun z => by
  subst z
  have i1 := (List.getElem?_eq_some_iff.mp h1)
  have i2 := (List.getElem?_eq_some_iff.mp h2)
  obtain ⟨a1, e1⟩ := i1
  obtain ⟨a2, e2⟩ := i2
  have key := List.pairwise_iff_getElem.mp nd
  rcases Nat.lt_or_gt_of_ne ne with h | h
  · exact key i j a1 a2 h (e1.trans e2.symm)
  · exact key j i a2 a1 h (e2.trans e1.symm)
theorem Nest.step {K : PySem.W.Frag} {st : Option Addr} {F H0 H F' H' : Hp} {p : Addr} {qs : List Addr} {ls : List (List Int)} (n : Nest st F H0 H p qs ls) (x : XE K st F H F' H') : Nest st F' H0 H' p qs ls :=
  ⟨n.len, x.ext.hh _ _ n.dp, x.ext.fr p _ n.dp rfl n.fp, n.hp, n.nd, n.np, fun i q l h1 h2 => by
    obtain ⟨a, b, c⟩ := n.each i q l h1 h2
    exact ⟨x.ext.hh _ _ a, x.ext.fr q _ a rfl b, c⟩⟩
/-- one of its lists grows -/
theorem Nest.app {st : Option Addr} {F H0 H : Hp} {p : Addr} {qs : List Addr} {ls : List (List Int)} {i : Nat} {q : Addr} {l l' : List Int} (n : Nest st F H0 H p qs ls) (h1 : qs[i]? = some q) (h2 : ls[i]? = some l) : Nest st F H0 (upd H q (.lst (l'.map V.int))) p qs (ls.set i l') := by
  obtain ⟨a, b, c⟩ := n.each i q l h1 h2
  have ne := Dl_ne a
  have hi := (List.getElem?_eq_some_iff.mp h2).1
  refine ⟨by rw [List.length_set]; exact n.len, ?_, n.fp, n.hp, n.nd, n.np, fun j q' m h3 h4 => ?_⟩
  · rw [Dl_off (fun z => n.np (by rw [z]; exact List.mem_of_getElem? h1))]
    exact n.dp
  · by_cases z : i = j
    · subst z
      rw [h1] at h3
      cases h3
      rw [List.getElem?_set_self hi] at h4
      cases h4
      exact ⟨by exact Dl_at ne, b, c⟩
    · rw [List.getElem?_set_ne z] at h4
      obtain ⟨a', b', c'⟩ := n.each j q' m h3 h4
      exact ⟨by rw [Dl_off (fun w => nodup_ne n.nd h1 h3 z w.symm)]; exact a', b', c'⟩
theorem Nest.get {st : Option Addr} {F H0 H : Hp} {p : Addr} {qs : List Addr} {ls : List (List Int)} {i : Nat} {q : Addr} (n : Nest st F H0 H p qs ls) (h1 : qs[i]? = some q) : DGet H p (.int (i : Int)) (some (.ref q)) := by
  have hi := (List.getElem?_eq_some_iff.mp h1).1
  have : valV (((List.range qs.length).map fun (i : Nat) => (Sum.inl (i : Int) : Key)).zip (qs.map V.ref)) (Sum.inl (i : Int)) = some (.ref q) := by
    refine valV_at (i := i) ?_ ?_
    · rw [zip_fst _ _ (by simp)]
      exact List.pairwise_map.mpr (List.nodup_range.imp fun h z => h (by have := Sum.inl.inj z; omega))
    · rw [List.getElem?_zip_eq_some]
      exact ⟨by rw [List.getElem?_map, List.getElem?_range hi]; rfl, by rw [List.getElem?_map, h1]; rfl⟩
  rw [← this]
  exact DGet.k (k := Sum.inl (i : Int)) (Dl_sub _ _ n.dp)
/-- all of it frozen -/
theorem Nest.frz {M : Cm} {F H0 H : Hp} {p : Addr} {qs : List Addr} {ls : List (List Int)} (n : Nest M.st F H0 H p qs ls) (x : XE M.K M.st M.F0 H0 F H) : ∃ F', XE M.K M.st M.F0 H0 F' H ∧ RV M F' (.ref p) (.dic ((List.range qs.length).map fun (i : Nat) => (Sum.inl (i : Int) : Key)) (ls.map fun l => .lst (l.map D.int))) := by
  have key : ∀ (qs : List Addr) (ls : List (List Int)) (F1 : Hp), qs.length = ls.length → qs.Nodup → XE M.K M.st M.F0 H0 F1 H → F1 p = none → p ∉ qs → (∀ (i : Nat) q l, qs[i]? = some q → ls[i]? = some l → Dl M.st H q = some (.lst (l.map V.int)) ∧ F1 q = none ∧ Dl M.st H0 q = none) →
      ∃ F2, XE M.K M.st M.F0 H0 F2 H ∧ F2 p = none ∧ Same F1 F2 ∧ RL M F2 (qs.map V.ref) (ls.map fun l => .lst (l.map D.int)) := by
    intro qs
    induction qs with
    | nil =>
      intro ls F1 hl _ x1 f1 _ _
      cases ls with
      | nil => exact ⟨F1, x1, f1, Same.refl _, .nil⟩
      | cons _ _ => simp at hl
    | cons q qs ih =>
      intro ls F1 hl nd x1 f1 np h
      cases ls with
      | nil => simp at hl
      | cons l ls =>
        obtain ⟨a, b, c⟩ := h 0 q l rfl rfl
        rw [List.nodup_cons] at nd
        have qp : p ≠ q := fun z => np (by rw [z]; exact List.mem_cons_self)
        obtain ⟨F2, x2, f2, s2, r2⟩ := ih ls (upd F1 q (.lst (l.map V.int))) (by simpa using hl) nd.2 (x1.frz c b a) (by rw [upd_ne qp]; exact f1) (fun z => np (List.mem_cons_of_mem _ z)) fun i q' l' h1 h2 => by
          obtain ⟨a', b', c'⟩ := h (i + 1) q' l' (by simpa using h1) (by simpa using h2)
          refine ⟨a', ?_, c'⟩
          rw [upd_ne (fun z => nd.1 (by rw [← z]; exact List.mem_of_getElem? h1))]
          exact b'
        exact ⟨F2, x2, f2, (same_upd b).trans s2, .cons (.lst (.inl (.inl (s2 _ _ upd_same))) (RA.ofInts _)) r2⟩
  obtain ⟨F2, x2, f2, s2, r2⟩ := key qs ls F n.len n.nd x n.fp n.np n.each
  refine ⟨upd F2 p _, x2.frz n.hp f2 n.dp, .dic upd_same (by simp) (r2.mono (same_upd f2))⟩
end G

namespace G
/-! ## tables: keys and values, in order -/
section
variable {κ α : Type} [DecidableEq κ]
def lkp : List κ → List α → κ → Option α
  | q :: ks, d :: l, x => if q = x then some d else lkp ks l x
  | _, _, _ => none
end
section
variable {κ κ' α : Type} [DecidableEq κ] [DecidableEq κ'] {f : κ → κ'} (hf : ∀ a b, f a = f b → a = b)
include hf
end
end G

namespace G
open PySem PySem.Spec PyProof.Rows L2
/-! ## a dict of its own, locked while it is walked; tuples that are asked .index; [::-1] -/
section
variable {M : Cm} {ρ : Rho} {i : Nat} {nx : Rho → Prop} {rt : Sl → Rho → Prop} {bk ct : Rho → Prop} {k : D → Prop} {ka : List D → Prop}
theorem we_dgetL {p : Addr} {o : Obj} {vs : List V} {ks : List Key} {l : List D} {tb : TE} (hkv : ks.length = vs.length) (hi : ρ[i]? = some (some (.lk p (.frz o (.dK (ks.zip vs))) vs l))) (h : WE M tb ρ fun y => DGt M (.dic ks l) y k) : WE M (tDGet (tVar i) tb) ρ k := fun σ F H Q e f => by
  obtain ⟨v, h1, rfl, h2, h3, h4, h5, h6⟩ := e.each i _ hi
  refine ⟨_, h1, h σ F H _ e fun y d2 F2 H2 x2 r2 h2' => ?_⟩
  have g2 := x2.ext.hh _ _ h2
  have g6 := RA.mono x2.ff h6
  rcases h2' with ⟨ks', l', s, d, e1, rfl, hv, q⟩ | ⟨ks', l', s, d, e1, rfl, hv, q⟩ | ⟨ks', l', ns, d, e1, rfl, hv, q⟩
  · cases e1
    cases (show RB M F2 H2 y (.str s) from .inl r2).str
    obtain ⟨v, h7, h8⟩ := valD_RA g6 hv
    exact ⟨p, v, rfl, .inl ⟨_, Sum.inr s, .inr ⟨o, Dl_sub _ _ g2⟩, rfl, h7.symm⟩, f _ _ F2 H2 x2 h8 q⟩
  · cases e1
    cases (show RB M F2 H2 y (.int s) from .inl r2).int
    obtain ⟨v, h7, h8⟩ := valD_RA g6 hv
    exact ⟨p, v, rfl, .inl ⟨_, Sum.inl s, .inr ⟨o, Dl_sub _ _ g2⟩, rfl, h7.symm⟩, f _ _ F2 H2 x2 h8 q⟩
  · cases e1
/-- t.index(n) -/
theorem we_idx {te tb : TE} (h : WE M te ρ fun d => ∃ ns, d = .ixt ns ∧ WE M tb ρ fun y => ∃ m : Int, y = .int m ∧ m ∈ ns ∧ k (.int ((ns.idxOf m : Nat) : Int))) : WE M (tBMT (rTupIx M.K) te (tCons tb tNil)) ρ k := fun σ F H Q e f => by
  refine h σ F H _ e fun v d F1 H1 x1 r1 ⟨ns, z, h1⟩ => ?_
  subst z
  obtain ⟨p, ob, rfl, h2, h3⟩ := (show RB M F1 H1 v (.ixt ns) from .inl r1).ixt
  refine ⟨⟨p, ob, _, rfl, x1.gd.sub _ _ h2, h3⟩, ?_⟩
  refine h1 σ F1 H1 _ (e.step x1) fun y d2 F2 H2 x2 r2 ⟨m, z, hm, q⟩ => ?_
  subst z
  cases (show RB M F2 H2 y (.int m) from .inl r2).int
  exact ⟨p, ns, m, rfl, rfl, .inl (.inr ⟨ob, x2.gd.sub _ _ (x2.ff _ _ h2)⟩), hm, f _ _ F2 H2 (x1.trans x2) (.int _) q⟩
theorem cr_tupX {ns : List Int} (q : k (.ixt ns)) : CR M (rTupleF M.K) [.lst (ns.map D.int)] k := fun F H vs Q g rr f => by
  obtain ⟨v, rfl, r⟩ := rbs1 rr
  obtain ⟨p, us, rfl, h1, h2⟩ := r.lst g
  rw [h2.ints] at h1
  exact ⟨p, _, rfl, h1, fun l ob hd hl => f _ _ _ _ ((XE.refl g).new hl) (.ixt upd_same hd) q⟩
theorem RA.rev {K : PySem.W.Frag} {C : Addr} {st : Option Addr} {F : Hp} : ∀ {vs : List V} {ds : List D}, RA K C st F vs ds → RA K C st F vs.reverse ds.reverse
  | _, _, .nil => .nil
  | _, _, .cons h t => by rw [List.reverse_cons, List.reverse_cons]; exact (RA.rev t).app (.cons h .nil)
theorem wo_rev {te : TE} (h : WB M te ρ fun d => ∃ l, d = .lst l ∧ ka l.reverse) : WO M (tRevL M.K te) ρ ka := fun σ F H Q e f => by
  refine h σ F H _ e fun v d F1 H1 x1 r1 ⟨l, z, q⟩ => ?_
  subst z
  obtain ⟨p, vs, rfl, h1, h2⟩ := r1.lst x1.gd
  refine ⟨p, vs, rfl, h1, fun a na => ?_⟩
  have hne := x1.gd.ok.ne na
  exact f a vs.reverse l.reverse F1 _ (x1.mut na) (by exact Dl_at hne) (sub_none x1.gd.sub na) (x1.ext.hh.free (Dl_none na)) h2.rev q
end
end G

namespace G
open PySem PySem.Spec PyProof.Rows L2
section
variable {M : Cm} {ρ : Rho} {k : D → Prop} {ka : List D → Prop} {tr : TA}
/-- range(0, n, c) -/
def rngS (c n : Nat) : List D := (List.range ((n + c - 1) / c)).map fun (i : Nat) => D.int ((i * c : Nat) : Int)
end
end G

namespace G
open PySem PySem.Spec PyProof.Rows L2
section
variable {M : Cm} {ρ : Rho} {k : D → Prop} {ka : List D → Prop} {nx bk ct : Rho → Prop} {rt : Sl → Rho → Prop} {tr : TA} {i j : Nat} {l m : List D}
end
end G

namespace G
open PySem PySem.Spec PyProof.Rows L2
/-! ### a list of lists, of one's own -/
def oW : Option Int → V
  | some n => .int n
  | none => .non
def oDD : Option Int → D
  | some n => .int n
  | none => .non
theorem oD_R {K : PySem.W.Frag} {C : Addr} {st : Option Addr} {F : Hp} (o : Option Int) : R K C st F (oW o) (oDD o) := by
  cases o with
  | none => exact .non
  | some n => exact .int n
theorem oD_RA {K : PySem.W.Frag} {C : Addr} {st : Option Addr} {F : Hp} : ∀ l : List (Option Int), RA K C st F (l.map oW) (l.map oDD)
  | [] => .nil
  | o :: l => .cons (oD_R o) (oD_RA l)
/-- at p a list of lists, of one's own: the lists at qs, as ls tells -/
structure NestL (st : Option Addr) (F H0 H : Hp) (p : Addr) (qs : List Addr) (ls : List (List (Option Int))) : Prop where
  len : qs.length = ls.length
  dp : Dl st H p = some (.lst (qs.map V.ref))
  fp : F p = none
  hp : Dl st H0 p = none
  nd : qs.Nodup
  np : p ∉ qs
  each : ∀ (i : Nat) q l, qs[i]? = some q → ls[i]? = some l → Dl st H q = some (.lst (l.map oW)) ∧ F q = none ∧ Dl st H0 q = none
theorem NestL.step {K : PySem.W.Frag} {st : Option Addr} {F H0 H F' H' : Hp} {p : Addr} {qs : List Addr} {ls : List (List (Option Int))} (n : NestL st F H0 H p qs ls) (x : XE K st F H F' H') : NestL st F' H0 H' p qs ls :=
  ⟨n.len, x.ext.hh _ _ n.dp, x.ext.fr p _ n.dp rfl n.fp, n.hp, n.nd, n.np, fun i q l h1 h2 => by
    obtain ⟨a, b, c⟩ := n.each i q l h1 h2
    exact ⟨x.ext.hh _ _ a, x.ext.fr q _ a rfl b, c⟩⟩
/-- one of its lists changes -/
theorem NestL.chg {st : Option Addr} {F H0 H : Hp} {p : Addr} {qs : List Addr} {ls : List (List (Option Int))} {i : Nat} {q : Addr} {l l' : List (Option Int)} (n : NestL st F H0 H p qs ls) (h1 : qs[i]? = some q) (h2 : ls[i]? = some l) : NestL st F H0 (upd H q (.lst (l'.map oW))) p qs (ls.set i l') := by
  obtain ⟨a, b, c⟩ := n.each i q l h1 h2
  have ne := Dl_ne a
  have hi := (List.getElem?_eq_some_iff.mp h2).1
  refine ⟨by rw [List.length_set]; exact n.len, ?_, n.fp, n.hp, n.nd, n.np, fun j q' m h3 h4 => ?_⟩
  · rw [Dl_off (fun z => n.np (by rw [z]; exact List.mem_of_getElem? h1))]
    exact n.dp
  · by_cases z : i = j
    · subst z
      rw [h1] at h3
      cases h3
      rw [List.getElem?_set_self hi] at h4
      cases h4
      exact ⟨by exact Dl_at ne, b, c⟩
    · rw [List.getElem?_set_ne z] at h4
      obtain ⟨a', b', c'⟩ := n.each j q' m h3 h4
      exact ⟨by rw [Dl_off (fun w => nodup_ne n.nd h1 h3 z w.symm)]; exact a', b', c'⟩
theorem NestL.get {K : PySem.W.Frag} {st : Option Addr} {F H0 H : Hp} {p q : Addr} {qs : List Addr} {ls : List (List (Option Int))} {i : Nat} (n : NestL st F H0 H p qs ls) (h1 : qs[i]? = some q) : SqL K H p (qs.map V.ref) ∧ atI (qs.map V.ref) (i : Int) = some (.ref q) := by
  refine ⟨.inl (.inl (Dl_sub _ _ n.dp)), ?_⟩
  have hi := (List.getElem?_eq_some_iff.mp h1).1
  unfold atI ixN
  rw [if_pos (by omega), List.length_map, if_pos (by omega)]
  simp [h1]
/-- all of it frozen -/
theorem NestL.frz {M : Cm} {F H0 H : Hp} {p : Addr} {qs : List Addr} {ls : List (List (Option Int))} (n : NestL M.st F H0 H p qs ls) (x : XE M.K M.st M.F0 H0 F H) : ∃ F', XE M.K M.st M.F0 H0 F' H ∧ RV M F' (.ref p) (.lst (ls.map fun l => .lst (l.map oDD))) := by
  have key : ∀ (qs : List Addr) (ls : List (List (Option Int))) (F1 : Hp), qs.length = ls.length → qs.Nodup → XE M.K M.st M.F0 H0 F1 H → F1 p = none → p ∉ qs → (∀ (i : Nat) q l, qs[i]? = some q → ls[i]? = some l → Dl M.st H q = some (.lst (l.map oW)) ∧ F1 q = none ∧ Dl M.st H0 q = none) →
      ∃ F2, XE M.K M.st M.F0 H0 F2 H ∧ F2 p = none ∧ Same F1 F2 ∧ RL M F2 (qs.map V.ref) (ls.map fun l => .lst (l.map oDD)) := by
    intro qs
    induction qs with
    | nil =>
      intro ls F1 hl _ x1 f1 _ _
      cases ls with
      | nil => exact ⟨F1, x1, f1, Same.refl _, .nil⟩
      | cons _ _ => simp at hl
    | cons q qs ih =>
      intro ls F1 hl nd x1 f1 np h
      cases ls with
      | nil => simp at hl
      | cons l ls =>
        obtain ⟨a, b, c⟩ := h 0 q l rfl rfl
        rw [List.nodup_cons] at nd
        have qp : p ≠ q := fun z => np (by rw [z]; exact List.mem_cons_self)
        obtain ⟨F2, x2, f2, s2, r2⟩ := ih ls (upd F1 q (.lst (l.map oW))) (by simpa using hl) nd.2 (x1.frz c b a) (by rw [upd_ne qp]; exact f1) (fun z => np (List.mem_cons_of_mem _ z)) fun i q' l' h1 h2 => by
          obtain ⟨a', b', c'⟩ := h (i + 1) q' l' (by simpa using h1) (by simpa using h2)
          refine ⟨a', ?_, c'⟩
          rw [upd_ne]
          · exact b'
          · intro z
            exact nd.1 (by rw [← z]; exact List.mem_of_getElem? h1)
        have s1 : Same F1 (upd F1 q (.lst (l.map oW))) := same_upd b
        exact ⟨F2, x2, f2, s1.trans s2, .cons (.lst (.inl (.inl (s2 _ _ upd_same))) (oD_RA l)) r2⟩
  obtain ⟨F2, x2, f2, s2, r2⟩ := key qs ls F n.len n.nd x n.fp n.np n.each
  exact ⟨upd F2 p (.lst (qs.map V.ref)), x2.frz n.hp f2 n.dp, .lst (.inl (.inl upd_same)) (r2.mono (same_upd f2))⟩
end G

namespace G
open PySem PySem.Spec PyProof.Rows L2
/-! ### for .. in d.items(), the keys of d being tuples -/
/-- the pairs of the locked dict at d, each a new tuple -/
def ItiT (d : Addr) (o : Obj) (kvs : List (List Key × V)) : It :=
  ⟨fun i H => H d = some (.frz o (.dT kvs)) ∧ i < kvs.length, fun i H x H' => ∃ (T q : Addr) (k : List Key) (v : V), kvs[i]? = some (k, v) ∧ x = .ref T ∧ H T = none ∧ H q = some (.tup (k.map kV)) ∧ H' = upd H T (.tup [.ref q, v]), fun i H => H d = some (.frz o (.dT kvs)) ∧ kvs.length ≤ i⟩
section
variable {X : Cx} {pins : List (Addr × Obj)} {σ : L2.St} {H : Hp} {s : Shared} {d : Addr} {o : Obj}
end
section
variable {P : Program} {w : World} {K : PySem.W.Frag} {d : Addr} {o : Obj} {es : Array DictEntry} {ep : Nat}
end
def iItemsT (td : TE) : TI := fun σ H R => td σ H fun x H1 => ∃ d o kvs, x = .ref d ∧ H1 d = some (.frz o (.dT kvs)) ∧ R (ItiT d o kvs) H1
section
variable {X : Cx} {e : Expr} {td : TE} {apos cpos : Pos}
end
end G

namespace G
open PySem PySem.Spec PyProof.Rows L2
/-! ### defs that tell a thing of its own -/
abbrev CtS := List D → (Sl → Prop) → Prop
def spDS (K : PySem.W.Frag) (C : Addr) (c : CtS) : Sp := fun vs H Q _ => ∃ st F ds k, Gd K st F H ∧ RA K C st F vs ds ∧ c ds k ∧ ∀ v s F' H', XE K st F H F' H' → SR ⟨K, C, st, F, H⟩ F' H' v s → k s → Q v H'
section
variable {P : Program} {w : World} {K : PySem.W.Frag} {mg : Str → Option Value} {base : Heap} {C : Addr}
end
/-- what a thing is worth once it is frozen -/
def frzS : Sl → Option D
  | .d x => some x
  | .own l => some (.lst l)
  | .ownK ks l => some (.dic ks l)
  | .ownT ks l => some (.dit ks l)
  | .lk _ _ _ _ => none
theorem SR.frozen {K : PySem.W.Frag} {C : Addr} {st : Option Addr} {F0 H0 F H : Hp} {v : V} {s : Sl} {d : D} (x : XE K st F0 H0 F H) (r : SR ⟨K, C, st, F0, H0⟩ F H v s) (e : frzS s = some d) : ∃ F', XE K st F0 H0 F' H ∧ R K C st F' v d := by
  cases s with
  | d y => cases e; exact ⟨F, x, r⟩
  | own l =>
    cases e
    obtain ⟨p, vs, rfl, h1, h2, h3, h4⟩ := r
    exact ⟨_, x.frz h3 h2 h1, .lst (.inl (.inl upd_same)) (RA.mono (same_upd h2) h4)⟩
  | ownK ks l =>
    cases e
    obtain ⟨p, vs, rfl, h1, h5, h2, h3, h4⟩ := r
    exact ⟨_, x.frz h3 h2 h1, .dic upd_same h5 (RA.mono (same_upd h2) h4)⟩
  | ownT ks l =>
    cases e
    obtain ⟨p, vs, rfl, h1, h5, h2, h3, h4⟩ := r
    exact ⟨_, x.frz h3 h2 h1, .dit upd_same h5 (RA.mono (same_upd h2) h4)⟩
  | lk p o vs l => cases e
theorem Def.frozen {P : Program} {w : World} {K : PySem.W.Frag} {mg : Str → Option Value} {base : Heap} {C : Addr} {n : Nat} {x : Str} {ps : List Str} {c : CtS} {c' : Ct} (D : Def P w K mg base n x ps (spDS K C c)) (h : ∀ ds k, c' ds k → c ds fun s => ∃ d, frzS s = some d ∧ k d) : Def P w K mg base n x ps (spD K C c') := by
  refine D.to fun vs H Q E hh => ?_
  obtain ⟨st, F, ds, k, g, r, hc, q⟩ := hh
  refine ⟨st, F, ds, _, g, r, h ds k hc, fun v s F' H' x rs ⟨d, e, kd⟩ => ?_⟩
  obtain ⟨F2, x2, r2⟩ := SR.frozen x rs e
  exact q v d F2 H' x2 r2 kd
theorem SR.base {M : Cm} {F1 H1 F H : Hp} {v : V} {s : Sl} (sm : Same (Dl M.st M.H0) (Dl M.st H1)) (r : SR ⟨M.K, M.C, M.st, F1, H1⟩ F H v s) : SR M F H v s := by
  cases s with
  | d y => exact r
  | own l =>
    obtain ⟨p, vs, rfl, h1, h2, h3, h4⟩ := r
    exact ⟨p, vs, rfl, h1, h2, sm.free h3, h4⟩
  | ownK ks l =>
    obtain ⟨p, vs, rfl, h1, h5, h2, h3, h4⟩ := r
    exact ⟨p, vs, rfl, h1, h5, h2, sm.free h3, h4⟩
  | ownT ks l =>
    obtain ⟨p, vs, rfl, h1, h5, h2, h3, h4⟩ := r
    exact ⟨p, vs, rfl, h1, h5, h2, sm.free h3, h4⟩
  | lk p o vs l =>
    obtain ⟨rfl, h1, h5, h2, h3, h4⟩ := r
    exact ⟨rfl, h1, h5, h2, sm.free h3, h4⟩
section
variable {M : Cm} {ρ : Rho} {k : D → Prop} {ka : List D → Prop} {nx bk ct : Rho → Prop} {rt : Sl → Rho → Prop} {tr : TA} {te t : TE} {i : Nat} {l : List D}
/-- x = f(..), f telling a thing of its own -/
theorem ws_asgS {c : CtS} {E : XK} (h : WA M tr ρ fun ds => c ds fun s => nx (ρ.set i (some s))) : WS M (tAsg (tCall (spDS M.K M.C c) [] E tr) (gName i)) ρ nx rt bk ct := fun σ F H E e f1 f2 f3 f4 => h σ F H _ e fun vs ds F1 H1 x1 r1 hc => by
  rw [List.append_nil]
  refine ⟨M.st, F1, ds, _, x1.gd, r1, hc, fun v s F' H' x rs q => ?_⟩
  have e1 := (e.step x1).step x
  have rs' : SR M F' H' v s := SR.base (e.x.trans x1).ext.hh rs
  have key : s.mine = false ∨ s.mine = true := by cases s.mine <;> simp
  rcases key with hm | hm
  · cases s with
    | d y => exact f1 _ _ F' H' (x1.trans x).ff (e1.put rs') q
    | _ => cases hm
  · refine f1 _ _ F' H' (x1.trans x).ff (e1.putO rs' fun j s' hj hs m z => ?_) q
    obtain ⟨p, o, rfl, a1, a2, a3⟩ := rs.mine_at hm
    obtain ⟨v', b1, b2⟩ := (e.step x1).each j s' hs
    obtain ⟨p', o', rfl, c1, c2, c3⟩ := b2.mine_at m
    rw [b1] at z
    cases z
    have a4 : Dl M.st H1 p = none := a3
    rw [a4] at c1
    cases c1
def itemsD (nss : List (List Int)) (l : List D) : List D := List.zipWith (fun ns d => D.tup [.stn ns, d]) nss l
end
end G
namespace G
open PySem PySem.Spec PyProof.Rows L2
theorem wg_lst {M : Cm} {ρ : Rho} {S : Nat → Prop} {kr : Rho → Prop} {l : List D} {n : Nat} {g : TGs} (hn : l.length = n) (h : WGs M S g l ρ kr) : WG M S (gLst M.K n g) (.lst l) ρ kr := fun v σ F H Q e r f => by
  cases r with
  | lst a b => exact ⟨_, _, rfl, sqL_mono e.gd.sub a, by rw [b.len]; exact hn, h _ σ F H Q e b f⟩
end G

namespace G
open PySem PySem.Spec PyProof.Rows L2
/-! ### what is ground off, place by place -/
def Apart (p q : Nat × Nat) : Prop := p.1 ≠ q.1 ∧ p.1 ≠ q.2 ∧ p.2 ≠ q.1 ∧ p.2 ≠ q.2
structure Disj (r : List (Nat × Nat)) : Prop where
  own : ∀ p ∈ r, p.1 ≠ p.2
  two : r.Pairwise Apart
end G

namespace G.Q
open PySem PySem.Spec PyProof.Rows L2
local macro_rules | `(tactic| walk_at "ds") => `(tactic| skip)
local macro_rules | `(tactic| walk_at "ds") => `(tactic| dsimp only [List.set, wipeR, snd_cons, snd_nil])
local macro_rules | `(tactic| walk_at "d1") => `(tactic| ((first | with_reducible refine key_str ?_ | with_reducible refine ⟨_, rfl, ?_⟩ | with_reducible refine ⟨_, _, rfl, ?_⟩ | ((with_reducible show List.length _ ≤ 1000 ∧ _); refine len_ok (by rfl) ?_) | ((with_reducible show if D.isN _ = true then _ else _); first | refine s_nnT (by rfl) ?_ | refine s_nnF (by rfl) ?_) | ((with_reducible show if (!D.isN _) = true then _ else _); first | refine s_mnT (by rfl) ?_ | refine s_mnF (by rfl) ?_) | with_reducible refine s_cT ?_ | with_reducible refine s_cF ?_ | with_reducible refine s_nT ?_ | with_reducible refine s_nF ?_); walk_at "ds"))
local macro_rules | `(tactic| walk_at "d1") => `(tactic| ((with_reducible show WPs ..); (first | with_reducible refine wps_cons ?_ | with_reducible refine wps_nil ?_)))
local macro_rules | `(tactic| walk_at "d1") => `(tactic| ((with_reducible show WI ..); (with_reducible refine wi_rng1 ?_)))
local macro_rules | `(tactic| walk_at "d1") => `(tactic| ((with_reducible show WV ..); (with_reducible refine WI.wv ?_)))
local macro_rules | `(tactic| walk_at "d1") => `(tactic| ((with_reducible show WP ..); (first | with_reducible refine wp_no ?_ | with_reducible refine wp_some ?_)))
local macro_rules | `(tactic| walk_at "d1") => `(tactic| ((with_reducible show WOT ..); (first | with_reducible refine wot_new ?_ | with_reducible refine wot_disp1 ?_)))
local macro_rules | `(tactic| walk_at "d1") => `(tactic| ((with_reducible show WOK ..); (first | with_reducible refine wok_new ?_ | with_reducible refine wok_disp1 ?_)))
local macro_rules | `(tactic| walk_at "d1") => `(tactic| ((with_reducible show WD ..); (first | with_reducible refine wd_tup ?_ | with_reducible refine wd_lst ?_)))
local macro_rules | `(tactic| walk_at "d1") => `(tactic| ((with_reducible show WAD ..); (first | with_reducible refine wad_cons ?_ | with_reducible refine wad_nil ?_)))
local macro_rules | `(tactic| walk_at "d1") => `(tactic| ((with_reducible show DIn ..); (first | with_reducible refine din_I ?_ | with_reducible refine din_S ?_ | with_reducible refine din_T ?_)))
local macro_rules | `(tactic| walk_at "d1") => `(tactic| ((with_reducible show DGt ..); (first | with_reducible refine dgp_hard ?_ | with_reducible refine dgp_wide ?_ | with_reducible refine dgp_rows ?_ | with_reducible refine dgp_pairs ?_ | with_reducible refine dgp_many ?_ | with_reducible refine dg_hard ?_ | with_reducible refine dg_places ?_ | with_reducible refine dg_told ?_ | with_reducible refine dg_heavy ?_ | with_reducible refine dg_meets ?_)))
local macro_rules | `(tactic| walk_at "d1") => `(tactic| ((with_reducible show OU ..); (with_reducible refine ou_neg ?_)))
local macro_rules | `(tactic| walk_at "d1") => `(tactic| ((with_reducible show WAB ..); (first | with_reducible refine wab_cons ?_ | with_reducible refine wab_nil ?_)))
local macro_rules | `(tactic| walk_at "d1") => `(tactic| ((with_reducible show CRO ..); (first | with_reducible refine cr_listL ?_ | with_reducible refine cr_listT ?_ | with_reducible refine cr_listS ?_)))
local macro_rules | `(tactic| walk_at "d1") => `(tactic| ((with_reducible show WO ..); (first | with_reducible refine wo_lst ?_ | ((with_reducible show WO _ (tOp rMulS (tLst _) _) _ _); refine wo_rep ?_) | with_reducible refine wo_op ?_ | with_reducible refine wo_cb ?_ | with_reducible refine wo_rev ?_)))
local macro_rules | `(tactic| walk_at "d1") => `(tactic| ((with_reducible show CR ..); (first | with_reducible refine cr_lenDK ?_ | with_reducible refine cr_lenDT ?_ | with_reducible refine cr_lenL ?_ | with_reducible refine cr_lenT ?_ | with_reducible refine cr_lenS ?_ | with_reducible refine cr_lenX ?_ | with_reducible refine cr_tupX ?_ | with_reducible refine cr_sumS ?_ | with_reducible refine cr_sumLi ?_ | with_reducible refine cr_sumTi ?_ | with_reducible refine cr_allB ?_ | with_reducible refine cr_anyB ?_ | with_reducible refine cr_absI ?_ | with_reducible refine cr_int_i ?_ | with_reducible refine cr_int_b ?_ | with_reducible refine CRO.cr (cr_listL ?_) | with_reducible refine CRO.cr (cr_listT ?_) | with_reducible refine CRO.cr (cr_listS ?_) | with_reducible refine cr_tupLi ?_ | with_reducible refine cr_tupS ?_ | with_reducible refine cr_tupL ?_ | with_reducible refine cr_tupT ?_)))
local macro_rules | `(tactic| walk_at "d1") => `(tactic| ((with_reducible show WB ..); (first | ((with_reducible show WB _ (tVar _) _ _); first | refine wb_own rfl ?_ | refine wb_ownK rfl ?_ | refine wb_ownT rfl ?_ | refine wb_lkT rfl (by assumption) ?_ | refine wb_wl rfl ?_) | with_reducible refine WE.wb ?_)))
local macro_rules | `(tactic| walk_at "d1") => `(tactic| ((with_reducible show WGs ..); (first | with_reducible refine wgs_cons ?_ | with_reducible refine wgs_nil ?_ | with_reducible refine wgs_consM ?_ | with_reducible refine wgs_nilM ?_); walk_at "ds"))
local macro_rules | `(tactic| walk_at "d1") => `(tactic| ((with_reducible show WT ..); (first | with_reducible refine wt_test ?_ | with_reducible refine wt_B ?_ | with_reducible refine wt_not ?_ | with_reducible refine wt_and ?_ | with_reducible refine wt_or ?_ | with_reducible refine wt_yes ?_)))
local macro_rules | `(tactic| walk_at "d1") => `(tactic| ((with_reducible show OP ..); (first | with_reducible refine op_addSI ?_ | with_reducible refine op_I0i ?_ | with_reducible refine op_I0b ?_ | with_reducible refine op_eqII ?_ | with_reducible refine op_neII ?_ | with_reducible refine op_eqBB ?_ | with_reducible refine op_neBB ?_ | with_reducible refine op_eqSS ?_ | with_reducible refine op_neSS ?_ | with_reducible refine op_isNn ?_ | with_reducible refine op_notNn ?_ | with_reducible refine op_ip ?_ | ((with_reducible show OP _ (rIx _) (D.tup _) (D.int _) _); refine op_ixT (by rfl) ?_) | ((with_reducible show OP _ (rIx _) (D.lst _) (D.int _) _); refine op_ixL (by rfl) ?_))))
local macro_rules | `(tactic| walk_at "d1") => `(tactic| ((with_reducible show WG ..); (first | with_reducible refine wg_name (by first | trivial | decide) ?_ | with_reducible refine wg_tup rfl ?_ | with_reducible refine wg_stn rfl ?_ | with_reducible refine wg_lst rfl ?_); walk_at "ds"))
local macro_rules | `(tactic| walk_at "d1") => `(tactic| ((with_reducible show WA ..); (first | with_reducible refine wa_cons ?_ | with_reducible refine wa_nil ?_)))
local macro_rules | `(tactic| walk_at "d1") => `(tactic| ((with_reducible show WS ..); (first | with_reducible refine ws_seq ?_ | with_reducible refine ws_next ?_ | with_reducible refine ws_ret ?_ | with_reducible refine ws_retN ?_ | with_reducible refine ws_if ?_ | ((with_reducible show WS _ (tDrop (tBM _ "list" _ (tVar _) _)) _ _ _ _ _); refine ws_mt rfl ?_) | ((with_reducible show WS _ (tDrop (tBM0 _ "list" _ (tVar _))) _ _ _ _ _); refine ws_mt0 rfl ?_) | ((with_reducible show WS _ (tAsg (tBM _ "list" _ (tVar _) _) (gName _)) _ _ _ _ _); refine ws_mtS rfl ?_) | ((with_reducible show WS _ (tAsg (tBM0 _ "list" _ (tVar _)) (gName _)) _ _ _ _ _); refine ws_mt0S rfl ?_) | ((with_reducible show WS _ (tAsgO (tDisp _) _) _ _ _ _ _); refine ws_setOwnK ?_) | ((with_reducible show WS _ (tAsgO tDNewK _) _ _ _ _ _); refine ws_setOwnK ?_) | ((with_reducible show WS _ (tAsgO (tDc _ _ _ _ _ _) _) _ _ _ _ _); refine ws_setOwnK ?_) | ((with_reducible show WS _ (tAsgO tDNewT _) _ _ _ _ _); refine ws_setOwnT ?_) | ((with_reducible show WS _ (tAsgO (tDispT1 _ _) _) _ _ _ _ _); refine ws_setOwnT ?_) | with_reducible refine ws_setOwn ?_ | ((with_reducible show WS _ (tAsg _ (gSub (tVar _) _ rSetL)) _ _ _ _ _); first | refine ws_setItem rfl ?_ | refine ws_setWl rfl ?_) | ((with_reducible show WS _ (tAugS (tVar _) _ _ _ _ _) _ _ _ _ _); refine ws_augItem rfl ?_) | ((with_reducible show WS _ (sDPut (tVar _) _ _) _ _ _ _ _); first | refine ws_dput rfl ?_ | refine ws_dputT rfl ?_) | ((with_reducible show WS _ (tDrop (tBM _ "dict" rUpd (tVar _) _)) _ _ _ _ _); refine ws_upd rfl ?_) | ((with_reducible show WS _ (tAsg (tCall (spDS _ _ _) _ _ _) (gName _)) _ _ _ _ _); refine ws_asgS ?_) | with_reducible refine ws_asg ?_ | with_reducible refine ws_drop ?_ | ((with_reducible show WS _ (tAug _ _ _) _ _ _ _ _); refine ws_aug rfl ?_) | with_reducible refine ws_par ?_ | with_reducible refine ws_break ?_ | with_reducible refine ws_cont ?_); walk_at "ds"))
local macro_rules | `(tactic| walk_at "d1") => `(tactic| ((with_reducible show WE ..); (first | ((with_reducible show WE _ (tVar _) _ _); refine we_var rfl ?_) | with_reducible refine we_op ?_ | with_reducible refine we_call ?_ | with_reducible refine we_int ?_ | with_reducible refine we_str ?_ | with_reducible refine we_bl ?_ | with_reducible refine we_non ?_ | with_reducible refine we_isi ?_ | with_reducible refine we_notV ?_ | with_reducible refine we_andV ?_ | with_reducible refine we_orV ?_ | with_reducible refine we_if ?_ | with_reducible refine we_chain ?_ | with_reducible refine we_un ?_ | with_reducible refine we_meth (by decide) ?_ | with_reducible refine we_tupK2 ?_ | with_reducible refine we_tup ?_ | with_reducible refine WO.we (wo_lst ?_) | with_reducible refine we_cb ?_ | ((with_reducible show WE _ (tFld _ _ "hard") _ _); refine we_hard (by assumption) ?_) | ((with_reducible show WE _ (tFld _ _ "heavy") _ _); refine we_heavy (by assumption) ?_) | ((with_reducible show WE _ (tFld _ _ "places") _ _); refine we_places (by assumption) ?_) | ((with_reducible show WE _ (tFld _ _ "told") _ _); refine we_told (by assumption) ?_) | ((with_reducible show WE _ (tFld _ _ "meets") _ _); refine we_meets (by assumption) ?_) | with_reducible refine we_din ?_ | with_reducible refine we_dnotin ?_ | ((with_reducible show WE _ (tDGet (tVar _) _) _ _); refine we_dgetL (by assumption) rfl ?_) | with_reducible refine we_dget ?_ | with_reducible refine we_idx ?_ | with_reducible refine WO.we (wo_rev ?_))))
local macro_rules | `(tactic| walk_at "dz") => `(tactic| skip)
local macro_rules | `(tactic| walk_at "dz") => `(tactic| (dsimp only [List.set, wipeR, snd_cons, snd_nil]; repeat walk_at "d1"))
local macro_rules | `(tactic| walk_at "dw") => `(tactic| (walk_at "ds"; (repeat walk_at "d1"); walk_at "dz"))
local macro_rules | `(tactic| walk_at "c1") => `(tactic| (first | ((with_reducible show Wl _ _ → _); intro _) | ((with_reducible show ∀ _ : HO, Wl _ _ → _); intro _ _)))
local macro_rules | `(tactic| walk_at "c1") => `(tactic| ((with_reducible show CI ..); (with_reducible refine c_rng1 ?_)))
local macro_rules | `(tactic| walk_at "c1") => `(tactic| ((with_reducible show CT ..); (with_reducible refine c_test ?_)))
local macro_rules | `(tactic| walk_at "c1") => `(tactic| ((with_reducible show CA ..); (first | with_reducible refine ca_cons ?_ | with_reducible refine ca_nil rfl (by assumption) ?_)))
local macro_rules | `(tactic| walk_at "c1") => `(tactic| ((with_reducible show CE ..); (first | with_reducible refine c_call rfl ?_ | with_reducible refine c_op ?_ | ((with_reducible show CE _ _ _ (tVar _) _ _); refine CE.of rfl (by assumption) ?_) | ((with_reducible show CE _ _ _ (tC _) _ _); refine CE.of rfl (by assumption) ?_) | with_reducible refine c_lst ?_ | with_reducible refine c_tup ?_)))
local macro_rules | `(tactic| walk_at "cd") => `(tactic| (walk_at "d1"))
local macro_rules | `(tactic| walk_at "cd") => `(tactic| (walk_at "c1"; walk_at "ds"))
local macro_rules | `(tactic| walk_at "cz") => `(tactic| skip)
local macro_rules | `(tactic| walk_at "cz") => `(tactic| (dsimp only [List.set, wipeR, snd_cons, snd_nil]; repeat walk_at "cd"))
local macro_rules | `(tactic| walk_at "cw") => `(tactic| (walk_at "ds"; (repeat walk_at "cd"); walk_at "cz"))

abbrev tI (ns : List Int) : D := .stn ns
abbrev lI (ns : List Int) : D := .lst (ns.map D.int)
def oD : Option Int → D
  | none => .non
  | some i => .int i
def loOk (n : Int) : Option Int → Bool
  | none => true
  | some l => decide (l ≤ n)
def hiOk (n : Int) : Option Int → Bool
  | none => true
  | some h => decide (n ≤ h)
def wholeD (x : D) (lo hi : Option Int) : Bool := match x with
  | .int n => loOk n lo && hiOk n hi
  | _ => false
def isIntD : D → Bool
  | .int _ => true
  | _ => false
theorem whole_isInt (x : D) : wholeD x none none = isIntD x := by cases x <;> rfl
theorem kb_ii : kitB "int" "int" = some true := by decide +kernel
theorem kb_ib : kitB "int" "bool" = some false := by decide +kernel
theorem kb_bi : kitB "bool" "int" = some true := by decide +kernel
theorem kb_bb : kitB "bool" "bool" = some true := by decide +kernel
theorem kb_ni : kitB "NoneType" "int" = some false := by decide +kernel
theorem kb_si : kitB "str" "int" = some false := by decide +kernel
theorem kb_li : kitB "list" "int" = some false := by decide +kernel
theorem kb_ti : kitB "tuple" "int" = some false := by decide +kernel
theorem kb_tt : kitB "tuple" "tuple" = some true := by decide +kernel
theorem kb_ll : kitB "list" "list" = some true := by decide +kernel
theorem kb_it : kitB "int" "tuple" = some false := by decide +kernel
theorem kb_nt : kitB "NoneType" "tuple" = some false := by decide +kernel
theorem kb_st : kitB "str" "tuple" = some false := by decide +kernel
theorem kb_bt : kitB "bool" "tuple" = some false := by decide +kernel
theorem kb_lt : kitB "list" "tuple" = some false := by decide +kernel
theorem at_intD {ns : List Int} {i : Nat} (h : i < ns.length) : atI (ns.map D.int) (i : Int) = some (.int (ns.getD i 0)) := by
  unfold atI
  rw [List.length_map, ix_int h]
  show (ns.map D.int)[i]? = _
  rw [List.getElem?_map, List.getElem?_eq_getElem h, List.getD_eq_getElem?_getD, List.getElem?_eq_getElem h]
  rfl
theorem at_mapD {α : Type} {f : α → D} {l : List α} {i : Nat} {x : α} (h : l[i]? = some x) : atI (l.map f) (i : Int) = some (f x) := by
  unfold atI
  rw [List.length_map, ix_int (List.getElem?_eq_some_iff.mp h).1]
  show (l.map f)[i]? = _
  rw [List.getElem?_map, h]
  rfl
section
variable {P : Program} {w : World} {K : PySem.W.Frag} {mg : Str → Option Value} {base : Heap} {C : Addr}
def cWhole : Ct := fun ds k => ∃ x lo hi, ds = [x, oD lo, oD hi] ∧ x.ty.isSome = true ∧ k (.bl (wholeD x lo hi))
abbrev s_is_whole : Stmt := topS 7
abbrev n_is_whole : List Str := ["thing", "low", "high"]
theorem sc_is_whole : FnScope ["thing", "low", "high"] ["thing", "low", "high"] (defScope s_is_whole) := ⟨rfl, rfl, rfl, by decide +kernel, rfl, by decide +kernel, by decide +kernel⟩
theorem ok_is_whole (B : Blt mg) (F : FunAt K mg "is_whole" s_is_whole ["thing", "low", "high"]) : Def P w K mg base 1 "is_whole" ["thing", "low", "high"] (spD K C cWhole) := by
  refine F.defD (n := 0) sc_is_whole (fun ds k h => by obtain ⟨_, _, _, rfl, _⟩ := h; rfl) fun f cdv A outer s H E sa F ds k hr h => ?_
  obtain ⟨x, lo, hi, rfl, hx, q⟩ := h
  refine ⟨_, (pss_cons (ps_if (PW.pt (pw_or (pt_not (pt_val (pe_callB (k_isi (K := K) rfl) (by rfl) B.isinstance bb_isinstance (pa_cons (pv 0) (pa_cons (pe_bltn (v := .ty "int") (by rfl) B.int bb_int rfl) pa_nil))))) (pw_or1 (pt_val (pe_callB (k_isi (K := K) rfl) (by rfl) B.isinstance bb_isinstance (pa_cons (pv 0) (pa_cons (pe_bltn (v := .ty "bool") (by rfl) B.bool bb_bool rfl) pa_nil))))))) (pss_one (ps_ret pe_bl)) pss_nil) (pss_one (ps_ret (pe_and (pe_or (pe_cmpR op_isN (pv 1) pe_non (nomark _)) (pe_one (pe_cmpR op_le (pv 1) (pv 0) (nomark _)))) (pe_one (pe_or (pe_cmpR op_isN (pv 2) pe_non (nomark _)) (pe_one (pe_cmpR op_le (pv 0) (pv 2) (nomark _))))))))), ?_⟩; refine start_eqR (ρ' := [some (.d (x)), some (.d (oD lo)), some (.d (oD hi))]) rfl ?_
  walk_at "dw"
  cases x with
  | int n =>
    refine ⟨_, _, rfl, kb_ii, ?_⟩
    walk_at "dw"
    refine ⟨_, _, rfl, kb_ib, ?_⟩
    walk_at "dw"
    have fin : ∀ b : Bool, k (.bl (b && hiOk n hi)) → if b = true then WE ⟨K, C, sa, F, H⟩ (tOrV (tOp (fun x y H Q => y = V.non ∧ Q (V.bl (decide (x = V.non))) H) (tVar 2) (tC V.non)) (tOp (rI0 fun i j => V.bl (decide (i ≤ j))) (tVar 0) (tVar 2))) [some (.d (.int n)), some (.d (oD lo)), some (.d (oD hi))] k else k (.bl false) := fun b qb => by
      cases b with
      | false => exact iteF qb
      | true =>
        refine iteT ?_
        rw [Bool.true_and] at qb
        cases hi with
        | none =>
          walk_at "dw"
          exact qb
        | some h =>
          walk_at "dw"
          simp only [oD]
          walk_at "dw"
          exact qb
    cases lo with
    | none => first | exact fin true q | exact s_nnT rfl ⟨true, rfl, fin true q⟩
    | some l =>
      refine s_nnF rfl ?_
      simp only [oD]
      walk_at "dw"
      exact fin _ q
  | non => exact ⟨_, _, rfl, kb_ni, by walk_at "dw"; exact q⟩
  | bl b => exact ⟨_, _, rfl, kb_bi, by walk_at "dw"; exact ⟨_, _, rfl, kb_bb, by walk_at "dw"; exact q⟩⟩
  | str b => exact ⟨_, _, rfl, kb_si, by walk_at "dw"; exact q⟩
  | lst b => exact ⟨_, _, rfl, kb_li, by walk_at "dw"; exact q⟩
  | tup b => exact ⟨_, _, rfl, kb_ti, by walk_at "dw"; exact q⟩
  | dic a b => exact ⟨_, _, rfl, kb_di, by walk_at "dw"; exact q⟩
  | dit a b => exact ⟨_, _, rfl, kb_di, by walk_at "dw"; exact q⟩
  | stn b => exact ⟨_, _, rfl, kb_ti, by walk_at "dw"; exact q⟩
  | ixt b => exact ⟨_, _, rfl, kb_ti, by walk_at "dw"; exact q⟩
  | bench b => cases hx
  | st => cases hx
  | exc _ _ _ _ => cases hx
  | lsx _ _ => cases hx
def cTn : Ct := fun ds k => ∃ s b : Int, ds = [.int s, .int b] ∧ CDivW s b ∧ k (.int (tn s b))
end
end G.Q

namespace G.Q
open PySem PySem.Spec PyProof.Rows L2
local macro_rules | `(tactic| walk_at "ds") => `(tactic| skip)
local macro_rules | `(tactic| walk_at "ds") => `(tactic| dsimp only [List.set, wipeR, snd_cons, snd_nil])
local macro_rules | `(tactic| walk_at "d1") => `(tactic| ((first | with_reducible refine key_str ?_ | with_reducible refine ⟨_, rfl, ?_⟩ | with_reducible refine ⟨_, _, rfl, ?_⟩ | ((with_reducible show List.length _ ≤ 1000 ∧ _); refine len_ok (by rfl) ?_) | ((with_reducible show if D.isN _ = true then _ else _); first | refine s_nnT (by rfl) ?_ | refine s_nnF (by rfl) ?_) | ((with_reducible show if (!D.isN _) = true then _ else _); first | refine s_mnT (by rfl) ?_ | refine s_mnF (by rfl) ?_) | with_reducible refine s_cT ?_ | with_reducible refine s_cF ?_ | with_reducible refine s_nT ?_ | with_reducible refine s_nF ?_); walk_at "ds"))
local macro_rules | `(tactic| walk_at "d1") => `(tactic| ((with_reducible show WPs ..); (first | with_reducible refine wps_cons ?_ | with_reducible refine wps_nil ?_)))
local macro_rules | `(tactic| walk_at "d1") => `(tactic| ((with_reducible show WI ..); (with_reducible refine wi_rng1 ?_)))
local macro_rules | `(tactic| walk_at "d1") => `(tactic| ((with_reducible show WV ..); (with_reducible refine WI.wv ?_)))
local macro_rules | `(tactic| walk_at "d1") => `(tactic| ((with_reducible show WP ..); (first | with_reducible refine wp_no ?_ | with_reducible refine wp_some ?_)))
local macro_rules | `(tactic| walk_at "d1") => `(tactic| ((with_reducible show WOT ..); (first | with_reducible refine wot_new ?_ | with_reducible refine wot_disp1 ?_)))
local macro_rules | `(tactic| walk_at "d1") => `(tactic| ((with_reducible show WOK ..); (first | with_reducible refine wok_new ?_ | with_reducible refine wok_disp1 ?_)))
local macro_rules | `(tactic| walk_at "d1") => `(tactic| ((with_reducible show WD ..); (first | with_reducible refine wd_tup ?_ | with_reducible refine wd_lst ?_)))
local macro_rules | `(tactic| walk_at "d1") => `(tactic| ((with_reducible show WAD ..); (first | with_reducible refine wad_cons ?_ | with_reducible refine wad_nil ?_)))
local macro_rules | `(tactic| walk_at "d1") => `(tactic| ((with_reducible show DIn ..); (first | with_reducible refine din_I ?_ | with_reducible refine din_S ?_ | with_reducible refine din_T ?_)))
local macro_rules | `(tactic| walk_at "d1") => `(tactic| ((with_reducible show DGt ..); (first | with_reducible refine dgp_hard ?_ | with_reducible refine dgp_wide ?_ | with_reducible refine dgp_rows ?_ | with_reducible refine dgp_pairs ?_ | with_reducible refine dgp_many ?_ | with_reducible refine dg_hard ?_ | with_reducible refine dg_places ?_ | with_reducible refine dg_told ?_ | with_reducible refine dg_heavy ?_ | with_reducible refine dg_meets ?_)))
local macro_rules | `(tactic| walk_at "d1") => `(tactic| ((with_reducible show OU ..); (with_reducible refine ou_neg ?_)))
local macro_rules | `(tactic| walk_at "d1") => `(tactic| ((with_reducible show WAB ..); (first | with_reducible refine wab_cons ?_ | with_reducible refine wab_nil ?_)))
local macro_rules | `(tactic| walk_at "d1") => `(tactic| ((with_reducible show CRO ..); (first | with_reducible refine cr_listL ?_ | with_reducible refine cr_listT ?_ | with_reducible refine cr_listS ?_)))
local macro_rules | `(tactic| walk_at "d1") => `(tactic| ((with_reducible show WO ..); (first | with_reducible refine wo_lst ?_ | ((with_reducible show WO _ (tOp rMulS (tLst _) _) _ _); refine wo_rep ?_) | with_reducible refine wo_op ?_ | with_reducible refine wo_cb ?_ | with_reducible refine wo_rev ?_)))
local macro_rules | `(tactic| walk_at "d1") => `(tactic| ((with_reducible show CR ..); (first | with_reducible refine cr_lenDK ?_ | with_reducible refine cr_lenDT ?_ | with_reducible refine cr_lenL ?_ | with_reducible refine cr_lenT ?_ | with_reducible refine cr_lenS ?_ | with_reducible refine cr_lenX ?_ | with_reducible refine cr_tupX ?_ | with_reducible refine cr_sumS ?_ | with_reducible refine cr_sumLi ?_ | with_reducible refine cr_sumTi ?_ | with_reducible refine cr_allB ?_ | with_reducible refine cr_anyB ?_ | with_reducible refine cr_absI ?_ | with_reducible refine cr_int_i ?_ | with_reducible refine cr_int_b ?_ | with_reducible refine CRO.cr (cr_listL ?_) | with_reducible refine CRO.cr (cr_listT ?_) | with_reducible refine CRO.cr (cr_listS ?_) | with_reducible refine cr_tupLi ?_ | with_reducible refine cr_tupS ?_ | with_reducible refine cr_tupL ?_ | with_reducible refine cr_tupT ?_)))
local macro_rules | `(tactic| walk_at "d1") => `(tactic| ((with_reducible show WB ..); (first | ((with_reducible show WB _ (tVar _) _ _); first | refine wb_own rfl ?_ | refine wb_ownK rfl ?_ | refine wb_ownT rfl ?_ | refine wb_lkT rfl (by assumption) ?_ | refine wb_wl rfl ?_) | with_reducible refine WE.wb ?_)))
local macro_rules | `(tactic| walk_at "d1") => `(tactic| ((with_reducible show WGs ..); (first | with_reducible refine wgs_cons ?_ | with_reducible refine wgs_nil ?_ | with_reducible refine wgs_consM ?_ | with_reducible refine wgs_nilM ?_); walk_at "ds"))
local macro_rules | `(tactic| walk_at "d1") => `(tactic| ((with_reducible show WT ..); (first | with_reducible refine wt_test ?_ | with_reducible refine wt_B ?_ | with_reducible refine wt_not ?_ | with_reducible refine wt_and ?_ | with_reducible refine wt_or ?_ | with_reducible refine wt_yes ?_)))
local macro_rules | `(tactic| walk_at "d1") => `(tactic| ((with_reducible show OP ..); (first | with_reducible refine op_addSI ?_ | with_reducible refine op_I0i ?_ | with_reducible refine op_I0b ?_ | with_reducible refine op_eqII ?_ | with_reducible refine op_neII ?_ | with_reducible refine op_eqBB ?_ | with_reducible refine op_neBB ?_ | with_reducible refine op_eqSS ?_ | with_reducible refine op_neSS ?_ | with_reducible refine op_isNn ?_ | with_reducible refine op_notNn ?_ | with_reducible refine op_ip ?_ | ((with_reducible show OP _ (rIx _) (D.tup _) (D.int _) _); refine op_ixT (by rfl) ?_) | ((with_reducible show OP _ (rIx _) (D.lst _) (D.int _) _); refine op_ixL (by rfl) ?_))))
local macro_rules | `(tactic| walk_at "d1") => `(tactic| ((with_reducible show WG ..); (first | with_reducible refine wg_name (by first | trivial | decide) ?_ | with_reducible refine wg_tup rfl ?_ | with_reducible refine wg_stn rfl ?_ | with_reducible refine wg_lst rfl ?_); walk_at "ds"))
local macro_rules | `(tactic| walk_at "d1") => `(tactic| ((with_reducible show WA ..); (first | with_reducible refine wa_cons ?_ | with_reducible refine wa_nil ?_)))
local macro_rules | `(tactic| walk_at "d1") => `(tactic| ((with_reducible show WS ..); (first | with_reducible refine ws_seq ?_ | with_reducible refine ws_next ?_ | with_reducible refine ws_ret ?_ | with_reducible refine ws_retN ?_ | with_reducible refine ws_if ?_ | ((with_reducible show WS _ (tDrop (tBM _ "list" _ (tVar _) _)) _ _ _ _ _); refine ws_mt rfl ?_) | ((with_reducible show WS _ (tDrop (tBM0 _ "list" _ (tVar _))) _ _ _ _ _); refine ws_mt0 rfl ?_) | ((with_reducible show WS _ (tAsg (tBM _ "list" _ (tVar _) _) (gName _)) _ _ _ _ _); refine ws_mtS rfl ?_) | ((with_reducible show WS _ (tAsg (tBM0 _ "list" _ (tVar _)) (gName _)) _ _ _ _ _); refine ws_mt0S rfl ?_) | ((with_reducible show WS _ (tAsgO (tDisp _) _) _ _ _ _ _); refine ws_setOwnK ?_) | ((with_reducible show WS _ (tAsgO tDNewK _) _ _ _ _ _); refine ws_setOwnK ?_) | ((with_reducible show WS _ (tAsgO (tDc _ _ _ _ _ _) _) _ _ _ _ _); refine ws_setOwnK ?_) | ((with_reducible show WS _ (tAsgO tDNewT _) _ _ _ _ _); refine ws_setOwnT ?_) | ((with_reducible show WS _ (tAsgO (tDispT1 _ _) _) _ _ _ _ _); refine ws_setOwnT ?_) | with_reducible refine ws_setOwn ?_ | ((with_reducible show WS _ (tAsg _ (gSub (tVar _) _ rSetL)) _ _ _ _ _); first | refine ws_setItem rfl ?_ | refine ws_setWl rfl ?_) | ((with_reducible show WS _ (tAugS (tVar _) _ _ _ _ _) _ _ _ _ _); refine ws_augItem rfl ?_) | ((with_reducible show WS _ (sDPut (tVar _) _ _) _ _ _ _ _); first | refine ws_dput rfl ?_ | refine ws_dputT rfl ?_) | ((with_reducible show WS _ (tDrop (tBM _ "dict" rUpd (tVar _) _)) _ _ _ _ _); refine ws_upd rfl ?_) | ((with_reducible show WS _ (tAsg (tCall (spDS _ _ _) _ _ _) (gName _)) _ _ _ _ _); refine ws_asgS ?_) | with_reducible refine ws_asg ?_ | with_reducible refine ws_drop ?_ | ((with_reducible show WS _ (tAug _ _ _) _ _ _ _ _); refine ws_aug rfl ?_) | with_reducible refine ws_par ?_ | with_reducible refine ws_break ?_ | with_reducible refine ws_cont ?_); walk_at "ds"))
local macro_rules | `(tactic| walk_at "d1") => `(tactic| ((with_reducible show WE ..); (first | ((with_reducible show WE _ (tVar _) _ _); refine we_var rfl ?_) | with_reducible refine we_op ?_ | with_reducible refine we_call ?_ | with_reducible refine we_int ?_ | with_reducible refine we_str ?_ | with_reducible refine we_bl ?_ | with_reducible refine we_non ?_ | with_reducible refine we_isi ?_ | with_reducible refine we_notV ?_ | with_reducible refine we_andV ?_ | with_reducible refine we_orV ?_ | with_reducible refine we_if ?_ | with_reducible refine we_chain ?_ | with_reducible refine we_un ?_ | with_reducible refine we_meth (by decide) ?_ | with_reducible refine we_tupK2 ?_ | with_reducible refine we_tup ?_ | with_reducible refine WO.we (wo_lst ?_) | with_reducible refine we_cb ?_ | ((with_reducible show WE _ (tFld _ _ "hard") _ _); refine we_hard (by assumption) ?_) | ((with_reducible show WE _ (tFld _ _ "heavy") _ _); refine we_heavy (by assumption) ?_) | ((with_reducible show WE _ (tFld _ _ "places") _ _); refine we_places (by assumption) ?_) | ((with_reducible show WE _ (tFld _ _ "told") _ _); refine we_told (by assumption) ?_) | ((with_reducible show WE _ (tFld _ _ "meets") _ _); refine we_meets (by assumption) ?_) | with_reducible refine we_din ?_ | with_reducible refine we_dnotin ?_ | ((with_reducible show WE _ (tDGet (tVar _) _) _ _); refine we_dgetL (by assumption) rfl ?_) | with_reducible refine we_dget ?_ | with_reducible refine we_idx ?_ | with_reducible refine WO.we (wo_rev ?_))))
local macro_rules | `(tactic| walk_at "dz") => `(tactic| skip)
local macro_rules | `(tactic| walk_at "dz") => `(tactic| (dsimp only [List.set, wipeR, snd_cons, snd_nil]; repeat walk_at "d1"))
local macro_rules | `(tactic| walk_at "dw") => `(tactic| (walk_at "ds"; (repeat walk_at "d1"); walk_at "dz"))
local macro_rules | `(tactic| walk_at "c1") => `(tactic| (first | ((with_reducible show Wl _ _ → _); intro _) | ((with_reducible show ∀ _ : HO, Wl _ _ → _); intro _ _)))
local macro_rules | `(tactic| walk_at "c1") => `(tactic| ((with_reducible show CI ..); (with_reducible refine c_rng1 ?_)))
local macro_rules | `(tactic| walk_at "c1") => `(tactic| ((with_reducible show CT ..); (with_reducible refine c_test ?_)))
local macro_rules | `(tactic| walk_at "c1") => `(tactic| ((with_reducible show CA ..); (first | with_reducible refine ca_cons ?_ | with_reducible refine ca_nil rfl (by assumption) ?_)))
local macro_rules | `(tactic| walk_at "c1") => `(tactic| ((with_reducible show CE ..); (first | with_reducible refine c_call rfl ?_ | with_reducible refine c_op ?_ | ((with_reducible show CE _ _ _ (tVar _) _ _); refine CE.of rfl (by assumption) ?_) | ((with_reducible show CE _ _ _ (tC _) _ _); refine CE.of rfl (by assumption) ?_) | with_reducible refine c_lst ?_ | with_reducible refine c_tup ?_)))
local macro_rules | `(tactic| walk_at "cd") => `(tactic| (walk_at "d1"))
local macro_rules | `(tactic| walk_at "cd") => `(tactic| (walk_at "c1"; walk_at "ds"))
local macro_rules | `(tactic| walk_at "cz") => `(tactic| skip)
local macro_rules | `(tactic| walk_at "cz") => `(tactic| (dsimp only [List.set, wipeR, snd_cons, snd_nil]; repeat walk_at "cd"))
local macro_rules | `(tactic| walk_at "cw") => `(tactic| (walk_at "ds"; (repeat walk_at "cd"); walk_at "cz"))

def taking (B : BD) (hs : List Int) : List Int := ((List.range B.meets.length).filter fun k => takesOff B.heavy hs (B.meets.getD k [])).map fun (k : Nat) => (k : Int)
def natL (ks : List Nat) : List Int := ks.map fun (k : Nat) => (k : Int)
/-- heights behind a row of grindings, and its dusts -/
def runH (w : List Int) (ms : List (List (Nat × Nat))) : List Int → List Nat → List Int
  | hs, [] => hs
  | hs, k :: ks => runH w ms (after w hs (ms.getD k [])) ks
def runD (w : List Int) (ms : List (List (Nat × Nat))) : List Int → List Nat → List (List Int)
  | _, [] => []
  | hs, k :: ks => dust w hs (ms.getD k []) :: runD w ms (after w hs (ms.getD k [])) ks
section
variable {P : Program} {w : World} {K : PySem.W.Frag} {mg : Str → Option Value} {base : Heap} {C : Addr}
def cWholes : Ct := fun ds k => ∃ x, ∃ m : Int, ds = [x, .int m] ∧ ((∃ j l, isSq x = some (j, l) ∧ x.ty = some "tuple" ∧ l.length ≤ 1000 ∧ (∀ d ∈ l, d.ty.isSome = true) ∧ k (.bl (decide ((l.length : Int) = m) && l.all isIntD))) ∨ (x.ty.isSome = true ∧ x.ty ≠ some "tuple" ∧ k (.bl false)))
abbrev s_are_wholes : Stmt := topS 8
abbrev n_are_wholes : List Str := ["thing", "many", "one"]
theorem sc_are_wholes : FnScope ["thing", "many", "one"] ["thing", "many"] (defScope s_are_wholes) := ⟨rfl, rfl, rfl, by decide +kernel, rfl, by decide +kernel, by decide +kernel⟩
theorem ok_are_wholes (B : Blt mg) (d_is_whole : Def P w K mg base 1 "is_whole" ["thing", "low", "high"] (spD K C cWhole)) (F : FunAt K mg "are_wholes" s_are_wholes ["thing", "many"]) : Def P w K mg base 2 "are_wholes" ["thing", "many"] (spD K C cWholes) := by
  refine F.defD (n := 1) sc_are_wholes (fun ds k h => by obtain ⟨_, _, rfl, _⟩ := h; rfl) fun f cdv A outer s H E sa F ds k hr h => ?_
  obtain ⟨x, m, rfl, h⟩ := h
  refine ⟨_, (pss_one (ps_ret (pe_and (pe_callB (k_isi (K := K) rfl) (by rfl) B.isinstance bb_isinstance (pa_cons (pv 0) (pa_cons (pe_bltn (v := .ty "tuple") (by rfl) B.tuple bb_tuple rfl) pa_nil))) (pe_and (pe_cmpR (k_eq (K := K) rfl hr.units) (pe_callB (k_len (K := K) rfl) (by rfl) B.len bb_len (pa_cons (pv 0) pa_nil)) (pv 1) (nomark _)) (pe_one (pe_callB (k_all (K := K) rfl rfl) (by rfl) B.all bb_all (pa_cons (pe_lc (own := [("one", 2)]) rfl sc_are_wholes.nd (k_seq (K := K) rfl (pv 0)) (blkOk_by (own := [("one", 2)]) (N := n_are_wholes) (sc := defScope s_are_wholes) (by decide +kernel)) (fun _ _ _ _ _ => (pg_name (i := 2) sc_are_wholes.nd rfl (Or.inl rfl))) (fun _ _ _ _ _ => pts_nil) (fun _ _ _ _ _ => (pe_d d_is_whole (hr.mono (by decide)) (by rfl) (pa_cons (pv 2) (pa_cons pe_non (pa_cons pe_non pa_nil)))))) pa_nil))))))), ?_⟩; refine start_eqR (ρ' := [some (.d (x)), some (.d (.int m)), none]) rfl ?_
  walk_at "dw"
  rcases h with ⟨j, l, hj, hty, hl, ht, q⟩ | ⟨ht, hn, q⟩
  · refine ⟨_, _, hty, kb_tt, ?_⟩
    walk_at "dw"
    refine cr_lenQ hj ?_
    walk_at "dw"
    refine s_d2 (fun e => ?_) (fun e => ?_)
    · rw [decide_eq_true e, Bool.true_and] at q
      walk_at "dw"
      refine WO.we (wo_lc (α := D) (WI.wv (wi_sq ?_)))
      walk_at "dw"
      refine ⟨j, l, hj, ?_⟩
      refine ⟨by omega, l, id, fun d => .bl (isIntD d), (List.map_id _).symm, fun d hd => ?_, ?_⟩
      · walk_at "dw"
        refine ⟨d, none, none, rfl, ht d hd, ?_⟩
        rw [whole_isInt]
      · rw [show l.map (fun d => D.bl (isIntD d)) = (l.map isIntD).map D.bl by rw [List.map_map]; rfl]
        walk_at "dw"
        rw [List.all_map]
        exact q
    · rw [decide_eq_false e] at q
      exact q
  · cases x with
    | tup l => exact absurd rfl hn
    | int n => exact ⟨_, _, rfl, kb_it, by walk_at "dw"; exact q⟩
    | non => exact ⟨_, _, rfl, kb_nt, by walk_at "dw"; exact q⟩
    | bl b => exact ⟨_, _, rfl, kb_bt, by walk_at "dw"; exact q⟩
    | str b => exact ⟨_, _, rfl, kb_st, by walk_at "dw"; exact q⟩
    | lst b => exact ⟨_, _, rfl, kb_lt, by walk_at "dw"; exact q⟩
    | dic a b => exact ⟨_, _, rfl, kb_dt, by walk_at "dw"; exact q⟩
    | dit a b => exact ⟨_, _, rfl, kb_dt, by walk_at "dw"; exact q⟩
    | stn b => exact absurd rfl hn
    | ixt b => exact absurd rfl hn
    | bench b => cases ht
    | st => cases ht
    | exc _ _ _ _ => cases ht
    | lsx _ _ => cases ht
def cPW : Ct := fun ds k => ∃ B, ∃ p : Nat × Nat, ds = [.bench B, pDD p] ∧ p.1 < B.heavy.length ∧ p.2 < B.heavy.length ∧ k (.tup [.int (B.heavy.getD p.1 0), .int (B.heavy.getD p.2 0)])
def cGrains : Ct := fun ds k => ∃ B hs, ∃ p : Nat × Nat, ds = [.bench B, tI hs, pDD p] ∧ BOk B ∧ hs.length = B.heavy.length ∧ p.1 < B.heavy.length ∧ p.2 < B.heavy.length ∧ k (.int (grain B.heavy hs p))
def cDust : Ct := fun ds k => ∃ B hs r, ∃ n : Nat, ds = [.bench B, tI hs, .int n] ∧ BOk B ∧ hs.length = B.heavy.length ∧ B.meets[n]? = some r ∧ k (tI (dust B.heavy hs r))
def cTaken : Ct := fun ds k => ∃ B hs, ∃ (r : List (Nat × Nat)) (gs : List Int), ds = [.bench B, tI hs, .lst (r.map pDD), tI gs] ∧ BOk B ∧ hs.length = B.heavy.length ∧ (∀ p ∈ r, p.1 < B.heavy.length ∧ p.2 < B.heavy.length) ∧ gs.length = r.length ∧ k (tI (takeAll B.heavy hs r gs))
end
end G.Q

namespace G
open PySem PySem.Spec PyProof.Rows L2
/-! ### try .. except x as n: .. (others behind it), where x's clause takes it -/
def wFst (K : PySem.W.Frag) (c : Value) (i : Nat) (ts : Addr → Value → Option Addr → TS) (D : Ends) : WX := fun cls d σ H =>
  PySem.W.exmOne K cls c = some true ∧ ∀ a, H a = none → ts a cls d ⟨fun σ' H' => D.nx (σ'.set i none) H', D.rt, fun σ' H' => D.bk (σ'.set i none) H', fun σ' H' => D.ct (σ'.set i none) H'⟩ (σ.set i (some (.ref a))) H
section
variable {X : Cx} {x n : Str} {c : Value} {i : Nat} {bd st : List Stmt} {s0 : Stmt} {q1 q2 q3 : Pos} {more : List ExceptHandler} {tb : WX → TS} {ts : Addr → Value → Option Addr → TS}
end
/-! ### Base.__init__(self, ..), Base an own class over ValueError without an __init__ of its own -/
structure GeC (K : PySem.W.Frag) (mg : Str → Option Value) (x : Str) (Gb : Addr) : Prop where
  m : mg x = some (.ref Gb)
  k : PySem.W.keepIn K (.ref Gb) = true
  sp : PySem.W.specialIn K (.ref Gb) "__getattribute__" = some (some (.builtin "type.__getattribute__"))
  rd : PySem.W.readsIn K Gb (.type "type") = true
  fd : PySem.W.findCls K (.ref Gb) (.type "type") "__init__" = some (.val (.builtin "ValueError.__init__"))
section
variable {X : Cx} {e : Expr} {es : List Expr} {ta : TA} {p1 p2 pos : Pos} {x : Str} {Gb : Addr}
theorem pe_geinit {pl : Sem Bool} (C : GeC X.K X.mg x Gb) (hg : Gl X x) (ha : PA X (e :: es) ta)
    (hc : eval (.Call (.Attribute (.Name x p1) "__init__" p2) (e :: es) [] pos) X.env = (do
      let ov ← eval (.Name x p1) X.env
      standAt p2.atName
      let (f, first) ← holding [ov] (getMethod ov "__init__" pl)
      callWith pos f first (backTo pos (starEach (e :: es) X.env)) (backToKw pos (keywordEach [] X.env))) := by rfl)
    (hdb : (x == ("__debug__" : Str)) = false := by decide) (he : starEach (e :: es) X.env = (false, eval e X.env) :: starEach es X.env := by rfl) (hpl : (backTo pos (starEach es X.env)).any (·.1) = false := by rfl) :
    PE X (.Call (.Attribute (.Name x p1) "__init__" p2) (e :: es) [] pos) (tVeI X.K ta) := by
  refine ⟨fun pins s σ H Q I h => PySem.W.methodCall_KW (ld_glob I hg C.m ?_ hdb) hc⟩
  refine PySem.W.method_cls I.kIn C.sp (PySem.W.cls_value I.kIn C.rd C.fd (by decide +kernel) ?_)
  show wpAny _ _ (callWith pos (Value.builtin "ValueError.__init__") [] (backTo pos (starEach (e :: es) X.env)) []) _ _ _
  refine PyProof.Rows.callWith_method1 (thn (ha.run pos pins _ σ H _ (I.tok _) h) fun us t ⟨vs, H1, I1, r1, a, D, ws, ev, hl, T, ea, q⟩ => ?_) he hpl
  subst ev
  cases r1 with
  | @cons _ u0 _ ur r2 r3 =>
    cases (show u0 = Value.ref a from r2)
    exact oinit_ok T I1 ea (by rw [← Paired.length r3, sizeLine_eq]; omega) fun t' J => ⟨.non, H1, J, rfl, q⟩
end
end G

namespace G
open PySem PySem.Spec PyProof.Rows L2
/-! ### defs that may raise -/
section
variable {P : Program} {w : World} {K : PySem.W.Frag} {mg : Str → Option Value} {base : Heap}
structure DefX (P : Program) (w : World) (K : PySem.W.Frag) (mg : Str → Option Value) (base : Heap) (k : Nat) (x : Str) (ps : List Str) (sp : Sp) : Prop where
  ex : ∃ f fd, FnOk P w K mg base (L2.CX P w) k f fd ps sp ∧ Binds K fd ps [] ∧ mg x = some (.ref f) ∧ PySem.W.keepIn K (.ref f) = true
structure DefMX (P : Program) (w : World) (K : PySem.W.Frag) (mg : Str → Option Value) (base : Heap) (k : Nat) (C : Addr) (m : Str) (ps : List Str) (sp : Sp) : Prop where
  ex : ∃ f fd, FnOk P w K mg base (L2.CX P w) k f fd ps sp ∧ Binds K fd ps [] ∧ Meth K C m f
end
section
variable {X : Cx} {W : WX} {k : Nat} {x : Str} {ps : List Str} {sp : Sp} {e : Expr} {es : List Expr} {t : TA} {p pos : Pos}
end
/-! ### isinstance of a caught exception -/
structure ExcK (K : PySem.W.Frag) (D : Addr) : Prop where
  c : ExcC K D
  cl : (PySem.W.clsIn K D).isSome = true
/-- isinstance(e, c) and isinstance(e, (c, ..)), e the exception that the suite holds -/
def rIsX (K : PySem.W.Frag) (cls : Value) (d : Option Addr) (a : Addr) : List V → Hp → VK → Prop := fun xs H Q => ∃ D, cls = .ref D ∧ ExcK K D ∧ (d = none ∨ ∃ dd fs, d = some dd ∧ H dd = some (.xd fs)) ∧
  ((∃ c u b, xs = [.ref a, c] ∧ ClsV c u ∧ PySem.W.kitOne K (.ref D) u = some b ∧ Q (.bl b) H) ∨ (∃ tp cs us b, xs = [.ref a, .ref tp] ∧ H tp = some (.tup cs) ∧ Paired ClsV cs us ∧ PySem.W.kitAny K (.ref D) us = some b ∧ Q (.bl b) H))
theorem call_isX {X : Cx} {a : Addr} {cls : Value} {d : Option Addr} {oe : Obj} {pn : List (Addr × Obj)} (hz : Zc cls d oe) (hf : ∃ vs, oe.data = .fields vs) : CallR (X.suite a ((a, oe) :: pn)) (.builtin "isinstance") (rIsX X.K cls d a) := by
  intro pins s σ H xs us Q I r h
  obtain ⟨D, rfl, ⟨C, cl⟩, hd, h⟩ := h
  obtain ⟨hget, _⟩ := I.pin (a, oe) (List.mem_append.mpr (.inl List.mem_cons_self))
  obtain ⟨vs, hv⟩ := hf
  have J : ∃ od, PySem.W.InstAt s.heap a oe D od := by
    obtain ⟨oc, odd, oda, osl⟩ := oe
    obtain ⟨h1, h2⟩ := hz
    dsimp only at h1 h2 hv
    subst h1 h2 hv
    rcases hd with rfl | ⟨dd, fs, rfl, hdd⟩
    · exact ⟨none, hget, rfl, rfl, trivial⟩
    · obtain ⟨_, ⟨od, _, _, e, _⟩, _⟩ := (show ObjOk X.prog X.w H s.heap dd (.xd fs) from I.hok dd _ hdd)
      exact ⟨some od, hget, rfl, rfl, e⟩
  obtain ⟨od, J⟩ := J
  have Z := PySem.W.kitx_exc (x := a) (ox := oe) (od := od) cl C.hg C.hk C.hs C.ha C.hn C.ht C.hm
  rcases h with ⟨c, u, b, rfl, k, e, q⟩ | ⟨tp, cs, ws, b, rfl, hT, k, e, q⟩
  · obtain ⟨u1, u2, rfl, r1, r2⟩ := vals2 r
    cases (show u1 = Value.ref a from r1)
    have e2 := k.eq r2
    subst e2
    exact PySem.W.kia_one Z I.kIn J e (fun z => nomatch z) fun tk => ⟨.bl b, H, I.tok tk, rfl, q⟩
  · obtain ⟨u1, u2, rfl, r1, r2⟩ := vals2 r
    cases (show u1 = Value.ref a from r1)
    cases (show u2 = Value.ref tp from r2)
    obtain ⟨_, its, rv, o, h1, h2, n, h3⟩ := (show ObjOk X.prog X.w H s.heap tp (.tup cs) from I.hok tp _ hT)
    have e3 := ClsV.all k rv
    subst e3
    obtain ⟨oc, od, dt, sl⟩ := o
    simp only at h2 h3
    subst h2 h3
    exact PySem.W.kia_tup Z I.kIn J h1 e (fun z => nomatch z) fun tk => ⟨.bl b, H, I.tok tk, rfl, q⟩
end G

namespace G
open PySem PySem.Spec PyProof.Rows L2
/-! ### what is raised -/
structure Xc where
  cls : Addr
  ns : List Str
  l : List D
/-- an exception in flight: its class, its fields -/
inductive RX (K : PySem.W.Frag) (C : Addr) (st : Option Addr) (F : Hp) : Value → Option Addr → Xc → Prop
  | no {c : Addr} : RX K C st F (.ref c) none ⟨c, [], []⟩
  | fs {c dd : Addr} {ns : List Str} {vs : List V} {ds : List D} : F dd = some (.xd (ns.zip vs)) → ns.length = vs.length → RA K C st F vs ds → RX K C st F (.ref c) (some dd) ⟨c, ns, ds⟩
theorem RX.mono {K : PySem.W.Frag} {C : Addr} {st : Option Addr} {F F' : Hp} {cls : Value} {d : Option Addr} {x : Xc} (e : L2.Same F F') (h : RX K C st F cls d x) : RX K C st F' cls d x := by
  cases h with
  | no => exact .no
  | fs a b c => exact .fs (e _ _ a) b (c.mono e)
theorem RX.exc {K : PySem.W.Frag} {C : Addr} {st : Option Addr} {F : Hp} {cls : Value} {d : Option Addr} {x : Xc} {a : Addr} (h : RX K C st F cls d x) : cls = .ref x.cls ∧ R K C st F (.ref a) (.exc a d x.ns x.l) := by
  cases h with
  | no => exact ⟨rfl, .exc0⟩
  | fs h1 h2 h3 => exact ⟨rfl, .exc h1 h2 h3⟩
abbrev CtX := List D → (D → Prop) → (Xc → Prop) → Prop
def spDX (K : PySem.W.Frag) (C : Addr) (c : CtX) : L2.Sp := fun vs H Q E => ∃ st F ds k kx, Gd K st F H ∧ RA K C st F vs ds ∧ c ds k kx ∧ (∀ v d F' H', XE K st F H F' H' → R K C st F' v d → k d → Q v H') ∧ ∀ cls d x F' H', XE K st F H F' H' → RX K C st F' cls d x → kx x → E cls d H'
section
open L2
variable {P : Program} {w : World} {K : PySem.W.Frag} {mg : Str → Option Value} {base : Heap} {C : Addr}
end
section
open L2
variable {M : Cm} {ρ : Rho} {k : D → Prop} {nx bk ct : Rho → Prop} {rt : Sl → Rho → Prop} {tr : TA} {te ta : TE} {i : Nat}
/-- what is raised within a frame is taken by W -/
def WOk (M : Cm) (W : WX) (kx : Xc → Rho → Prop) : Prop := ∀ (ρ' : Rho) (σ : L2.St) F H cls d x, Fr M ρ' σ F H → RX M.K M.C M.st F cls d x → kx x ρ' → W cls d σ H
/-- the frame's own end -/
theorem wok_end {E : XK} {kx : Xc → Prop} (h : ∀ cls d x F' H', XE M.K M.st M.F0 M.H0 F' H' → RX M.K M.C M.st F' cls d x → kx x → E cls d H') : WOk M (fun cls d _ H => E cls d H) (fun x _ => kx x) := fun _ _ F H cls d x e r q => h cls d x F H e.x r q
/-- self.f = thing behind Base.__init__ -/
def spXI (K : PySem.W.Frag) (f : Str) : Sp := fun vs H Q _ => ∃ a C y, vs = [.ref a, y] ∧ OexC K C ∧ PySem.W.findIn K (.ref C) f = some none ∧ H a = some (exo a C none) ∧ ∀ dx, H dx = none → dx ≠ a → Q .non (upd (upd H dx (exd dx [(f, y)])) a (exo a C (some dx)))
/-- data alone in the slots -/
def plainR (ρ : Rho) : Bool := ρ.all fun o => match o with
  | none => true
  | some (.d _) => true
  | _ => false
theorem Fr.re {σ : L2.St} {F H : Hp} (pl : plainR ρ = true) (e : Fr M ρ σ F H) : Fr ⟨M.K, M.C, M.st, F, H⟩ ρ σ F H := by
  have key : ∀ (i : Nat) s, ρ[i]? = some (some s) → ∃ d, s = .d d := fun i s h => by
    have := List.all_eq_true.mp pl _ (List.mem_of_getElem? h)
    cases s with
    | d x => exact ⟨x, rfl⟩
    | _ => cases this
  refine ⟨XE.refl e.gd, e.len, fun i s h => ?_, fun a b s t _ ha _ ma _ => ?_⟩
  · obtain ⟨v, h1, h2⟩ := e.each i s h
    obtain ⟨d, rfl⟩ := key i s h
    exact ⟨v, h1, h2⟩
  · obtain ⟨d, rfl⟩ := key a s ha
    cases ma
theorem Fr.base {σ : L2.St} {F1 H1 F H : Hp} (x : XM M M.F0 M.H0 F1 H1) (e : Fr ⟨M.K, M.C, M.st, F1, H1⟩ ρ σ F H) : Fr M ρ σ F H :=
  ⟨x.trans e.x, e.len, fun i s h => by
    obtain ⟨v, h1, h2⟩ := e.each i s h
    exact ⟨v, h1, SR.base x.ext.hh h2⟩, e.dist⟩
/-- the suite of a clause with a name -/
def WH (M : Cm) (i : Nat) (c : Value) (ts : Addr → Value → Option Addr → TS) (kx : Xc → Rho → Prop) (nx : Rho → Prop) (rt : Sl → Rho → Prop) (bk ct : Rho → Prop) : Prop :=
  ∀ x ρ', kx x ρ' → PySem.W.exmOne M.K (.ref x.cls) c = some true ∧ ∀ a d, WS M (ts a (.ref x.cls) d) (ρ'.set i (some (.d (.exc a d x.ns x.l)))) (fun ρ2 => nx (ρ2.set i none)) rt (fun ρ2 => bk (ρ2.set i none)) (fun ρ2 => ct (ρ2.set i none))
theorem wh_run {ts : Addr → Value → Option Addr → TS} {c : Value} {kx : Xc → Rho → Prop} {σ : L2.St} {F H : Hp} {E : Ends} (e : Fr M ρ σ F H) (hx : WH ⟨M.K, M.C, M.st, F, H⟩ i c ts kx nx rt bk ct)
    (f1 : ∀ ρ' σ' F' H', Same F F' → Fr M ρ' σ' F' H' → nx ρ' → E.nx σ' H') (f2 : ∀ v s ρ' σ' F' H', Fr M ρ' σ' F' H' → SR M F' H' v s → rt s ρ' → E.rt v H') (f3 : ∀ ρ' σ' F' H', Same F F' → Fr M ρ' σ' F' H' → bk ρ' → E.bk σ' H') (f4 : ∀ ρ' σ' F' H', Same F F' → Fr M ρ' σ' F' H' → ct ρ' → E.ct σ' H')
    {ρ' : Rho} {σ' : L2.St} {F' H' : Hp} {cls : Value} {d : Option Addr} {x : Xc} (e' : Fr ⟨M.K, M.C, M.st, F, H⟩ ρ' σ' F' H') (r : RX M.K M.C M.st F' cls d x) (q : kx x ρ') : PySem.W.exmOne M.K cls c = some true ∧ ∀ a, H' a = none → ts a cls d ⟨fun σ' H' => E.nx (σ'.set i none) H', E.rt, fun σ' H' => E.bk (σ'.set i none) H', fun σ' H' => E.ct (σ'.set i none) H'⟩ (σ'.set i (some (.ref a))) H' := by
  obtain ⟨h1, h2⟩ := hx x ρ' q
  obtain ⟨rfl, _⟩ := r.exc (a := 0)
  refine ⟨h1, fun a _ => ?_⟩
  have sm : Same F F' := e'.x.ff
  refine h2 a d _ F' H' _ (e'.put (r.exc (a := a)).2) (fun ρ2 σ2 F2 H2 s2 e2 z => ?_) (fun v s ρ2 σ2 F2 H2 e2 rs z => ?_) (fun ρ2 σ2 F2 H2 s2 e2 z => ?_) (fun ρ2 σ2 F2 H2 s2 e2 z => ?_)
  · exact f1 _ _ F2 H2 (sm.trans s2) (Fr.base e.x (e2.drop i)) z
  · exact f2 v s ρ2 σ2 F2 H2 (Fr.base e.x e2) (SR.base e.x.ext.hh rs) z
  · exact f3 _ _ F2 H2 (sm.trans s2) (Fr.base e.x (e2.drop i)) z
  · exact f4 _ _ F2 H2 (sm.trans s2) (Fr.base e.x (e2.drop i)) z
/-- try: .. except x as n: .., alone -/
theorem ws_tryA {tb : WX → TS} {ts : Addr → Value → Option Addr → TS} {c : Value} {Wout : WX} (kx : Xc → Rho → Prop) (pl : plainR ρ = true)
    (hb : ∀ F1 H1 W, WOk ⟨M.K, M.C, M.st, F1, H1⟩ W kx → WS ⟨M.K, M.C, M.st, F1, H1⟩ (tb W) ρ nx rt bk ct) (hx : ∀ F1 H1, WH ⟨M.K, M.C, M.st, F1, H1⟩ i c ts kx nx rt bk ct) : WS M (fun D σ H => tb (wAs M.K c i ts Wout D) D σ H) ρ nx rt bk ct := fun σ F H E e f1 f2 f3 f4 =>
  hb F H _ (fun ρ' σ' F' H' cls d x e' r q => by
    obtain ⟨h1, h2⟩ := wh_run e (hx F H) f1 f2 f3 f4 e' r q
    exact ⟨true, h1, fun _ => h2, fun z => nomatch z⟩) σ F H E (e.re pl) (fun ρ' σ' F' H' s e' => f1 ρ' σ' F' H' s (Fr.base e.x e')) (fun v s ρ' σ' F' H' e' r => f2 v s ρ' σ' F' H' (Fr.base e.x e') (SR.base e.x.ext.hh r)) (fun ρ' σ' F' H' s e' => f3 ρ' σ' F' H' s (Fr.base e.x e')) (fun ρ' σ' F' H' s e' => f4 ρ' σ' F' H' s (Fr.base e.x e'))
/-- e.f -/
theorem we_xf {a C : Addr} {cls : Value} {d : Option Addr} {f : Str} (hc : cls = .ref C) (h : G.WE M te ρ fun y => ∃ ns l dv, y = .exc a d ns l ∧ lkp ns l f = some dv ∧ k dv) : G.WE M (tXf a cls d C f te) ρ k := fun σ F H Q e g => h σ F H _ e fun v y F1 H1 x1 r1 ⟨ns, l, dv, z, hv, q⟩ => by
  subst z
  cases r1 with
  | exc0 => cases hv
  | @exc _ dd _ vs _ h1 h2 h3 =>
    have key : ∀ {ns : List Str} {vs : List V} {l : List D}, ns.length = vs.length → RL M F1 vs l → lkp ns l f = some dv → ∃ u, (ns.zip vs).lookup f = some u ∧ RV M F1 u dv := by
      intro ns
      induction ns with
      | nil => intro vs l _ _ hz; cases hz
      | cons n ns ih =>
        intro vs l hl hr hz
        cases hr with
        | nil => cases hl
        | @cons u us b bs ru rus =>
          unfold lkp at hz
          rw [List.zip_cons_cons, List.lookup_cons]
          by_cases w : n = f
          · rw [if_pos w] at hz
            cases hz
            rw [show (f == n) = true by rw [w]; exact beq_self_eq_true _]
            exact ⟨u, rfl, ru⟩
          · rw [if_neg w] at hz
            rw [show (f == n) = false from beq_eq_false_iff_ne.mpr (Ne.symm w)]
            exact ih (by simpa using hl) rus hz
    obtain ⟨u, hu, ru⟩ := key h2 h3 hv
    exact ⟨rfl, hc, dd, _, u, rfl, x1.gd.sub _ _ h1, hu, g u dv F1 H1 x1 ru q⟩
end
end G

namespace G
open PySem PySem.Spec PyProof.Rows L2
/-! ### methods that may raise; own exception classes with an __init__ -/
def tMethW (C : Addr) (m : Str) (sp : Sp) (E : L2.St → XK) (ta : TE) (t : TA) : TE := fun σ H Q => ta σ H fun x H1 => ∃ a dx fs, x = .ref a ∧ H1 a = some (.ins C dx fs) ∧ fs.lookup m = none ∧ t σ H1 fun vs H2 => sp (x :: vs) H2 Q (E σ)
section
variable {X : Cx} {W : WX} {k : Nat} {C : Addr} {m x : Str} {ps : List Str} {sp : Sp} {o e : Expr} {es : List Expr} {ta : TE} {t : TA} {apos pos p : Pos} {pl : Sem Bool}
def tTryF (K : PySem.W.Frag) (c : Value) (i : Nat) (ts : Addr → Value → Option Addr → TS) (tb : WX → TS) : TS := fun D σ H => tb (wFst K c i ts D) D σ H
/-- an own exception class with an __init__ that keeps a promise -/
structure DefE (P : Program) (w : World) (K : PySem.W.Frag) (mg : Str → Option Value) (base : Heap) (k : Nat) (C : Addr) (x : Str) (ps : List Str) (sp : Sp) : Prop where
  ex : ∃ f fd, FnOk P w K mg base CX0 k f fd ps sp ∧ Binds K fd ps [] ∧ PySem.W.findIn K (.ref C) "__init__" = some (some (.ref f)) ∧ PySem.W.typeIn K (.ref f) = some (.type "function") ∧ OexC K C
  gP : mg x = some (.ref C)
theorem pmk_de (D : DefE X.prog X.w X.K X.mg X.base k C x ps sp) (hr : Room (k + 1) X.A) (hg : Gl X x) (ha : PA X (e :: es) t)
    (hdb : (x == ("__debug__" : Str)) = false := by decide) (he : starEach (e :: es) X.env = (false, eval e X.env) :: starEach es X.env := by rfl) (hpl : (backTo pos (starEach es X.env)).any (·.1) = false := by rfl) :
    PMk X (.Call (.Name x p) (e :: es) [] pos) (tMkO C sp [] t) := by
  obtain ⟨f, fd, F, b, h1, h2, T⟩ := D.ex
  exact pmk_oex T h1 h2 F hr b .nil pass0 hg D.gP ha hdb he hpl
end
section
variable {M : Cm} {ρ : Rho} {k : D → Prop} {nx bk ct : Rho → Prop} {rt : Sl → Rho → Prop} {tr : TA} {te ta : TE} {i : Nat}
end
/-- what the written part says of an own class over ValueError with an __init__ -/
def oexIn (K : PySem.W.Frag) (C : Addr) : Bool := match K.lookup C with
  | some ⟨.type "type", _, .cls cd, sl⟩ => (match cd.mro, sl.toList with
    | .ref C' :: bm, [_, _, _, _, some (.builtin n), _] => C' == C && n == "ValueError.__new__" && !cd.hasDel && cd.hasDict && PySem.HandSPX.refsVE bm
    | _, _ => false)
  | _ => false
theorem oex_cls {K : PySem.W.Frag} {C : Addr} (q : oexIn K C = true) : ∃ nm q N bs bm sn sub ab col dd k0 k1 k2 k3 k5, K.lookup C = some (excClassObj nm q C N bs bm true sn sub ab col dd k0 k1 k2 k3 k5 "ValueError.__new__") ∧ PySem.HandSPX.refsVE bm = true := by
  unfold oexIn at q
  split at q
  · rename_i dd cd sl ho
    split at q
    · rename_i C' bm k0 k1 k2 k3 n k5 hm hs
      simp only [Bool.and_eq_true, beq_iff_eq, Bool.not_eq_true'] at q
      obtain ⟨⟨⟨⟨rfl, rfl⟩, hdel⟩, hd⟩, ht⟩ := q
      obtain ⟨nm, bs, mro, ns, qn, hdd, sn, sub, ab, col, del⟩ := cd
      dsimp only at hm hdel hd
      subst hm hdel hd
      have hsl : sl = #[k0, k1, k2, k3, some (.builtin "ValueError.__new__"), k5] := by
        obtain ⟨l⟩ := sl
        simp only at hs
        rw [hs]
      subst hsl
      exact ⟨nm, qn, ns, bs, bm, sn, sub, ab, col, dd, k0, k1, k2, k3, k5, ho, ht⟩
    · cases q
  · cases q
end G

namespace G
open PySem PySem.Spec PyProof.Rows L2
/-! ### try .. except x as n: .., alone; isinstance of what is caught; a row of ints as a tuple -/
def tTryA (K : PySem.W.Frag) (c : Value) (i : Nat) (ts : Addr → Value → Option Addr → TS) (Wout : WX) (tb : WX → TS) : TS := fun D σ H => tb (wAs K c i ts Wout D) D σ H
section
variable {X : Cx} {x n : Str} {c : Value} {i : Nat} {bd st : List Stmt} {s0 : Stmt} {q1 q2 q3 : Pos} {tb : WX → TS} {ts : Addr → Value → Option Addr → TS} {Wout : WX}
theorem ps_tryA (e1 : X.stack = X.env :: X.outer) (e2 : X.env.frame = some X.env.locals) (nd : X.N.Nodup) (e3 : X.N[i]? = some n) (e4 : X.env.kindOf n = some .local) (nm : Names X x c) (tk : Takes X Wout)
    (hb : ∀ (W : WX) (pn : List (Addr × Obj)) (xe : Value → Shared → Prop), Takes (X.tr pn xe) W → PassesOwn (model X.prog X.w) X.A X.env xe → PSs (X.tr pn xe) bd (tb W))
    (hh : ∀ (a : Addr) (oe : Obj) (cls : Value) (d : Option Addr) (pn : List (Addr × Obj)), Zc cls d oe → (∃ vs, oe.data = .fields vs) → PSs (X.suite a ((a, oe) :: pn)) (s0 :: st) (ts a cls d)) :
    PS X (.Try bd [.ExceptHandler (some (.Name x q1)) (some n) (s0 :: st) q2] [] [] q3) (tTryA X.K c i ts Wout tb) := ps_try_as e1 e2 nd e3 e4 nm tk hb hh
theorem k_isX {K : PySem.W.Frag} {a : Addr} {cls : Value} {d : Option Addr} {oe : Obj} {pn : List (Addr × Obj)} (h : X.K = K) (hz : Zc cls d oe) (hf : ∃ vs, oe.data = .fields vs) : CallR (X.suite a ((a, oe) :: pn)) (.builtin "isinstance") (rIsX K cls d a) := by
  subst h
  exact call_isX hz hf
end
section
variable {M : Cm} {ρ : Rho} {k : D → Prop} {nx bk ct : Rho → Prop} {rt : Sl → Rho → Prop} {tr : TA} {te ta : TE} {i : Nat}
theorem ws_tryB {tb : WX → TS} {ts : Addr → Value → Option Addr → TS} {c : Value} {Wout : WX} (kx : Xc → Rho → Prop) (pl : plainR ρ = true)
    (hb : ∀ F1 H1 W, WOk ⟨M.K, M.C, M.st, F1, H1⟩ W kx → WS ⟨M.K, M.C, M.st, F1, H1⟩ (tb W) ρ nx rt bk ct) (hx : ∀ F1 H1, WH ⟨M.K, M.C, M.st, F1, H1⟩ i c ts kx nx rt bk ct) : WS M (tTryA M.K c i ts Wout tb) ρ nx rt bk ct := ws_tryA kx pl hb hx
/-- isinstance(e, N), e what is caught -/
theorem we_isX {a N D0 : Addr} {d : Option Addr} {cls : Value} {b : Bool} (hc : cls = .ref D0) (xk : ExcK M.K D0) (hk : PySem.W.kitOne M.K (.ref D0) (.ref N) = some b) (h : G.WE M te ρ fun y => ∃ ns l, y = .exc a d ns l ∧ k (.bl b)) :
    G.WE M (tCB (rIsX M.K cls d a) (tCons te (tCons (tC (.ref N)) tNil))) ρ k := fun σ F H Q e g => h σ F H _ e fun v y F1 H1 x1 r1 ⟨ns, l, z, q⟩ => by
  subst z
  have hv : v = .ref a ∧ (d = none ∨ ∃ dd fs, d = some dd ∧ H1 dd = some (.xd fs)) := by
    cases r1 with
    | exc0 => exact ⟨rfl, .inl rfl⟩
    | exc h1 h2 h3 => exact ⟨rfl, .inr ⟨_, _, rfl, x1.gd.sub _ _ h1⟩⟩
  obtain ⟨rfl, hd⟩ := hv
  exact ⟨D0, hc, xk, hd, .inl ⟨_, _, b, rfl, .own _, hk, g _ _ F1 H1 x1 (.bl b) q⟩⟩
theorem RB.stnT {F H : Hp} {v : V} {ns : List Int} (h : RB M F H v (.stn ns)) : RB M F H v (.tup (ns.map D.int)) := by
  obtain ⟨p, rfl, h1⟩ := h.stn
  exact .inl (.tup (.inl (.inl h1)) (RA.ofInts ns))
end
end G

namespace G.Q
open PySem PySem.Spec PyProof.Rows L2
local macro_rules | `(tactic| walk_at "ds") => `(tactic| skip)
local macro_rules | `(tactic| walk_at "ds") => `(tactic| dsimp only [List.set, wipeR, snd_cons, snd_nil])
local macro_rules | `(tactic| walk_at "d1") => `(tactic| ((first | with_reducible refine key_str ?_ | with_reducible refine ⟨_, rfl, ?_⟩ | with_reducible refine ⟨_, _, rfl, ?_⟩ | ((with_reducible show List.length _ ≤ 1000 ∧ _); refine len_ok (by rfl) ?_) | ((with_reducible show if D.isN _ = true then _ else _); first | refine s_nnT (by rfl) ?_ | refine s_nnF (by rfl) ?_) | ((with_reducible show if (!D.isN _) = true then _ else _); first | refine s_mnT (by rfl) ?_ | refine s_mnF (by rfl) ?_) | with_reducible refine s_cT ?_ | with_reducible refine s_cF ?_ | with_reducible refine s_nT ?_ | with_reducible refine s_nF ?_); walk_at "ds"))
local macro_rules | `(tactic| walk_at "d1") => `(tactic| ((with_reducible show WPs ..); (first | with_reducible refine wps_cons ?_ | with_reducible refine wps_nil ?_)))
local macro_rules | `(tactic| walk_at "d1") => `(tactic| ((with_reducible show WI ..); (with_reducible refine wi_rng1 ?_)))
local macro_rules | `(tactic| walk_at "d1") => `(tactic| ((with_reducible show WV ..); (with_reducible refine WI.wv ?_)))
local macro_rules | `(tactic| walk_at "d1") => `(tactic| ((with_reducible show WP ..); (first | with_reducible refine wp_no ?_ | with_reducible refine wp_some ?_)))
local macro_rules | `(tactic| walk_at "d1") => `(tactic| ((with_reducible show WOT ..); (first | with_reducible refine wot_new ?_ | with_reducible refine wot_disp1 ?_)))
local macro_rules | `(tactic| walk_at "d1") => `(tactic| ((with_reducible show WOK ..); (first | with_reducible refine wok_new ?_ | with_reducible refine wok_disp1 ?_)))
local macro_rules | `(tactic| walk_at "d1") => `(tactic| ((with_reducible show WD ..); (first | with_reducible refine wd_tup ?_ | with_reducible refine wd_lst ?_)))
local macro_rules | `(tactic| walk_at "d1") => `(tactic| ((with_reducible show WAD ..); (first | with_reducible refine wad_cons ?_ | with_reducible refine wad_nil ?_)))
local macro_rules | `(tactic| walk_at "d1") => `(tactic| ((with_reducible show DIn ..); (first | with_reducible refine din_I ?_ | with_reducible refine din_S ?_ | with_reducible refine din_T ?_)))
local macro_rules | `(tactic| walk_at "d1") => `(tactic| ((with_reducible show DGt ..); (first | with_reducible refine dgp_hard ?_ | with_reducible refine dgp_wide ?_ | with_reducible refine dgp_rows ?_ | with_reducible refine dgp_pairs ?_ | with_reducible refine dgp_many ?_ | with_reducible refine dg_hard ?_ | with_reducible refine dg_places ?_ | with_reducible refine dg_told ?_ | with_reducible refine dg_heavy ?_ | with_reducible refine dg_meets ?_)))
local macro_rules | `(tactic| walk_at "d1") => `(tactic| ((with_reducible show OU ..); (with_reducible refine ou_neg ?_)))
local macro_rules | `(tactic| walk_at "d1") => `(tactic| ((with_reducible show WAB ..); (first | with_reducible refine wab_cons ?_ | with_reducible refine wab_nil ?_)))
local macro_rules | `(tactic| walk_at "d1") => `(tactic| ((with_reducible show CRO ..); (first | with_reducible refine cr_listL ?_ | with_reducible refine cr_listT ?_ | with_reducible refine cr_listS ?_)))
local macro_rules | `(tactic| walk_at "d1") => `(tactic| ((with_reducible show WO ..); (first | with_reducible refine wo_lst ?_ | ((with_reducible show WO _ (tOp rMulS (tLst _) _) _ _); refine wo_rep ?_) | with_reducible refine wo_op ?_ | with_reducible refine wo_cb ?_ | with_reducible refine wo_rev ?_)))
local macro_rules | `(tactic| walk_at "d1") => `(tactic| ((with_reducible show CR ..); (first | with_reducible refine cr_lenDK ?_ | with_reducible refine cr_lenDT ?_ | with_reducible refine cr_lenL ?_ | with_reducible refine cr_lenT ?_ | with_reducible refine cr_lenS ?_ | with_reducible refine cr_lenX ?_ | with_reducible refine cr_tupX ?_ | with_reducible refine cr_sumS ?_ | with_reducible refine cr_sumLi ?_ | with_reducible refine cr_sumTi ?_ | with_reducible refine cr_allB ?_ | with_reducible refine cr_anyB ?_ | with_reducible refine cr_absI ?_ | with_reducible refine cr_int_i ?_ | with_reducible refine cr_int_b ?_ | with_reducible refine CRO.cr (cr_listL ?_) | with_reducible refine CRO.cr (cr_listT ?_) | with_reducible refine CRO.cr (cr_listS ?_) | with_reducible refine cr_tupLi ?_ | with_reducible refine cr_tupS ?_ | with_reducible refine cr_tupL ?_ | with_reducible refine cr_tupT ?_)))
local macro_rules | `(tactic| walk_at "d1") => `(tactic| ((with_reducible show WB ..); (first | ((with_reducible show WB _ (tVar _) _ _); first | refine wb_own rfl ?_ | refine wb_ownK rfl ?_ | refine wb_ownT rfl ?_ | refine wb_lkT rfl (by assumption) ?_ | refine wb_wl rfl ?_) | with_reducible refine WE.wb ?_)))
local macro_rules | `(tactic| walk_at "d1") => `(tactic| ((with_reducible show WGs ..); (first | with_reducible refine wgs_cons ?_ | with_reducible refine wgs_nil ?_ | with_reducible refine wgs_consM ?_ | with_reducible refine wgs_nilM ?_); walk_at "ds"))
local macro_rules | `(tactic| walk_at "d1") => `(tactic| ((with_reducible show WT ..); (first | with_reducible refine wt_test ?_ | with_reducible refine wt_B ?_ | with_reducible refine wt_not ?_ | with_reducible refine wt_and ?_ | with_reducible refine wt_or ?_ | with_reducible refine wt_yes ?_)))
local macro_rules | `(tactic| walk_at "d1") => `(tactic| ((with_reducible show OP ..); (first | with_reducible refine op_addSI ?_ | with_reducible refine op_I0i ?_ | with_reducible refine op_I0b ?_ | with_reducible refine op_eqII ?_ | with_reducible refine op_neII ?_ | with_reducible refine op_eqBB ?_ | with_reducible refine op_neBB ?_ | with_reducible refine op_eqSS ?_ | with_reducible refine op_neSS ?_ | with_reducible refine op_isNn ?_ | with_reducible refine op_notNn ?_ | with_reducible refine op_ip ?_ | ((with_reducible show OP _ (rIx _) (D.tup _) (D.int _) _); refine op_ixT (by rfl) ?_) | ((with_reducible show OP _ (rIx _) (D.lst _) (D.int _) _); refine op_ixL (by rfl) ?_))))
local macro_rules | `(tactic| walk_at "d1") => `(tactic| ((with_reducible show WG ..); (first | with_reducible refine wg_name (by first | trivial | decide) ?_ | with_reducible refine wg_tup rfl ?_ | with_reducible refine wg_stn rfl ?_ | with_reducible refine wg_lst rfl ?_); walk_at "ds"))
local macro_rules | `(tactic| walk_at "d1") => `(tactic| ((with_reducible show WA ..); (first | with_reducible refine wa_cons ?_ | with_reducible refine wa_nil ?_)))
local macro_rules | `(tactic| walk_at "d1") => `(tactic| ((with_reducible show WS ..); (first | with_reducible refine ws_seq ?_ | with_reducible refine ws_next ?_ | with_reducible refine ws_ret ?_ | with_reducible refine ws_retN ?_ | with_reducible refine ws_if ?_ | ((with_reducible show WS _ (tDrop (tBM _ "list" _ (tVar _) _)) _ _ _ _ _); refine ws_mt rfl ?_) | ((with_reducible show WS _ (tDrop (tBM0 _ "list" _ (tVar _))) _ _ _ _ _); refine ws_mt0 rfl ?_) | ((with_reducible show WS _ (tAsg (tBM _ "list" _ (tVar _) _) (gName _)) _ _ _ _ _); refine ws_mtS rfl ?_) | ((with_reducible show WS _ (tAsg (tBM0 _ "list" _ (tVar _)) (gName _)) _ _ _ _ _); refine ws_mt0S rfl ?_) | ((with_reducible show WS _ (tAsgO (tDisp _) _) _ _ _ _ _); refine ws_setOwnK ?_) | ((with_reducible show WS _ (tAsgO tDNewK _) _ _ _ _ _); refine ws_setOwnK ?_) | ((with_reducible show WS _ (tAsgO (tDc _ _ _ _ _ _) _) _ _ _ _ _); refine ws_setOwnK ?_) | ((with_reducible show WS _ (tAsgO tDNewT _) _ _ _ _ _); refine ws_setOwnT ?_) | ((with_reducible show WS _ (tAsgO (tDispT1 _ _) _) _ _ _ _ _); refine ws_setOwnT ?_) | with_reducible refine ws_setOwn ?_ | ((with_reducible show WS _ (tAsg _ (gSub (tVar _) _ rSetL)) _ _ _ _ _); first | refine ws_setItem rfl ?_ | refine ws_setWl rfl ?_) | ((with_reducible show WS _ (tAugS (tVar _) _ _ _ _ _) _ _ _ _ _); refine ws_augItem rfl ?_) | ((with_reducible show WS _ (sDPut (tVar _) _ _) _ _ _ _ _); first | refine ws_dput rfl ?_ | refine ws_dputT rfl ?_) | ((with_reducible show WS _ (tDrop (tBM _ "dict" rUpd (tVar _) _)) _ _ _ _ _); refine ws_upd rfl ?_) | ((with_reducible show WS _ (tAsg (tCall (spDS _ _ _) _ _ _) (gName _)) _ _ _ _ _); refine ws_asgS ?_) | with_reducible refine ws_asg ?_ | with_reducible refine ws_drop ?_ | ((with_reducible show WS _ (tAug _ _ _) _ _ _ _ _); refine ws_aug rfl ?_) | with_reducible refine ws_par ?_ | with_reducible refine ws_break ?_ | with_reducible refine ws_cont ?_); walk_at "ds"))
local macro_rules | `(tactic| walk_at "d1") => `(tactic| ((with_reducible show WE ..); (first | ((with_reducible show WE _ (tVar _) _ _); refine we_var rfl ?_) | with_reducible refine we_op ?_ | with_reducible refine we_call ?_ | with_reducible refine we_int ?_ | with_reducible refine we_str ?_ | with_reducible refine we_bl ?_ | with_reducible refine we_non ?_ | with_reducible refine we_isi ?_ | with_reducible refine we_notV ?_ | with_reducible refine we_andV ?_ | with_reducible refine we_orV ?_ | with_reducible refine we_if ?_ | with_reducible refine we_chain ?_ | with_reducible refine we_un ?_ | with_reducible refine we_meth (by decide) ?_ | with_reducible refine we_tupK2 ?_ | with_reducible refine we_tup ?_ | with_reducible refine WO.we (wo_lst ?_) | with_reducible refine we_cb ?_ | ((with_reducible show WE _ (tFld _ _ "hard") _ _); refine we_hard (by assumption) ?_) | ((with_reducible show WE _ (tFld _ _ "heavy") _ _); refine we_heavy (by assumption) ?_) | ((with_reducible show WE _ (tFld _ _ "places") _ _); refine we_places (by assumption) ?_) | ((with_reducible show WE _ (tFld _ _ "told") _ _); refine we_told (by assumption) ?_) | ((with_reducible show WE _ (tFld _ _ "meets") _ _); refine we_meets (by assumption) ?_) | with_reducible refine we_din ?_ | with_reducible refine we_dnotin ?_ | ((with_reducible show WE _ (tDGet (tVar _) _) _ _); refine we_dgetL (by assumption) rfl ?_) | with_reducible refine we_dget ?_ | with_reducible refine we_idx ?_ | with_reducible refine WO.we (wo_rev ?_))))
local macro_rules | `(tactic| walk_at "dz") => `(tactic| skip)
local macro_rules | `(tactic| walk_at "dz") => `(tactic| (dsimp only [List.set, wipeR, snd_cons, snd_nil]; repeat walk_at "d1"))
local macro_rules | `(tactic| walk_at "dw") => `(tactic| (walk_at "ds"; (repeat walk_at "d1"); walk_at "dz"))
local macro_rules | `(tactic| walk_at "c1") => `(tactic| (first | ((with_reducible show Wl _ _ → _); intro _) | ((with_reducible show ∀ _ : HO, Wl _ _ → _); intro _ _)))
local macro_rules | `(tactic| walk_at "c1") => `(tactic| ((with_reducible show CI ..); (with_reducible refine c_rng1 ?_)))
local macro_rules | `(tactic| walk_at "c1") => `(tactic| ((with_reducible show CT ..); (with_reducible refine c_test ?_)))
local macro_rules | `(tactic| walk_at "c1") => `(tactic| ((with_reducible show CA ..); (first | with_reducible refine ca_cons ?_ | with_reducible refine ca_nil rfl (by assumption) ?_)))
local macro_rules | `(tactic| walk_at "c1") => `(tactic| ((with_reducible show CE ..); (first | with_reducible refine c_call rfl ?_ | with_reducible refine c_op ?_ | ((with_reducible show CE _ _ _ (tVar _) _ _); refine CE.of rfl (by assumption) ?_) | ((with_reducible show CE _ _ _ (tC _) _ _); refine CE.of rfl (by assumption) ?_) | with_reducible refine c_lst ?_ | with_reducible refine c_tup ?_)))
local macro_rules | `(tactic| walk_at "cd") => `(tactic| (walk_at "d1"))
local macro_rules | `(tactic| walk_at "cd") => `(tactic| (walk_at "c1"; walk_at "ds"))
local macro_rules | `(tactic| walk_at "cz") => `(tactic| skip)
local macro_rules | `(tactic| walk_at "cz") => `(tactic| (dsimp only [List.set, wipeR, snd_cons, snd_nil]; repeat walk_at "cd"))
local macro_rules | `(tactic| walk_at "cw") => `(tactic| (walk_at "ds"; (repeat walk_at "cd"); walk_at "cz"))

/-! ## what a bench's parts are, of any data -/
def Kd (x : D) : Prop := x.ty.isSome = true
def Ki (x : D) : Prop := Kd x ∧ ∀ j l, isSq x = some (j, l) → l.length ≤ 60 ∧ ∀ d ∈ l, Kd d
def Kg (x : D) : Prop := Ki x ∧ ∀ j l, isSq x = some (j, l) → ∀ d ∈ l, Ki d
def Kgs (x : D) : Prop := Kg x ∧ ∀ j l, isSq x = some (j, l) → ∀ d ∈ l, Kg d
def intsOf (l : List D) : List Int := l.map fun d => match d with
  | .int i => i
  | _ => 0
def intOf : D → Int
  | .int i => i
  | _ => 0
def natsI (n : Nat) : List Int := (List.range n).map fun (x : Nat) => (x : Int)
def hardB : D → Bool
  | .lst l => (decide ((2 : Int) ≤ l.length) && decide ((l.length : Int) ≤ 4)) && l.all fun d => wholeD d (some 1) (some 9)
  | _ => false
def tupOf : D → Option (List D)
  | .tup l => some l
  | .stn ns => some (ns.map D.int)
  | .ixt ns => some (ns.map D.int)
  | _ => none
def turnB (x : D) (n : Nat) : Bool := match tupOf x with
  | some l => decide (l.length = n) && l.all isIntD && decide ((intsOf l).Perm (natsI n))
  | _ => false
def grindB (x : D) (m n : Nat) : Bool := match tupOf x with
  | some [a, b, c] => wholeD a (some 0) (some ((m : Int) - 1)) && wholeD b (some 0) (some ((m : Int) - 1)) && decide (intOf a ≠ intOf b) && turnB c n
  | _ => false
theorem all_ints {l : List D} (h : l.all isIntD = true) : l = (intsOf l).map D.int := by
  induction l with
  | nil => rfl
  | cons d l ih =>
    simp only [List.all_cons, Bool.and_eq_true] at h
    rw [intsOf, List.map_cons, List.map_cons, ← intsOf, ← ih h.2]
    cases d with
    | int i => rfl
    | _ => cases h.1
theorem nats_up (n : Nat) : (natsI n).Pairwise (· ≤ ·) := by
  unfold natsI
  rw [List.pairwise_map]
  exact List.pairwise_lt_range.imp fun h => by omega
theorem kl_of {x : D} {T : String} (h : x.ty = some T) : kitB T "list" = some (decide (T = "list")) := by
  cases x <;> cases h <;> decide +kernel
theorem kt_of {x : D} {T : String} (h : x.ty = some T) : kitB T "tuple" = some (decide (T = "tuple")) := by
  cases x <;> cases h <;> decide +kernel
section
variable {M : Cm} {ka : List D → Prop}
theorem cro_sortS {ns : List Int} (hl : ns.length < 64) (q : ∀ ms : List Int, ms.Perm ns → ms.Pairwise (· ≤ ·) → ka (ms.map D.int)) : CRO M (rSortedV M.K) [.stn ns] ka := cro_orL fun F H vs Q g rr f => by
  obtain ⟨v, rfl, r⟩ := rbs1 rr
  obtain ⟨p, us, rfl, h1, h2⟩ := r.stnT.tup
  rw [h2.ints] at h1
  exact .inr ⟨p, ns, rfl, sqT_mono g.sub h1, hl, fun ms p' h2 h3 np => cro_new g (RA.ofInts ms) np (q ms h2 h3) f⟩
theorem cro_sortX {ns : List Int} (hl : ns.length < 64) (q : ∀ ms : List Int, ms.Perm ns → ms.Pairwise (· ≤ ·) → ka (ms.map D.int)) : CRO M (rSortedV M.K) [.ixt ns] ka := cro_orL fun F H vs Q g rr f => by
  obtain ⟨v, rfl, r⟩ := rbs1 rr
  have key : ∃ p ob, v = .ref p ∧ H p = some (.frz ob (.tup (ns.map V.int))) := by
    cases r.rv g with
    | ixt a b => exact ⟨_, _, rfl, Dl_sub _ _ a⟩
  obtain ⟨p, ob, rfl, h1⟩ := key
  exact .inr ⟨p, ns, rfl, .inl (.inr ⟨_, h1⟩), hl, fun ms p' h2 h3 np => cro_new g (RA.ofInts ms) np (q ms h2 h3) f⟩
theorem cro_sortTV {ns : List Int} (hl : ns.length < 64) (q : ∀ ms : List Int, ms.Perm ns → ms.Pairwise (· ≤ ·) → ka (ms.map D.int)) : CRO M (rSortedV M.K) [.tup (ns.map D.int)] ka := cro_orL (cro_sortT hl q)
theorem cro_sortA {x : D} {l : List D} {ns : List Int} (e : tupOf x = some l) (ei : l = ns.map D.int) (hl : ns.length < 64) (q : ∀ ms : List Int, ms.Perm ns → ms.Pairwise (· ≤ ·) → ka (ms.map D.int)) : CRO M (rSortedV M.K) [x] ka := by
  have inj : ∀ {a b : List Int}, a.map D.int = b.map D.int → a = b := fun {a b} h => by
    induction a generalizing b with
    | nil => cases b with | nil => rfl | cons _ _ => cases h
    | cons x a ih =>
      cases b with
      | nil => cases h
      | cons y b =>
        rw [List.map_cons, List.map_cons] at h
        injection h with h1 h2
        injection h1 with h1
        rw [h1, ih h2]
  cases x with
  | tup m => cases e; rw [ei]; exact cro_sortTV hl q
  | stn m => cases e; rw [inj ei]; exact cro_sortS hl q
  | ixt m => cases e; rw [inj ei]; exact cro_sortX hl q
  | _ => cases e
end
section
variable {M : Cm} {k : D → Prop}
theorem op_ixA {x d : D} {l : List D} {i : Int} (e : tupOf x = some l) (h : atI l i = some d) (q : k d) : OP M (rIx M.K) x (.int i) k := by
  cases x with
  | tup m => cases e; exact op_ixT h q
  | stn m => cases e; exact op_ixS h q
  | ixt m => cases e; exact op_ixX h q
  | _ => cases e
end
theorem tup_sq {x : D} {l : List D} (e : tupOf x = some l) : isSq x = some (false, l) := by
  cases x <;> cases e <;> rfl
theorem tup_ty {x : D} {l : List D} (e : tupOf x = some l) : x.ty = some "tuple" := by
  cases x <;> cases e <;> rfl
theorem tup_no {x : D} {T : String} (e : tupOf x = none) (h : x.ty = some T) : T ≠ "tuple" := by
  cases x <;> cases e <;> cases h <;> decide
section
variable {P : Program} {w : World} {K : PySem.W.Frag} {mg : Str → Option Value} {base : Heap} {C : Addr}
def cHardX : Ct := fun ds k => ∃ x, ds = [x] ∧ Ki x ∧ k (.bl (hardB x))
abbrev s_is_hardness : Stmt := topS 14
abbrev n_is_hardness : List Str := ["thing", "one"]
theorem sc_is_hardness : FnScope ["thing", "one"] ["thing"] (defScope s_is_hardness) := ⟨rfl, rfl, rfl, by decide +kernel, rfl, by decide +kernel, by decide +kernel⟩
theorem ok_is_hardness (B0 : Blt mg) (T : Txt K mg C) (d_is_whole : Def P w K mg base 1 "is_whole" ["thing", "low", "high"] (spD K C cWhole)) (F : FunAt K mg "is_hardness" s_is_hardness ["thing"]) : Def P w K mg base 2 "is_hardness" ["thing"] (spD K C cHardX) := by
  refine F.defD (n := 1) sc_is_hardness (fun ds k h => by obtain ⟨_, rfl, _⟩ := h; rfl) fun f cdv A outer s H E sa F ds k hr h => ?_
  obtain ⟨x, rfl, hx, q⟩ := h
  have B := B0
  obtain ⟨_, g_MOST_PLATES⟩ := T.g_MOST_PLATES
  obtain ⟨_, g_MOST_HARDNESS⟩ := T.g_MOST_HARDNESS
  refine ⟨_, (pss_cons (ps_if (PW.pt (pw_or (pt_not (pt_val (pe_callB (k_isi (K := K) rfl) (by rfl) B.isinstance bb_isinstance (pa_cons (pv 0) (pa_cons (pe_bltn (v := .ty "list") (by rfl) B.list bb_list rfl) pa_nil))))) (pw_or1 (pt_not (pt_chain op_le op_le pe_int (pe_callB (k_len (K := K) rfl) (by rfl) B.len bb_len (pa_cons (pv 0) pa_nil)) (pe_glob (v := .int 4) rfl g_MOST_PLATES ⟨_, rfl⟩)))))) (pss_one (ps_ret pe_bl)) pss_nil) (pss_one (ps_ret (pe_callB (k_all (K := K) rfl rfl) (by rfl) B.all bb_all (pa_cons (pe_lc (own := [("one", 1)]) rfl sc_is_hardness.nd (k_seq (K := K) rfl (pv 0)) (blkOk_by (own := [("one", 1)]) (N := n_is_hardness) (sc := defScope s_is_hardness) (by decide +kernel)) (fun _ _ _ _ _ => (pg_name (i := 1) sc_is_hardness.nd rfl (Or.inl rfl))) (fun _ _ _ _ _ => pts_nil) (fun _ _ _ _ _ => (pe_d d_is_whole (hr.mono (by decide)) (by rfl) (pa_cons (pv 1) (pa_cons pe_int (pa_cons (pe_glob (v := .int 9) rfl g_MOST_HARDNESS ⟨_, rfl⟩) pa_nil)))))) pa_nil))))), ?_⟩; refine start_eqR (ρ' := [some (.d (x)), none]) rfl ?_
  walk_at "dw"
  obtain ⟨Ty, hT⟩ := Option.isSome_iff_exists.mp hx.1
  refine ⟨_, _, hT, kl_of hT, ?_⟩
  by_cases z : ∃ l, x = .lst l
  · obtain ⟨l, rfl⟩ := z
    cases hT
    have kl := hx.2 _ _ rfl
    rw [decide_eq_true rfl]
    walk_at "dw"
    unfold hardB at q
    have q : k (.bl ((decide ((2 : Int) ≤ l.length) && decide ((l.length : Int) ≤ 4)) && l.all fun d => wholeD d (some 1) (some 9))) := q
    refine s_d2 (fun e1 => ?_) (fun e1 => ?_)
    · rw [decide_eq_true e1, Bool.true_and] at q
      walk_at "dw"
      by_cases e2 : (l.length : Int) ≤ 4
      · rw [decide_eq_true e2, Bool.true_and] at q
        rw [decide_eq_true e2]
        walk_at "dw"
        refine WO.we (wo_lc (α := D) (WI.wv (wi_seqL ?_)))
        walk_at "dw"
        refine ⟨by omega, l, id, fun d => .bl (wholeD d (some 1) (some 9)), (List.map_id _).symm, fun d hd => ?_, ?_⟩
        · walk_at "dw"
          exact ⟨d, some 1, some 9, rfl, kl.2 d hd, rfl⟩
        · rw [show l.map (fun d => D.bl (wholeD d (some 1) (some 9))) = (l.map fun d => wholeD d (some 1) (some 9)).map D.bl by rw [List.map_map]; rfl]
          walk_at "dw"
          rw [List.all_map]
          exact q
      · rw [decide_eq_false e2, Bool.false_and] at q
        rw [decide_eq_false e2]
        walk_at "dw"
        exact q
    · rw [decide_eq_false e1, Bool.false_and, Bool.false_and] at q
      walk_at "dw"
      exact q
  · have nl : Ty ≠ "list" := by
      intro e
      subst e
      cases x with
      | lst l => exact z ⟨l, rfl⟩
      | _ => simp [D.ty] at hT
    rw [decide_eq_false nl]
    have : hardB x = false := by
      cases x with
      | lst l => exact absurd ⟨l, rfl⟩ z
      | _ => rfl
    rw [this] at q
    walk_at "dw"
    exact q
def cTurnX : Ct := fun ds k => ∃ x, ∃ n : Nat, ds = [x, .int n] ∧ n ≤ 50 ∧ Ki x ∧ k (.bl (turnB x n))
abbrev s_is_turn : Stmt := topS 15
abbrev n_is_turn : List Str := ["thing", "places"]
theorem sc_is_turn : FnScope ["thing", "places"] ["thing", "places"] (defScope s_is_turn) := ⟨rfl, rfl, rfl, by decide +kernel, rfl, by decide +kernel, by decide +kernel⟩
theorem ok_is_turn (B0 : Blt mg) (d_are_wholes : Def P w K mg base 2 "are_wholes" ["thing", "many"] (spD K C cWholes)) (F : FunAt K mg "is_turn" s_is_turn ["thing", "places"]) : Def P w K mg base 3 "is_turn" ["thing", "places"] (spD K C cTurnX) := by
  refine F.defD (n := 2) sc_is_turn (fun ds k h => by obtain ⟨_, _, rfl, _⟩ := h; rfl) fun f cdv A outer s H E sa F ds k hr h => ?_
  obtain ⟨x, n, rfl, hn, hx, q⟩ := h
  have B := B0
  refine ⟨_, (pss_one (ps_ret (pe_and (pe_d d_are_wholes (hr.mono (by decide)) (by rfl) (pa_cons (pv 0) (pa_cons (pv 1) pa_nil))) (pe_one (pe_cmpR (k_eq (K := K) rfl hr.units) (pe_callB (k_sortedV (K := K) rfl rfl) (by rfl) B.sorted bb_sorted (pa_cons (pv 0) pa_nil)) (pe_listRg rfl (by rfl) B.list (prg_1 (by rfl) B.range (pv 1))) (nomark _)))))), ?_⟩; refine start_eqR (ρ' := [some (.d (x)), some (.d (.int n))]) rfl ?_
  walk_at "dw"
  refine ⟨x, n, rfl, ?_⟩
  cases hx0 : tupOf x with
  | none =>
    obtain ⟨Ty, hT⟩ := Option.isSome_iff_exists.mp hx.1
    refine .inr ⟨hx.1, by rw [hT]; exact fun e => tup_no hx0 hT (Option.some.inj e), ?_⟩
    unfold turnB at q
    rw [hx0] at q
    walk_at "dw"
    exact q
  | some l =>
    have kl := hx.2 _ _ (tup_sq hx0)
    refine .inl ⟨_, l, tup_sq hx0, tup_ty hx0, by omega, kl.2, ?_⟩
    unfold turnB at q
    rw [hx0] at q
    have e1 : decide ((l.length : Int) = n) = decide (l.length = n) := by simp only [Int.ofNat_inj]
    rw [e1]
    have q : k (.bl (decide (l.length = n) && l.all isIntD && decide ((intsOf l).Perm (natsI n)))) := q
    generalize hb : (decide (l.length = n) && l.all isIntD) = b at q ⊢
    refine ⟨b, rfl, ?_⟩
    cases b with
    | false =>
      refine iteF ?_
      exact q
    | true =>
      refine iteT ?_
      rw [Bool.true_and] at q
      rw [Bool.and_eq_true, decide_eq_true_eq] at hb
      walk_at "dw"
      refine CRO.cr (cro_sortA hx0 (all_ints hb.2) (by simp [intsOf]; omega) fun ms hp up => ?_)
      refine WE.wb (WO.we (wo_lstRg ?_))
      walk_at "dw"
      refine ⟨by omega, by omega, ?_⟩
      rw [show rngD (n : Int).toNat = (natsI n).map D.int by unfold rngD natsI; rw [List.map_map]; simp]
      refine op_eqDD (.lst (pl_ints _)) (.lst (pl_ints _)) ?_
      rw [eqD_intsL]
      have : decide (ms = natsI n) = decide ((intsOf l).Perm (natsI n)) := by
        refine decide_eq_decide.mpr ⟨fun e => e ▸ hp.symm, fun e => ?_⟩
        exact (hp.trans e).eq_of_pairwise (fun _ _ _ _ a b => Int.le_antisymm a b) up (nats_up n)
      rw [this]
      exact q
def cGrindX : Ct := fun ds k => ∃ x, ∃ m n : Nat, ds = [x, .int m, .int n] ∧ m ≤ 50 ∧ n ≤ 50 ∧ Kg x ∧ k (.bl (grindB x m n))
abbrev s_is_grinding : Stmt := topS 16
abbrev n_is_grinding : List Str := ["thing", "plates", "places"]
theorem sc_is_grinding : FnScope ["thing", "plates", "places"] ["thing", "plates", "places"] (defScope s_is_grinding) := ⟨rfl, rfl, rfl, by decide +kernel, rfl, by decide +kernel, by decide +kernel⟩
theorem len_opt {l : List D} (h : l.length = 3) : ∃ a b c, l = [a, b, c] := by
  match l, h with
  | [a, b, c], _ => exact ⟨a, b, c, rfl⟩
theorem whole_int {x : D} {lo hi : Option Int} (h : wholeD x lo hi = true) : ∃ i, x = .int i := by
  cases x with
  | int i => exact ⟨i, rfl⟩
  | _ => cases h
theorem ok_is_grinding (B0 : Blt mg) (d_is_whole : Def P w K mg base 1 "is_whole" ["thing", "low", "high"] (spD K C cWhole)) (d_is_turn : Def P w K mg base 3 "is_turn" ["thing", "places"] (spD K C cTurnX)) (F : FunAt K mg "is_grinding" s_is_grinding ["thing", "plates", "places"]) : Def P w K mg base 4 "is_grinding" ["thing", "plates", "places"] (spD K C cGrindX) := by
  refine F.defD (n := 3) sc_is_grinding (fun ds k h => by obtain ⟨_, _, _, rfl, _⟩ := h; rfl) fun f cdv A outer s H E sa F ds k hr h => ?_
  obtain ⟨x, m, n, rfl, hm, hn, hx, q⟩ := h
  have B := B0
  refine ⟨_, (pss_cons (ps_if (PW.pt (pw_or (pt_not (pt_val (pe_callB (k_isi (K := K) rfl) (by rfl) B.isinstance bb_isinstance (pa_cons (pv 0) (pa_cons (pe_bltn (v := .ty "tuple") (by rfl) B.tuple bb_tuple rfl) pa_nil))))) (pw_or1 (pt_cmpR (k_ne (K := K) rfl hr.units) (pe_callB (k_len (K := K) rfl) (by rfl) B.len bb_len (pa_cons (pv 0) pa_nil)) pe_int (nomark _))))) (pss_one (ps_ret pe_bl)) pss_nil) (pss_cons (ps_if (PW.pt (pw_or (pt_not (pt_val (pe_d d_is_whole (hr.mono (by decide)) (by rfl) (pa_cons (pe_ix (k_ix (K := K) rfl) (pv 0) pe_int (fun _ _ => rfl)) (pa_cons pe_int (pa_cons (pe_op op_sub (pv 1) pe_int) pa_nil)))))) (pw_or1 (pt_not (pt_val (pe_d d_is_whole (hr.mono (by decide)) (by rfl) (pa_cons (pe_ix (k_ix (K := K) rfl) (pv 0) pe_int (fun _ _ => rfl)) (pa_cons pe_int (pa_cons (pe_op op_sub (pv 1) pe_int) pa_nil))))))))) (pss_one (ps_ret pe_bl)) pss_nil) (pss_one (ps_ret (pe_and (pe_cmpR (k_ne (K := K) rfl hr.units) (pe_ix (k_ix (K := K) rfl) (pv 0) pe_int (fun _ _ => rfl)) (pe_ix (k_ix (K := K) rfl) (pv 0) pe_int (fun _ _ => rfl)) (nomark _)) (pe_one (pe_d d_is_turn (hr.mono (by decide)) (by rfl) (pa_cons (pe_ix (k_ix (K := K) rfl) (pv 0) pe_int (fun _ _ => rfl)) (pa_cons (pv 2) pa_nil))))))))), ?_⟩; refine start_eqR (ρ' := [some (.d (x)), some (.d (.int m)), some (.d (.int n))]) rfl ?_
  walk_at "dw"
  obtain ⟨Ty, hT⟩ := Option.isSome_iff_exists.mp hx.1.1
  refine ⟨_, _, hT, kt_of hT, ?_⟩
  cases hx0 : tupOf x with
  | none =>
    rw [decide_eq_false (tup_no hx0 hT)]
    unfold grindB at q
    rw [hx0] at q
    walk_at "dw"
    exact q
  | some l =>
    have e := tup_ty hx0
    rw [hT] at e
    cases e
    rw [decide_eq_true rfl]
    have kl := hx.1.2 _ _ (tup_sq hx0)
    walk_at "dw"
    refine cr_lenQ (tup_sq hx0) ?_
    walk_at "dw"
    by_cases e3 : l.length = 3
    · rw [decide_eq_true (show (l.length : Int) = 3 by omega)]
      obtain ⟨a, b, c, rfl⟩ := len_opt e3
      unfold grindB at q
      rw [hx0] at q
      have q : k (.bl (wholeD a (some 0) (some ((m : Int) - 1)) && wholeD b (some 0) (some ((m : Int) - 1)) && decide (intOf a ≠ intOf b) && turnB c n)) := q
      have ka := kl.2 a (by simp)
      have kb := kl.2 b (by simp)
      have kc := hx.2 _ _ (tup_sq hx0) c (by simp)
      walk_at "dw"
      refine op_ixA hx0 (d := a) rfl ?_
      walk_at "dw"
      refine ⟨a, some 0, some ((m : Int) - 1), rfl, ka, ?_⟩
      cases ha : wholeD a (some 0) (some ((m : Int) - 1)) with
      | false =>
        rw [ha, Bool.false_and, Bool.false_and, Bool.false_and] at q
        walk_at "dw"
        exact q
      | true =>
        rw [ha, Bool.true_and] at q
        walk_at "dw"
        refine op_ixA hx0 (d := b) rfl ?_
        walk_at "dw"
        refine ⟨b, some 0, some ((m : Int) - 1), rfl, kb, ?_⟩
        cases hb : wholeD b (some 0) (some ((m : Int) - 1)) with
        | false =>
          rw [hb, Bool.false_and, Bool.false_and] at q
          walk_at "dw"
          exact q
        | true =>
          rw [hb, Bool.true_and] at q
          obtain ⟨i, rfl⟩ := whole_int ha
          obtain ⟨j, rfl⟩ := whole_int hb
          walk_at "dw"
          refine op_ixA hx0 (d := .int i) rfl ?_
          walk_at "dw"
          refine op_ixA hx0 (d := .int j) rfl ?_
          walk_at "dw"
          have q : k (.bl (decide (i ≠ j) && turnB c n)) := q
          by_cases z : i = j
          · rw [decide_eq_false (fun h => h z), Bool.false_and] at q
            rw [decide_eq_true z]
            exact iteF q
          · rw [decide_eq_true (show i ≠ j from z), Bool.true_and] at q
            rw [decide_eq_false z]
            refine iteT ?_
            walk_at "dw"
            refine op_ixA hx0 (d := c) rfl ?_
            walk_at "dw"
            exact ⟨c, n, rfl, hn, kc, q⟩
    · rw [decide_eq_false (show ¬ (l.length : Int) = 3 by omega)]
      have : grindB x m n = false := by
        unfold grindB
        rw [hx0]
        match l, e3 with
        | [], _ => rfl
        | [_], _ => rfl
        | [_, _], _ => rfl
        | [_, _, _], h => exact absurd rfl h
        | _ :: _ :: _ :: _ :: _, _ => rfl
      rw [this] at q
      walk_at "dw"
      exact q
end
end G.Q

namespace G
open PySem PySem.Spec PyProof.Rows L2
local macro_rules | `(tactic| walk_at "lk") => `(tactic| first | assumption | exact rT_at | exact rL_at | exact upd_same | (refine sqT_mono ?_ (by assumption); assumption) | (refine sqL_mono ?_ (by assumption); assumption) | (refine rT_new (by assumption) ?_; walk_at "lk") | (refine rL_new (by assumption) ?_; walk_at "lk") | (refine rH_new (by assumption) ?_; walk_at "lk") | (refine rD_new (by assumption) ?_; walk_at "lk") | (refine dp_mono ?_ (by assumption); assumption))
local macro_rules | `(tactic| walk_at "r1") => `(tactic| first | ((with_reducible show tVar _ _ _ _); refine s_var rfl ?_) | with_reducible refine s_c ?_ | with_reducible refine s_op ?_ | with_reducible refine s_un ?_ | with_reducible refine s_neg ?_ | with_reducible refine s_test ?_ | with_reducible refine s_B ?_ | with_reducible refine s_bl ?_ | with_reducible refine s_not ?_ | with_reducible refine s_yes ?_ | with_reducible refine s_and ?_ | with_reducible refine s_or ?_ | with_reducible refine s_notV ?_ | with_reducible refine s_andV ?_ | with_reducible refine s_orV ?_ | with_reducible refine s_if ?_ | with_reducible refine s_cT ?_ | with_reducible refine s_cF ?_ | with_reducible refine s_nT ?_ | with_reducible refine s_nF ?_ | with_reducible refine s_addI ?_ | with_reducible refine s_eqI ?_ | with_reducible refine s_neI ?_ | with_reducible refine s_eqB ?_ | with_reducible refine s_neB ?_ | with_reducible refine s_I0 ?_ | with_reducible refine s_non ?_ | with_reducible refine s_int ?_ | with_reducible refine s_chain ?_ | with_reducible refine s_cons ?_ | with_reducible refine s_nil ?_ | with_reducible refine s_call ?_ | with_reducible refine s_cb ?_ | with_reducible refine s_meth ?_ | with_reducible refine s_make ?_ | with_reducible refine s_tup ?_ | with_reducible refine s_lst ?_ | with_reducible refine s_bm ?_ | with_reducible refine s_bm0 ?_ | with_reducible refine s_bmT ?_ | with_reducible refine s_fld ?_ | with_reducible refine s_dget ?_ | with_reducible refine s_sl ?_ | with_reducible refine s_part ?_ | with_reducible refine s_nopart ?_ | with_reducible refine s_seq ?_ | with_reducible refine s_next ?_ | with_reducible refine s_asg ?_ | with_reducible refine s_gn ?_ | with_reducible refine s_gc ?_ | with_reducible refine s_g0 ?_ | with_reducible refine s_gs ?_ | with_reducible refine s_ret ?_ | with_reducible refine s_ifS ?_ | with_reducible refine s_drop ?_ | with_reducible refine s_augS ?_ | ((with_reducible show tAug _ _ _ _ _ _); refine s_aug rfl ?_) | with_reducible refine s_ipI ?_ | with_reducible refine s_for ?_ | with_reducible refine s_iseq ?_ | with_reducible refine s_rng1 ?_ | with_reducible refine s_izip ?_ | with_reducible refine s_lc ?_ | with_reducible refine s_lc2 ?_ | with_reducible refine s_lstRg ?_ | with_reducible refine s_rg1 ?_ | with_reducible refine s_sfld ?_ | with_reducible refine s_ienum ?_ | with_reducible refine s_disp ?_ | with_reducible refine s_pc ?_ | with_reducible refine s_pn ?_)
local macro_rules | `(tactic| walk_at "rd") => `(tactic| repeat walk_at "r1")

section
variable {P : Program} {w : World} {K : PySem.W.Frag} {mg : Str → Option Value} {base : Heap} {C : Addr}
/-! ### whole numbers -/
abbrev s_is_whole : Stmt := topS 7
abbrev n_is_whole : List Str := ["thing", "low", "high"]
theorem sc_is_whole : FnScope ["thing", "low", "high"] ["thing", "low", "high"] (defScope s_is_whole) := ⟨rfl, rfl, rfl, by decide +kernel, rfl, by decide +kernel, by decide +kernel⟩
def loOk (n : Int) : Option Int → Bool
  | none => true
  | some l => decide (l ≤ n)
def hiOk (n : Int) : Option Int → Bool
  | none => true
  | some h => decide (n ≤ h)
def wholeV (x : V) (lo hi : Option Int) : Bool := match x with
  | .int n => loOk n lo && hiOk n hi
  | _ => false
def oV : Option Int → V
  | none => .non
  | some i => .int i
theorem oV_some (i : Int) : oV (some i) = .int i := rfl
/-- things whose kind is known -/
def Kn (K : PySem.W.Frag) (H : Hp) (x : V) : Prop := (∃ n, x = .int n) ∨ (∃ b, x = .bl b) ∨ x = .non ∨ (∃ z, x = .str z) ∨ (∃ a xs, x = .ref a ∧ SqL K H a xs) ∨ (∃ a xs, x = .ref a ∧ SqT K H a xs)
theorem isB {K : PySem.W.Frag} {H : Hp} {t : V} {T U : String} {b : Bool} {R : VK} (h1 : TyX K H t (.type T)) (h2 : kitB T U = some b) (h3 : R (.bl b) H) : rIsi K [t, .ty U] H R := s_isi (.ty U) h1 (kit_ty h2) h3
theorem kb_ii : kitB "int" "int" = some true := by decide +kernel
theorem kb_ib : kitB "int" "bool" = some false := by decide +kernel
theorem kb_bi : kitB "bool" "int" = some true := by decide +kernel
theorem kb_bb : kitB "bool" "bool" = some true := by decide +kernel
theorem kb_ni : kitB "NoneType" "int" = some false := by decide +kernel
theorem kb_si : kitB "str" "int" = some false := by decide +kernel
theorem kb_li : kitB "list" "int" = some false := by decide +kernel
theorem kb_ti : kitB "tuple" "int" = some false := by decide +kernel
theorem kb_tt : kitB "tuple" "tuple" = some true := by decide +kernel
theorem kb_ll : kitB "list" "list" = some true := by decide +kernel
theorem kb_it : kitB "int" "tuple" = some false := by decide +kernel
theorem kb_nt : kitB "NoneType" "tuple" = some false := by decide +kernel
theorem kb_st : kitB "str" "tuple" = some false := by decide +kernel
theorem kb_bt : kitB "bool" "tuple" = some false := by decide +kernel
theorem kb_lt : kitB "list" "tuple" = some false := by decide +kernel
def spIsWhole (K : PySem.W.Frag) : Sp := fun vs H Q _ => ∃ x lo hi, vs = [x, oV lo, oV hi] ∧ Kn K H x ∧ Q (.bl (wholeV x lo hi)) H
theorem whole_no {x : V} {lo hi : Option Int} {Q : VK} {H : Hp} (h : ∀ n, x ≠ .int n) (q : Q (.bl (wholeV x lo hi)) H) : Q (.bl false) H := by
  cases x with
  | int n => exact absurd rfl (h n)
  | _ => exact q
theorem ok_is_whole (B : Blt mg) (F : FunAt K mg "is_whole" s_is_whole ["thing", "low", "high"]) : Def P w K mg base 1 "is_whole" ["thing", "low", "high"] (spIsWhole K) := by
  refine F.def (k := 0) sc_is_whole (fun vs H Q E h => ?_) (fun f cdv A outer s H vs Q E hr h => ?_)
  · obtain ⟨x, lo, hi, rfl, _⟩ := h
    rfl
  · obtain ⟨x, lo, hi, rfl, kn, q⟩ := h
    refine ⟨_, (pss_cons (ps_if (PW.pt (pw_or (pt_not (pt_val (pe_callB (k_isi (K := K) rfl) (by rfl) B.isinstance bb_isinstance (pa_cons (pv 0) (pa_cons (pe_bltn (v := .ty "int") (by rfl) B.int bb_int rfl) pa_nil))))) (pw_or1 (pt_val (pe_callB (k_isi (K := K) rfl) (by rfl) B.isinstance bb_isinstance (pa_cons (pv 0) (pa_cons (pe_bltn (v := .ty "bool") (by rfl) B.bool bb_bool rfl) pa_nil))))))) (pss_one (ps_ret pe_bl)) pss_nil) (pss_one (ps_ret (pe_and (pe_or (pe_cmpR op_isN (pv 1) pe_non (nomark _)) (pe_one (pe_cmpR op_le (pv 1) (pv 0) (nomark _)))) (pe_one (pe_or (pe_cmpR op_isN (pv 2) pe_non (nomark _)) (pe_one (pe_cmpR op_le (pv 0) (pv 2) (nomark _))))))))), ?_⟩; refine start_eq (σ' := [some (x), some (oV lo), some (oV hi)]) rfl ?_
    walk_at "rd"
    rcases kn with ⟨n, rfl⟩ | ⟨b, rfl⟩ | rfl | ⟨z, rfl⟩ | ⟨a, xs, rfl, h⟩ | ⟨a, xs, rfl, h⟩
    · refine isB (.base (.int n)) kb_ii ?_
      walk_at "rd"
      refine isB (.base (.int n)) kb_ib ?_
      walk_at "rd"
      have q' : Q (.bl (loOk n lo && hiOk n hi)) H := q
      have fin : ∀ b : Bool, Q (.bl (b && hiOk n hi)) H → if b = true then tOrV (tOp (fun x y H Q => y = V.non ∧ Q (V.bl (decide (x = V.non))) H) (tVar 2) (tC V.non)) (tOp (rI0 fun i j => V.bl (decide (i ≤ j))) (tVar 0) (tVar 2)) [some (.int n), some (oV lo), some (oV hi)] H Q else Q (.bl false) H := fun b qb => by
        refine s_b2 (fun e => ?_) (fun e => ?_)
        · subst e
          walk_at "rd"
          cases hi with
          | none =>
            refine s_dT rfl ?_
            exact qb
          | some m =>
            refine s_dF (by simp [oV]) ?_
            rw [oV_some]
            walk_at "rd"
            rw [Bool.true_and] at qb
            exact qb
        · subst e
          exact qb
      cases lo with
      | none =>
        refine s_dT rfl ?_
        refine s_bl ?_
        exact fin true q'
      | some l =>
        refine s_dF (by simp [oV]) ?_
        rw [oV_some]
        walk_at "rd"
        exact fin _ q'
    · refine isB (.base (.bl b)) kb_bi ?_
      walk_at "rd"
      refine isB (.base (.bl b)) kb_bb ?_
      walk_at "rd"
      exact q
    · refine isB (.base .non) kb_ni ?_
      walk_at "rd"
      exact q
    · refine isB (.base (.str z)) kb_si ?_
      walk_at "rd"
      exact q
    · refine isB (ty_lst h) kb_li ?_
      walk_at "rd"
      exact q
    · refine isB (ty_tup h) kb_ti ?_
      walk_at "rd"
      exact q
def spTn : Sp := fun vs H Q _ => ∃ s b : Int, vs = [.int s, .int b] ∧ CDivW s b ∧ Q (.int (tn s b)) H
abbrev s_are_wholes : Stmt := topS 8
abbrev n_are_wholes : List Str := ["thing", "many", "one"]
theorem sc_are_wholes : FnScope ["thing", "many", "one"] ["thing", "many"] (defScope s_are_wholes) := ⟨rfl, rfl, rfl, by decide +kernel, rfl, by decide +kernel, by decide +kernel⟩
def isInt : V → Bool
  | .int _ => true
  | _ => false
/-- of a tuple of things whose kinds are known; of what is no tuple -/
def spAreWholes (K : PySem.W.Frag) : Sp := fun vs H Q _ => (∃ a m xs, vs = [.ref a, .int m] ∧ SqT K H a xs ∧ xs.length ≤ 1000 ∧ (∀ x ∈ xs, Kn K H x) ∧ ∀ H', Same H H' → Q (.bl (decide ((xs.length : Int) = m) && xs.all isInt)) H') ∨
  (∃ x m, vs = [x, .int m] ∧ ((∃ n, x = .int n) ∨ (∃ b, x = .bl b) ∨ x = .non ∨ (∃ z, x = .str z) ∨ (∃ a xs, x = .ref a ∧ SqL K H a xs)) ∧ Q (.bl false) H)
theorem whole_all {x : V} : wholeV x none none = isInt x := by cases x <;> rfl
theorem ok_are_wholes (B : Blt mg) (d_is_whole : Def P w K mg base 1 "is_whole" ["thing", "low", "high"] (spIsWhole K)) (F : FunAt K mg "are_wholes" s_are_wholes ["thing", "many"]) : Def P w K mg base 2 "are_wholes" ["thing", "many"] (spAreWholes K) := by
  refine F.def (k := 1) sc_are_wholes (fun vs H Q E h => ?_) (fun f cdv A outer s H vs Q E hr h => ?_)
  · rcases h with ⟨a, m, xs, rfl, _⟩ | ⟨x, m, rfl, _⟩
    · rfl
    · rfl
  · rcases h with ⟨a, m, xs, rfl, ht, hl, hk, q⟩ | ⟨x, m, rfl, hx, q⟩
    · refine ⟨_, (pss_one (ps_ret (pe_and (pe_callB (k_isi (K := K) rfl) (by rfl) B.isinstance bb_isinstance (pa_cons (pv 0) (pa_cons (pe_bltn (v := .ty "tuple") (by rfl) B.tuple bb_tuple rfl) pa_nil))) (pe_and (pe_cmpR (k_eq (K := K) rfl hr.units) (pe_callB (k_len (K := K) rfl) (by rfl) B.len bb_len (pa_cons (pv 0) pa_nil)) (pv 1) (nomark _)) (pe_one (pe_callB (k_all (K := K) rfl rfl) (by rfl) B.all bb_all (pa_cons (pe_lc (own := [("one", 2)]) rfl sc_are_wholes.nd (k_seq (K := K) rfl (pv 0)) (blkOk_by (own := [("one", 2)]) (N := n_are_wholes) (sc := defScope s_are_wholes) (by decide +kernel)) (fun _ _ _ _ _ => (pg_name (i := 2) sc_are_wholes.nd rfl (Or.inl rfl))) (fun _ _ _ _ _ => pts_nil) (fun _ _ _ _ _ => (pe_d d_is_whole (hr.mono (by decide)) (by rfl) (pa_cons (pv 2) (pa_cons pe_non (pa_cons pe_non pa_nil)))))) pa_nil))))))), ?_⟩; refine start_eq (σ' := [some (.ref a), some (.int m), none]) rfl ?_
      walk_at "rd"
      refine isB (ty_tup ht) kb_tt ?_
      walk_at "rd"
      refine s_lenT ht ?_
      walk_at "rd"
      refine s_d2 (fun e => ?_) (fun e => ?_)
      · walk_at "rd"
        refine .inr ⟨_, rfl, ⟨_, ht⟩, ?_⟩
        refine lc_map walk_tup (F := H) (Same.refl H) (by omega) (fun H' e' => sqT_mono e' ht) (fun i _ v => ∃ x, xs[i]? = some x ∧ v = .bl (isInt x)) (fun _ _ _ _ _ h => h) (fun i x F' H1 H2 D Z hi ex _ _ hy hz => ?_) (fun D ys F' H' hD ex hd hlen hR => ?_)
        · obtain ⟨rfl, hx⟩ := hy
          walk_at "rd"
          refine ⟨rfl, ?_⟩
          walk_at "rd"
          refine ⟨x, none, none, rfl, ?_, ?_⟩
          · have := hk x (List.mem_of_getElem? hx)
            rcases this with h | h | h | h | ⟨b, ys, h1, h2⟩ | ⟨b, ys, h1, h2⟩
            · exact .inl h
            · exact .inr (.inl h)
            · exact .inr (.inr (.inl h))
            · exact .inr (.inr (.inr (.inl h)))
            · exact .inr (.inr (.inr (.inr (.inl ⟨b, ys, h1, sqL_mono ex.hh h2⟩))))
            · exact .inr (.inr (.inr (.inr (.inr ⟨b, ys, h1, sqT_mono ex.hh h2⟩))))
          · exact hz _ F' _ (Ext.refl ex.fh) ⟨x, hx, by rw [whole_all]⟩
        · walk_at "rd"
          have hys : ys = (xs.map isInt).map V.bl := by
            refine List.ext_getElem? fun i => ?_
            cases hv : ys[i]? with
            | none =>
              have : ys.length ≤ i := List.getElem?_eq_none_iff.mp hv
              rw [List.getElem?_eq_none (by simp; omega)]
            | some v =>
              obtain ⟨x, h1, rfl⟩ := hR i v hv
              simp [h1]
          refine s_all (bs := xs.map isInt) (.inl (.inl ?_)) ?_
          · rw [← hys]
            exact ex.fh _ _ hd
          · have := q H' ex.hh
            rw [decide_eq_true e, Bool.true_and] at this
            rw [List.all_map]
            exact this
      · have := q H (Same.refl H)
        rw [decide_eq_false e] at this
        exact this
    · refine ⟨_, (pss_one (ps_ret (pe_and (pe_callB (k_isi (K := K) rfl) (by rfl) B.isinstance bb_isinstance (pa_cons (pv 0) (pa_cons (pe_bltn (v := .ty "tuple") (by rfl) B.tuple bb_tuple rfl) pa_nil))) (pe_and (pe_cmpR (k_eq (K := K) rfl hr.units) (pe_callB (k_len (K := K) rfl) (by rfl) B.len bb_len (pa_cons (pv 0) pa_nil)) (pv 1) (nomark _)) (pe_one (pe_callB (k_all (K := K) rfl rfl) (by rfl) B.all bb_all (pa_cons (pe_lc (own := [("one", 2)]) rfl sc_are_wholes.nd (k_seq (K := K) rfl (pv 0)) (blkOk_by (own := [("one", 2)]) (N := n_are_wholes) (sc := defScope s_are_wholes) (by decide +kernel)) (fun _ _ _ _ _ => (pg_name (i := 2) sc_are_wholes.nd rfl (Or.inl rfl))) (fun _ _ _ _ _ => pts_nil) (fun _ _ _ _ _ => (pe_d d_is_whole (hr.mono (by decide)) (by rfl) (pa_cons (pv 2) (pa_cons pe_non (pa_cons pe_non pa_nil)))))) pa_nil))))))), ?_⟩; refine start_eq (σ' := [some (x), some (.int m), none]) rfl ?_
      walk_at "rd"
      rcases hx with ⟨n, rfl⟩ | ⟨b, rfl⟩ | rfl | ⟨z, rfl⟩ | ⟨a, xs, rfl, h⟩
      · refine isB (.base (.int n)) kb_it ?_
        walk_at "rd"
        exact q
      · refine isB (.base (.bl b)) kb_bt ?_
        walk_at "rd"
        exact q
      · refine isB (.base .non) kb_nt ?_
        walk_at "rd"
        exact q
      · refine isB (.base (.str z)) kb_st ?_
        walk_at "rd"
        exact q
      · refine isB (ty_lst h) kb_lt ?_
        walk_at "rd"
        exact q
end
end G

namespace G
open PySem PySem.Spec PyProof.Rows L2
local macro_rules | `(tactic| walk_at "lk") => `(tactic| first | assumption | exact rT_at | exact rL_at | exact upd_same | (refine sqT_mono ?_ (by assumption); assumption) | (refine sqL_mono ?_ (by assumption); assumption) | (refine rT_new (by assumption) ?_; walk_at "lk") | (refine rL_new (by assumption) ?_; walk_at "lk") | (refine rH_new (by assumption) ?_; walk_at "lk") | (refine rD_new (by assumption) ?_; walk_at "lk") | (refine dp_mono ?_ (by assumption); assumption))
local macro_rules | `(tactic| walk_at "r1") => `(tactic| first | ((with_reducible show tVar _ _ _ _); refine s_var rfl ?_) | with_reducible refine s_c ?_ | with_reducible refine s_op ?_ | with_reducible refine s_un ?_ | with_reducible refine s_neg ?_ | with_reducible refine s_test ?_ | with_reducible refine s_B ?_ | with_reducible refine s_bl ?_ | with_reducible refine s_not ?_ | with_reducible refine s_yes ?_ | with_reducible refine s_and ?_ | with_reducible refine s_or ?_ | with_reducible refine s_notV ?_ | with_reducible refine s_andV ?_ | with_reducible refine s_orV ?_ | with_reducible refine s_if ?_ | with_reducible refine s_cT ?_ | with_reducible refine s_cF ?_ | with_reducible refine s_nT ?_ | with_reducible refine s_nF ?_ | with_reducible refine s_addI ?_ | with_reducible refine s_eqI ?_ | with_reducible refine s_neI ?_ | with_reducible refine s_eqB ?_ | with_reducible refine s_neB ?_ | with_reducible refine s_I0 ?_ | with_reducible refine s_non ?_ | with_reducible refine s_int ?_ | with_reducible refine s_chain ?_ | with_reducible refine s_cons ?_ | with_reducible refine s_nil ?_ | with_reducible refine s_call ?_ | with_reducible refine s_cb ?_ | with_reducible refine s_meth ?_ | with_reducible refine s_make ?_ | with_reducible refine s_tup ?_ | with_reducible refine s_lst ?_ | with_reducible refine s_bm ?_ | with_reducible refine s_bm0 ?_ | with_reducible refine s_bmT ?_ | with_reducible refine s_fld ?_ | with_reducible refine s_dget ?_ | with_reducible refine s_sl ?_ | with_reducible refine s_part ?_ | with_reducible refine s_nopart ?_ | with_reducible refine s_seq ?_ | with_reducible refine s_next ?_ | with_reducible refine s_asg ?_ | with_reducible refine s_gn ?_ | with_reducible refine s_gc ?_ | with_reducible refine s_g0 ?_ | with_reducible refine s_gs ?_ | with_reducible refine s_ret ?_ | with_reducible refine s_ifS ?_ | with_reducible refine s_drop ?_ | with_reducible refine s_augS ?_ | ((with_reducible show tAug _ _ _ _ _ _); refine s_aug rfl ?_) | with_reducible refine s_ipI ?_ | with_reducible refine s_for ?_ | with_reducible refine s_iseq ?_ | with_reducible refine s_rng1 ?_ | with_reducible refine s_izip ?_ | with_reducible refine s_lc ?_ | with_reducible refine s_lc2 ?_ | with_reducible refine s_lstRg ?_ | with_reducible refine s_rg1 ?_ | with_reducible refine s_sfld ?_ | with_reducible refine s_ienum ?_ | with_reducible refine s_disp ?_ | with_reducible refine s_pc ?_ | with_reducible refine s_pn ?_)
local macro_rules | `(tactic| walk_at "rd") => `(tactic| repeat walk_at "r1")

section
variable {P : Program} {w : World} {K : PySem.W.Frag} {mg : Str → Option Value} {base : Heap} {C : Addr}
/-! ### grinding -/
def spPW (K : PySem.W.Frag) (C : Addr) : Sp := fun vs H Q _ => ∃ b B p, ∃ u v : Nat, vs = [.ref b, .ref p] ∧ BenchAt K C H b B ∧ SqT K H p [.int u, .int v] ∧ u < B.heavy.length ∧ v < B.heavy.length ∧
  ∀ q, H q = none → Q (.ref q) (upd H q (.tup [.int (B.heavy.getD u 0), .int (B.heavy.getD v 0)]))
def spGrains (K : PySem.W.Frag) (C : Addr) : Sp := fun vs H Q _ => ∃ b B s hs p, ∃ u v : Nat, vs = [.ref b, .ref s, .ref p] ∧ BOk B ∧ BenchAt K C H b B ∧ SqT K H s (hs.map V.int) ∧ hs.length = B.heavy.length ∧ SqT K H p [.int u, .int v] ∧ u < B.heavy.length ∧ v < B.heavy.length ∧
  ∀ H', Same H H' → Q (.int (grain B.heavy hs (u, v))) H'
theorem div_small {s b : Int} (h1 : 0 < b) (h2 : b ≤ 1000000) : CDivW s b := wide_div (b := 20) h1 (by omega) (by decide) (by decide)
/-- the bench, a stand, a grinding's number: what the functions of grinding are handed -/
structure GA (K : PySem.W.Frag) (C : Addr) (H : Hp) (b s : Addr) (B : BD) (hs : List Int) (r : List (Nat × Nat)) (k : Nat) : Prop where
  ok : BOk B
  bench : BenchAt K C H b B
  stand : SqT K H s (hs.map V.int)
  len : hs.length = B.heavy.length
  row : B.meets[k]? = some r
theorem GA.mono {H H' : Hp} {b s : Addr} {B : BD} {hs : List Int} {r : List (Nat × Nat)} {k : Nat} (e : Same H H') (h : GA K C H b s B hs r k) : GA K C H' b s B hs r k := ⟨h.ok, h.bench.mono e, sqT_mono e h.stand, h.len, h.row⟩
theorem GA.mem {H : Hp} {b s : Addr} {B : BD} {hs : List Int} {r : List (Nat × Nat)} {k : Nat} (h : GA K C H b s B hs r k) : r ∈ B.meets := List.mem_of_getElem? h.row
def spDust (K : PySem.W.Frag) (C : Addr) : Sp := fun vs H Q _ => ∃ b B s hs r k, vs = [.ref b, .ref s, .int (k : Nat)] ∧ GA K C H b s B hs r k ∧
  ∀ H' p, Same H H' → H p = none → H' p = some (.tup ((dust B.heavy hs r).map V.int)) → Q (.ref p) H'
def spTaken (K : PySem.W.Frag) (C : Addr) : Sp := fun vs H Q _ => ∃ b B s hs pa d, ∃ (r : List (Nat × Nat)) (gs : List Int), vs = [.ref b, .ref s, .ref pa, .ref d] ∧ BOk B ∧ BenchAt K C H b B ∧ SqT K H s (hs.map V.int) ∧ hs.length = B.heavy.length ∧
  Dp K H (.ref pa) (.list (r.map pD)) ∧ (∀ p ∈ r, p.1 < B.heavy.length ∧ p.2 < B.heavy.length) ∧ r.length ≤ 1000 ∧ SqT K H d (gs.map V.int) ∧ gs.length = r.length ∧
  ∀ H' p, Same H H' → H p = none → H' p = some (.tup ((takeAll B.heavy hs r gs).map V.int)) → Q (.ref p) H'
end
end G

namespace G
open PySem PySem.Spec PyProof.Rows L2
local macro_rules | `(tactic| walk_at "lk") => `(tactic| first | assumption | exact rT_at | exact rL_at | exact upd_same | (refine sqT_mono ?_ (by assumption); assumption) | (refine sqL_mono ?_ (by assumption); assumption) | (refine rT_new (by assumption) ?_; walk_at "lk") | (refine rL_new (by assumption) ?_; walk_at "lk") | (refine rH_new (by assumption) ?_; walk_at "lk") | (refine rD_new (by assumption) ?_; walk_at "lk") | (refine dp_mono ?_ (by assumption); assumption))
local macro_rules | `(tactic| walk_at "r1") => `(tactic| first | ((with_reducible show tVar _ _ _ _); refine s_var rfl ?_) | with_reducible refine s_c ?_ | with_reducible refine s_op ?_ | with_reducible refine s_un ?_ | with_reducible refine s_neg ?_ | with_reducible refine s_test ?_ | with_reducible refine s_B ?_ | with_reducible refine s_bl ?_ | with_reducible refine s_not ?_ | with_reducible refine s_yes ?_ | with_reducible refine s_and ?_ | with_reducible refine s_or ?_ | with_reducible refine s_notV ?_ | with_reducible refine s_andV ?_ | with_reducible refine s_orV ?_ | with_reducible refine s_if ?_ | with_reducible refine s_cT ?_ | with_reducible refine s_cF ?_ | with_reducible refine s_nT ?_ | with_reducible refine s_nF ?_ | with_reducible refine s_addI ?_ | with_reducible refine s_eqI ?_ | with_reducible refine s_neI ?_ | with_reducible refine s_eqB ?_ | with_reducible refine s_neB ?_ | with_reducible refine s_I0 ?_ | with_reducible refine s_non ?_ | with_reducible refine s_int ?_ | with_reducible refine s_chain ?_ | with_reducible refine s_cons ?_ | with_reducible refine s_nil ?_ | with_reducible refine s_call ?_ | with_reducible refine s_cb ?_ | with_reducible refine s_meth ?_ | with_reducible refine s_make ?_ | with_reducible refine s_tup ?_ | with_reducible refine s_lst ?_ | with_reducible refine s_bm ?_ | with_reducible refine s_bm0 ?_ | with_reducible refine s_bmT ?_ | with_reducible refine s_fld ?_ | with_reducible refine s_dget ?_ | with_reducible refine s_sl ?_ | with_reducible refine s_part ?_ | with_reducible refine s_nopart ?_ | with_reducible refine s_seq ?_ | with_reducible refine s_next ?_ | with_reducible refine s_asg ?_ | with_reducible refine s_gn ?_ | with_reducible refine s_gc ?_ | with_reducible refine s_g0 ?_ | with_reducible refine s_gs ?_ | with_reducible refine s_ret ?_ | with_reducible refine s_ifS ?_ | with_reducible refine s_drop ?_ | with_reducible refine s_augS ?_ | ((with_reducible show tAug _ _ _ _ _ _); refine s_aug rfl ?_) | with_reducible refine s_ipI ?_ | with_reducible refine s_for ?_ | with_reducible refine s_iseq ?_ | with_reducible refine s_rng1 ?_ | with_reducible refine s_izip ?_ | with_reducible refine s_lc ?_ | with_reducible refine s_lc2 ?_ | with_reducible refine s_lstRg ?_ | with_reducible refine s_rg1 ?_ | with_reducible refine s_sfld ?_ | with_reducible refine s_ienum ?_ | with_reducible refine s_disp ?_ | with_reducible refine s_pc ?_ | with_reducible refine s_pn ?_)
local macro_rules | `(tactic| walk_at "rd") => `(tactic| repeat walk_at "r1")

section
variable {P : Program} {w : World} {K : PySem.W.Frag} {mg : Str → Option Value} {base : Heap} {C : Addr}
def spDone (K : PySem.W.Frag) (C : Addr) : Sp := fun vs H Q _ => ∃ b B s hs r k, vs = [.ref b, .ref s, .int (k : Nat)] ∧ GA K C H b s B hs r k ∧
  ∀ H' p p1 p2, Same H H' → H p = none → H p1 = none → H p2 = none → H' p = some (.tup [.ref p1, .ref p2]) → H' p1 = some (.tup ((after B.heavy hs r).map V.int)) → H' p2 = some (.tup ((dust B.heavy hs r).map V.int)) → Q (.ref p) H'
def spTakesOff (K : PySem.W.Frag) (C : Addr) : Sp := fun vs H Q _ => ∃ b B s hs r k, vs = [.ref b, .ref s, .int (k : Nat)] ∧ GA K C H b s B hs r k ∧ ∀ H', Same H H' → Q (.bl (takesOff B.heavy hs r)) H'
def taking (B : BD) (hs : List Int) : List Int := ((List.range B.meets.length).filter fun k => takesOff B.heavy hs (B.meets.getD k [])).map fun (k : Nat) => (k : Int)
structure GB (K : PySem.W.Frag) (C : Addr) (H : Hp) (b s : Addr) (B : BD) (hs : List Int) : Prop where
  ok : BOk B
  bench : BenchAt K C H b B
  stand : SqT K H s (hs.map V.int)
  len : hs.length = B.heavy.length
theorem GB.at {H : Hp} {b s : Addr} {B : BD} {hs : List Int} (g : GB K C H b s B hs) {k : Nat} (h : k < B.meets.length) : GA K C H b s B hs (B.meets.getD k []) k :=
  ⟨g.ok, g.bench, g.stand, g.len, by rw [List.getD_eq_getElem?_getD, List.getElem?_eq_getElem h]; rfl⟩
theorem GB.mono {H H' : Hp} {b s : Addr} {B : BD} {hs : List Int} (e : Same H H') (h : GB K C H b s B hs) : GB K C H' b s B hs := ⟨h.ok, h.bench.mono e, sqT_mono e h.stand, h.len⟩
def spTaking (K : PySem.W.Frag) (C : Addr) : Sp := fun vs H Q _ => ∃ b B s hs, vs = [.ref b, .ref s] ∧ GB K C H b s B hs ∧ ∀ H' p, Same H H' → H p = none → H' p = some (.lst ((taking B hs).map V.int)) → Q (.ref p) H'
end
end G

namespace G
open PySem PySem.Spec PyProof.Rows L2
local macro_rules | `(tactic| walk_at "lk") => `(tactic| first | assumption | exact rT_at | exact rL_at | exact upd_same | (refine sqT_mono ?_ (by assumption); assumption) | (refine sqL_mono ?_ (by assumption); assumption) | (refine rT_new (by assumption) ?_; walk_at "lk") | (refine rL_new (by assumption) ?_; walk_at "lk") | (refine rH_new (by assumption) ?_; walk_at "lk") | (refine rD_new (by assumption) ?_; walk_at "lk") | (refine dp_mono ?_ (by assumption); assumption))
local macro_rules | `(tactic| walk_at "r1") => `(tactic| first | ((with_reducible show tVar _ _ _ _); refine s_var rfl ?_) | with_reducible refine s_c ?_ | with_reducible refine s_op ?_ | with_reducible refine s_un ?_ | with_reducible refine s_neg ?_ | with_reducible refine s_test ?_ | with_reducible refine s_B ?_ | with_reducible refine s_bl ?_ | with_reducible refine s_not ?_ | with_reducible refine s_yes ?_ | with_reducible refine s_and ?_ | with_reducible refine s_or ?_ | with_reducible refine s_notV ?_ | with_reducible refine s_andV ?_ | with_reducible refine s_orV ?_ | with_reducible refine s_if ?_ | with_reducible refine s_cT ?_ | with_reducible refine s_cF ?_ | with_reducible refine s_nT ?_ | with_reducible refine s_nF ?_ | with_reducible refine s_addI ?_ | with_reducible refine s_eqI ?_ | with_reducible refine s_neI ?_ | with_reducible refine s_eqB ?_ | with_reducible refine s_neB ?_ | with_reducible refine s_I0 ?_ | with_reducible refine s_non ?_ | with_reducible refine s_int ?_ | with_reducible refine s_chain ?_ | with_reducible refine s_cons ?_ | with_reducible refine s_nil ?_ | with_reducible refine s_call ?_ | with_reducible refine s_cb ?_ | with_reducible refine s_meth ?_ | with_reducible refine s_make ?_ | with_reducible refine s_tup ?_ | with_reducible refine s_lst ?_ | with_reducible refine s_bm ?_ | with_reducible refine s_bm0 ?_ | with_reducible refine s_bmT ?_ | with_reducible refine s_fld ?_ | with_reducible refine s_dget ?_ | with_reducible refine s_sl ?_ | with_reducible refine s_part ?_ | with_reducible refine s_nopart ?_ | with_reducible refine s_seq ?_ | with_reducible refine s_next ?_ | with_reducible refine s_asg ?_ | with_reducible refine s_gn ?_ | with_reducible refine s_gc ?_ | with_reducible refine s_g0 ?_ | with_reducible refine s_gs ?_ | with_reducible refine s_ret ?_ | with_reducible refine s_ifS ?_ | with_reducible refine s_drop ?_ | with_reducible refine s_augS ?_ | ((with_reducible show tAug _ _ _ _ _ _); refine s_aug rfl ?_) | with_reducible refine s_ipI ?_ | with_reducible refine s_for ?_ | with_reducible refine s_iseq ?_ | with_reducible refine s_rng1 ?_ | with_reducible refine s_izip ?_ | with_reducible refine s_lc ?_ | with_reducible refine s_lc2 ?_ | with_reducible refine s_lstRg ?_ | with_reducible refine s_rg1 ?_ | with_reducible refine s_sfld ?_ | with_reducible refine s_ienum ?_ | with_reducible refine s_disp ?_ | with_reducible refine s_pc ?_ | with_reducible refine s_pn ?_)
local macro_rules | `(tactic| walk_at "rd") => `(tactic| repeat walk_at "r1")

section
variable {P : Program} {w : World} {K : PySem.W.Frag} {mg : Str → Option Value} {base : Heap} {C : Addr}
theorem all_isInt (ns : List Int) : (ns.map V.int).all isInt = true := by
  rw [List.all_map]
  exact List.all_eq_true.mpr fun _ _ => rfl
theorem kn_int {H : Hp} {ns : List Int} : ∀ x ∈ ns.map V.int, Kn K H x := fun x h => by
  obtain ⟨n, _, rfl⟩ := List.mem_map.mp h
  exact .inl ⟨n, rfl⟩
/-- is_stand of a thing whose kind is known -/
def spIsStand (K : PySem.W.Frag) (C : Addr) : Sp := fun vs H Q _ => ∃ b B, BOk B ∧ BenchAt K C H b B ∧ ((∃ a xs, vs = [.ref b, .ref a] ∧ SqT K H a xs ∧ xs.length ≤ 1000 ∧ (∀ x ∈ xs, Kn K H x) ∧ ∀ H', Same H H' → Q (.bl (decide (xs.length = B.heavy.length) && xs.all isInt)) H') ∨
  (∃ x, vs = [.ref b, x] ∧ ((∃ n, x = .int n) ∨ (∃ b, x = .bl b) ∨ x = .non ∨ (∃ z, x = .str z) ∨ (∃ a xs, x = .ref a ∧ SqL K H a xs)) ∧ Q (.bl false) H))
def spSureStand (K : PySem.W.Frag) (C : Addr) : Sp := fun vs H Q _ => ∃ b B s hs, vs = [.ref b, .ref s] ∧ GB K C H b s B hs ∧ ∀ H', Same H H' → Q .non H'
def spSureNumber (K : PySem.W.Frag) (C : Addr) : Sp := fun vs H Q _ => ∃ b B k, vs = [.ref b, .int (k : Nat)] ∧ BOk B ∧ BenchAt K C H b B ∧ k < B.told.length ∧ Q .non H
def spIsRest (K : PySem.W.Frag) (C : Addr) : Sp := fun vs H Q _ => ∃ b B s hs, vs = [.ref b, .ref s] ∧ GB K C H b s B hs ∧ ∀ H', Same H H' → Q (.bl (decide (taking B hs = []))) H'
end
end G

namespace G
open PySem PySem.Spec PyProof.Rows L2
local macro_rules | `(tactic| walk_at "lk") => `(tactic| first | assumption | exact rT_at | exact rL_at | exact upd_same | (refine sqT_mono ?_ (by assumption); assumption) | (refine sqL_mono ?_ (by assumption); assumption) | (refine rT_new (by assumption) ?_; walk_at "lk") | (refine rL_new (by assumption) ?_; walk_at "lk") | (refine rH_new (by assumption) ?_; walk_at "lk") | (refine rD_new (by assumption) ?_; walk_at "lk") | (refine dp_mono ?_ (by assumption); assumption))
local macro_rules | `(tactic| walk_at "r1") => `(tactic| first | ((with_reducible show tVar _ _ _ _); refine s_var rfl ?_) | with_reducible refine s_c ?_ | with_reducible refine s_op ?_ | with_reducible refine s_un ?_ | with_reducible refine s_neg ?_ | with_reducible refine s_test ?_ | with_reducible refine s_B ?_ | with_reducible refine s_bl ?_ | with_reducible refine s_not ?_ | with_reducible refine s_yes ?_ | with_reducible refine s_and ?_ | with_reducible refine s_or ?_ | with_reducible refine s_notV ?_ | with_reducible refine s_andV ?_ | with_reducible refine s_orV ?_ | with_reducible refine s_if ?_ | with_reducible refine s_cT ?_ | with_reducible refine s_cF ?_ | with_reducible refine s_nT ?_ | with_reducible refine s_nF ?_ | with_reducible refine s_addI ?_ | with_reducible refine s_eqI ?_ | with_reducible refine s_neI ?_ | with_reducible refine s_eqB ?_ | with_reducible refine s_neB ?_ | with_reducible refine s_I0 ?_ | with_reducible refine s_non ?_ | with_reducible refine s_int ?_ | with_reducible refine s_chain ?_ | with_reducible refine s_cons ?_ | with_reducible refine s_nil ?_ | with_reducible refine s_call ?_ | with_reducible refine s_cb ?_ | with_reducible refine s_meth ?_ | with_reducible refine s_make ?_ | with_reducible refine s_tup ?_ | with_reducible refine s_lst ?_ | with_reducible refine s_bm ?_ | with_reducible refine s_bm0 ?_ | with_reducible refine s_bmT ?_ | with_reducible refine s_fld ?_ | with_reducible refine s_dget ?_ | with_reducible refine s_sl ?_ | with_reducible refine s_part ?_ | with_reducible refine s_nopart ?_ | with_reducible refine s_seq ?_ | with_reducible refine s_next ?_ | with_reducible refine s_asg ?_ | with_reducible refine s_gn ?_ | with_reducible refine s_gc ?_ | with_reducible refine s_g0 ?_ | with_reducible refine s_gs ?_ | with_reducible refine s_ret ?_ | with_reducible refine s_ifS ?_ | with_reducible refine s_drop ?_ | with_reducible refine s_augS ?_ | ((with_reducible show tAug _ _ _ _ _ _); refine s_aug rfl ?_) | with_reducible refine s_ipI ?_ | with_reducible refine s_for ?_ | with_reducible refine s_iseq ?_ | with_reducible refine s_rng1 ?_ | with_reducible refine s_izip ?_ | with_reducible refine s_lc ?_ | with_reducible refine s_lc2 ?_ | with_reducible refine s_lstRg ?_ | with_reducible refine s_rg1 ?_ | with_reducible refine s_sfld ?_ | with_reducible refine s_ienum ?_ | with_reducible refine s_disp ?_ | with_reducible refine s_pc ?_ | with_reducible refine s_pn ?_)
local macro_rules | `(tactic| walk_at "rd") => `(tactic| repeat walk_at "r1")

section
variable {P : Program} {w : World} {K : PySem.W.Frag} {mg : Str → Option Value} {base : Heap} {C : Addr}
abbrev s_is_hardness : Stmt := topS 14
abbrev n_is_hardness : List Str := ["thing", "one"]
theorem sc_is_hardness : FnScope ["thing", "one"] ["thing"] (defScope s_is_hardness) := ⟨rfl, rfl, rfl, by decide +kernel, rfl, by decide +kernel, by decide +kernel⟩
theorem kn_mono {H H' : Hp} {x : V} (e : Same H H') (h : Kn K H x) : Kn K H' x := by
  rcases h with h | h | h | h | ⟨b, ys, h1, h2⟩ | ⟨b, ys, h1, h2⟩
  · exact .inl h
  · exact .inr (.inl h)
  · exact .inr (.inr (.inl h))
  · exact .inr (.inr (.inr (.inl h)))
  · exact .inr (.inr (.inr (.inr (.inl ⟨b, ys, h1, sqL_mono e h2⟩))))
  · exact .inr (.inr (.inr (.inr (.inr ⟨b, ys, h1, sqT_mono e h2⟩))))
/-- of a list of things whose kinds are known -/
def spIsHard (K : PySem.W.Frag) : Sp := fun vs H Q _ => ∃ a xs, vs = [.ref a] ∧ SqL K H a xs ∧ xs.length ≤ 1000 ∧ (∀ x ∈ xs, Kn K H x) ∧ ∀ H', Same H H' → Q (.bl (decide (2 ≤ xs.length ∧ xs.length ≤ 4) && xs.all fun x => wholeV x (some 1) (some 9))) H'
theorem ok_is_hardness (B : Blt mg) (T : Txt K mg C) (d_is_whole : Def P w K mg base 1 "is_whole" ["thing", "low", "high"] (spIsWhole K)) (F : FunAt K mg "is_hardness" s_is_hardness ["thing"]) : Def P w K mg base 2 "is_hardness" ["thing"] (spIsHard K) := by
  refine F.def (k := 1) sc_is_hardness (fun vs H Q E h => ?_) (fun f cdv A outer s H vs Q E hr h => ?_)
  · obtain ⟨a, xs, rfl, _⟩ := h
    rfl
  · obtain ⟨a, xs, rfl, ha, hl, hk, q⟩ := h
    obtain ⟨_, g_MOST_PLATES⟩ := T.g_MOST_PLATES
    obtain ⟨_, g_MOST_HARDNESS⟩ := T.g_MOST_HARDNESS
    refine ⟨_, (pss_cons (ps_if (PW.pt (pw_or (pt_not (pt_val (pe_callB (k_isi (K := K) rfl) (by rfl) B.isinstance bb_isinstance (pa_cons (pv 0) (pa_cons (pe_bltn (v := .ty "list") (by rfl) B.list bb_list rfl) pa_nil))))) (pw_or1 (pt_not (pt_chain op_le op_le pe_int (pe_callB (k_len (K := K) rfl) (by rfl) B.len bb_len (pa_cons (pv 0) pa_nil)) (pe_glob (v := .int 4) rfl g_MOST_PLATES ⟨_, rfl⟩)))))) (pss_one (ps_ret pe_bl)) pss_nil) (pss_one (ps_ret (pe_callB (k_all (K := K) rfl rfl) (by rfl) B.all bb_all (pa_cons (pe_lc (own := [("one", 1)]) rfl sc_is_hardness.nd (k_seq (K := K) rfl (pv 0)) (blkOk_by (own := [("one", 1)]) (N := n_is_hardness) (sc := defScope s_is_hardness) (by decide +kernel)) (fun _ _ _ _ _ => (pg_name (i := 1) sc_is_hardness.nd rfl (Or.inl rfl))) (fun _ _ _ _ _ => pts_nil) (fun _ _ _ _ _ => (pe_d d_is_whole (hr.mono (by decide)) (by rfl) (pa_cons (pv 1) (pa_cons pe_int (pa_cons (pe_glob (v := .int 9) rfl g_MOST_HARDNESS ⟨_, rfl⟩) pa_nil)))))) pa_nil))))), ?_⟩; refine start_eq (σ' := [some (.ref a), none]) rfl ?_
    walk_at "rd"
    refine isB (ty_lst ha) kb_ll ?_
    walk_at "rd"
    refine s_lenL ha ?_
    walk_at "rd"
    have no : ¬ (2 ≤ xs.length ∧ xs.length ≤ 4) → Q (.bl false) H := fun h => by
      have := q H (Same.refl H)
      rw [decide_eq_false h] at this
      exact this
    refine s_d2 (fun e1 => ?_) (fun e1 => ?_)
    · walk_at "rd"
      refine s_n2 (fun e2 => ?_) (fun e2 => ?_)
      · walk_at "rd"
        exact no (by omega)
      · walk_at "rd"
        refine .inl ⟨_, rfl, ⟨_, ha⟩, ?_⟩
        refine lc_map (walk_list (xs := xs)) (F := H) (Same.refl H) (by omega) (fun H' e' => sqL_mono e' ha) (fun i _ v => ∃ x, xs[i]? = some x ∧ v = .bl (wholeV x (some 1) (some 9))) (fun _ _ _ _ _ h => h) (fun i x F' H1 H2 D Z hi ex _ _ hy hz => ?_) (fun D ys F' H' hD ex hd hlen hR => ?_)
        · obtain ⟨rfl, hx⟩ := hy
          walk_at "rd"
          refine ⟨rfl, ?_⟩
          walk_at "rd"
          exact ⟨x, some 1, some 9, rfl, kn_mono ex.hh (hk x (List.mem_of_getElem? hx)), hz _ F' _ (Ext.refl ex.fh) ⟨x, hx, rfl⟩⟩
        · walk_at "rd"
          have hys : ys = (xs.map fun x => wholeV x (some 1) (some 9)).map V.bl := by
            refine List.ext_getElem? fun i => ?_
            cases hv : ys[i]? with
            | none =>
              have : ys.length ≤ i := List.getElem?_eq_none_iff.mp hv
              rw [List.getElem?_eq_none (by simp; omega)]
            | some v =>
              obtain ⟨x, h1, rfl⟩ := hR i v hv
              simp [h1]
          subst hys
          refine s_all (.inl (.inl (ex.fh _ _ hd))) ?_
          have := q H' ex.hh
          rw [decide_eq_true (by omega), Bool.true_and] at this
          rw [List.all_map]
          exact this
    · walk_at "rd"
      exact no (by omega)
abbrev s_is_turn : Stmt := topS 15
abbrev n_is_turn : List Str := ["thing", "places"]
theorem sc_is_turn : FnScope ["thing", "places"] ["thing", "places"] (defScope s_is_turn) := ⟨rfl, rfl, rfl, by decide +kernel, rfl, by decide +kernel, by decide +kernel⟩
/-- of a turn that is one -/
def spIsTurn (K : PySem.W.Frag) : Sp := fun vs H Q _ => ∃ a, ∃ (tn : List Nat) (n : Nat), vs = [.ref a, .int n] ∧ SqT K H a (tn.map fun (x : Nat) => V.int x) ∧ tn.Perm (List.range n) ∧ n ≤ 50 ∧ ∀ H', Same H H' → Q (.bl true) H'
theorem natV (l : List Nat) : (l.map fun (x : Nat) => V.int x) = (l.map fun (x : Nat) => (x : Int)).map V.int := by rw [List.map_map]; rfl
theorem range_up (n : Nat) : ((List.range n).map fun (x : Nat) => (x : Int)).Pairwise (· ≤ ·) := by
  rw [List.pairwise_map]
  exact List.pairwise_lt_range.imp fun h => by omega
theorem rgV_nat (n : Nat) : rgV 0 n = ((List.range n).map fun (x : Nat) => (x : Int)).map V.int := by
  unfold rgV
  rw [List.map_map]
  simp
theorem ok_is_turn (B : Blt mg) (d_are_wholes : Def P w K mg base 2 "are_wholes" ["thing", "many"] (spAreWholes K)) (F : FunAt K mg "is_turn" s_is_turn ["thing", "places"]) : Def P w K mg base 3 "is_turn" ["thing", "places"] (spIsTurn K) := by
  refine F.def (k := 2) sc_is_turn (fun vs H Q E h => ?_) (fun f cdv A outer s H vs Q E hr h => ?_)
  · obtain ⟨a, tn, n, rfl, _⟩ := h
    rfl
  · obtain ⟨a, tn, n, rfl, ht, hp, hn, q⟩ := h
    rw [natV] at ht
    have len : tn.length = n := by rw [hp.length_eq, List.length_range]
    refine ⟨_, (pss_one (ps_ret (pe_and (pe_d d_are_wholes (hr.mono (by decide)) (by rfl) (pa_cons (pv 0) (pa_cons (pv 1) pa_nil))) (pe_one (pe_cmpR (k_eq (K := K) rfl hr.units) (pe_callB (k_sorted (K := K) rfl) (by rfl) B.sorted bb_sorted (pa_cons (pv 0) pa_nil)) (pe_listRg rfl (by rfl) B.list (prg_1 (by rfl) B.range (pv 1))) (nomark _)))))), ?_⟩; refine start_eq (σ' := [some (.ref a), some (.int n)]) rfl ?_
    walk_at "rd"
    refine .inl ⟨a, n, _, rfl, ht, by simp; omega, kn_int, fun H1 s1 => ?_⟩
    rw [all_isInt, List.length_map, List.length_map, decide_eq_true (by omega), Bool.true_and]
    walk_at "rd"
    refine .inr ⟨a, _, rfl, sqT_mono s1 ht, by simp; omega, fun ns p perm up np => ?_⟩
    walk_at "rd"
    refine ⟨RgOk.of_le (by omega) (by omega) (by omega) (by omega), fun o no => ?_⟩
    have e : ns = (List.range n).map fun (x : Nat) => (x : Int) := (perm.trans (hp.map _)).eq_of_pairwise (fun _ _ _ _ a b => Int.le_antisymm a b) up (range_up n)
    rw [rgV_nat, ← e]
    refine s_eqD (dp_lstI (rL_new no rL_at)) (dp_lstI rL_at) (sh_shaped (sh_listI _)) (sh_shaped (sh_listI _)) ?_
    rw [eqv_self (sh_listI ns)]
    exact q _ ((s1.trans (same_upd np)).trans (same_upd no))
abbrev s_is_grinding : Stmt := topS 16
abbrev n_is_grinding : List Str := ["thing", "plates", "places"]
theorem sc_is_grinding : FnScope ["thing", "plates", "places"] ["thing", "plates", "places"] (defScope s_is_grinding) := ⟨rfl, rfl, rfl, by decide +kernel, rfl, by decide +kernel, by decide +kernel⟩
def spIsGrind (K : PySem.W.Frag) : Sp := fun vs H Q _ => ∃ v, ∃ (g : Nat × Nat × List Nat) (m n : Nat), vs = [v, .int m, .int n] ∧ Dp K H v (gD g) ∧ g.1 < m ∧ g.2.1 < m ∧ g.1 ≠ g.2.1 ∧ g.2.2.Perm (List.range n) ∧ n ≤ 50 ∧ ∀ H', Same H H' → Q (.bl true) H'
theorem gD_at {H : Hp} {v : V} {g : Nat × Nat × List Nat} (h : Dp K H v (gD g)) : ∃ a c, v = .ref a ∧ SqT K H a [.int g.1, .int g.2.1, .ref c] ∧ SqT K H c (g.2.2.map fun (x : Nat) => V.int x) := by
  obtain ⟨a, xs, rfl, h1, h2⟩ := dp_refT h
  cases h2 with
  | cons e1 h2 =>
    cases h2 with
    | cons e2 h2 =>
      cases h2 with
      | cons e3 h2 =>
        cases h2
        cases e1
        cases e2
        obtain ⟨c, ys, rfl, h3, h4⟩ := dp_refT e3
        have : ys = (g.2.2.map fun (x : Nat) => (x : Int)).map V.int := dpAll_ints (by rw [List.map_map]; exact h4)
        subst this
        rw [← natV] at h3
        exact ⟨a, c, rfl, h1, h3⟩
theorem whole_in {k m : Nat} (h : k < m) : wholeV (.int k) (some 0) (some ((m : Int) - 1)) = true := by
  show (decide ((0 : Int) ≤ k) && decide ((k : Int) ≤ (m : Int) - 1)) = true
  rw [decide_eq_true (by omega), decide_eq_true (by omega)]
  rfl
theorem ok_is_grinding (B : Blt mg) (d_is_whole : Def P w K mg base 1 "is_whole" ["thing", "low", "high"] (spIsWhole K)) (d_is_turn : Def P w K mg base 3 "is_turn" ["thing", "places"] (spIsTurn K)) (F : FunAt K mg "is_grinding" s_is_grinding ["thing", "plates", "places"]) : Def P w K mg base 4 "is_grinding" ["thing", "plates", "places"] (spIsGrind K) := by
  refine F.def (k := 3) sc_is_grinding (fun vs H Q E h => ?_) (fun f cdv A outer s H vs Q E hr h => ?_)
  · obtain ⟨v, g, m, n, rfl, _⟩ := h
    rfl
  · obtain ⟨v, g, m, n, rfl, hg, h1, h2, h3, h4, hn, q⟩ := h
    obtain ⟨a, c, rfl, ha, hc⟩ := gD_at hg
    refine ⟨_, (pss_cons (ps_if (PW.pt (pw_or (pt_not (pt_val (pe_callB (k_isi (K := K) rfl) (by rfl) B.isinstance bb_isinstance (pa_cons (pv 0) (pa_cons (pe_bltn (v := .ty "tuple") (by rfl) B.tuple bb_tuple rfl) pa_nil))))) (pw_or1 (pt_cmpR (k_ne (K := K) rfl hr.units) (pe_callB (k_len (K := K) rfl) (by rfl) B.len bb_len (pa_cons (pv 0) pa_nil)) pe_int (nomark _))))) (pss_one (ps_ret pe_bl)) pss_nil) (pss_cons (ps_if (PW.pt (pw_or (pt_not (pt_val (pe_d d_is_whole (hr.mono (by decide)) (by rfl) (pa_cons (pe_ix (k_ix (K := K) rfl) (pv 0) pe_int (fun _ _ => rfl)) (pa_cons pe_int (pa_cons (pe_op op_sub (pv 1) pe_int) pa_nil)))))) (pw_or1 (pt_not (pt_val (pe_d d_is_whole (hr.mono (by decide)) (by rfl) (pa_cons (pe_ix (k_ix (K := K) rfl) (pv 0) pe_int (fun _ _ => rfl)) (pa_cons pe_int (pa_cons (pe_op op_sub (pv 1) pe_int) pa_nil))))))))) (pss_one (ps_ret pe_bl)) pss_nil) (pss_one (ps_ret (pe_and (pe_cmpR (k_ne (K := K) rfl hr.units) (pe_ix (k_ix (K := K) rfl) (pv 0) pe_int (fun _ _ => rfl)) (pe_ix (k_ix (K := K) rfl) (pv 0) pe_int (fun _ _ => rfl)) (nomark _)) (pe_one (pe_d d_is_turn (hr.mono (by decide)) (by rfl) (pa_cons (pe_ix (k_ix (K := K) rfl) (pv 0) pe_int (fun _ _ => rfl)) (pa_cons (pv 2) pa_nil))))))))), ?_⟩; refine start_eq (σ' := [some (.ref a), some (.int m), some (.int n)]) rfl ?_
    walk_at "rd"
    refine isB (ty_tup ha) kb_tt ?_
    walk_at "rd"
    refine s_lenT ha ?_
    walk_at "rd"
    refine s_n2 (fun e => absurd rfl e) (fun _ => ?_)
    walk_at "rd"
    refine s_ixT ha rfl ?_
    walk_at "rd"
    refine ⟨.int g.1, some 0, some ((m : Int) - 1), rfl, .inl ⟨_, rfl⟩, ?_⟩
    rw [whole_in h1]
    walk_at "rd"
    refine s_ixT ha rfl ?_
    walk_at "rd"
    refine ⟨.int g.2.1, some 0, some ((m : Int) - 1), rfl, .inl ⟨_, rfl⟩, ?_⟩
    rw [whole_in h2]
    walk_at "rd"
    refine s_ixT ha rfl ?_
    walk_at "rd"
    refine s_ixT ha rfl ?_
    walk_at "rd"
    rw [decide_eq_false (show ¬ ((g.1 : Int) = (g.2.1 : Int)) by omega)]
    walk_at "rd"
    refine s_ixT ha rfl ?_
    walk_at "rd"
    exact ⟨c, g.2.2, n, rfl, hc, h4, hn, q⟩
abbrev s_Bench_pairs_of : Stmt := inClass (topS 17) 1
abbrev n_Bench_pairs_of : List Str := ["self", "grinding", "plate", "other", "turn", "place"]
theorem sc_Bench_pairs_of : FnScope ["self", "grinding", "plate", "other", "turn", "place"] ["self", "grinding"] (defScope s_Bench_pairs_of) := ⟨rfl, rfl, rfl, by decide +kernel, rfl, by decide +kernel, by decide +kernel⟩
def spPairsOf (K : PySem.W.Frag) (C : Addr) : Sp := fun vs H Q _ => ∃ b dx fs, ∃ (n : Nat) (g : Nat × Nat × List Nat) (gv : V) (F : Hp), vs = [.ref b, gv] ∧ H b = some (.ins C dx fs) ∧ fs.lookup ("places" : Str) = some (.int n) ∧ Dp K H gv (gD g) ∧ g.2.2.length = n ∧ n ≤ 50 ∧ g.1 ≤ 50 ∧ g.2.1 ≤ 50 ∧ Same F H ∧
  ∀ v F' H', Ext F H F' H' → Dp K F' v (.list ((pairsOf n g).map pD)) → Q v H'
theorem ok_pairs_of (B : Blt mg) (T : Txt K mg C) (F : MethAt K C "pairs_of" "Bench.pairs_of" s_Bench_pairs_of ["self", "grinding"]) : DefM P w K mg base 1 C "pairs_of" ["self", "grinding"] (spPairsOf K C) := by
  refine F.def (k := 0) sc_Bench_pairs_of (fun vs H Q E h => ?_) (fun f cdv A outer s H vs Q E hr h => ?_)
  · obtain ⟨b, dx, fs, n, g, gv, F, rfl, _⟩ := h
    rfl
  · obtain ⟨b, dx, fs, n, g, gv, F, rfl, hb, hfs, hg, hl, hn, hg1, hg2, hF, q⟩ := h
    obtain ⟨a, c, rfl, ha, hc⟩ := gD_at hg
    rw [natV] at hc
    refine ⟨_, (pss_cons (ps_asg (pv 1) (k_tup (K := K) (n := 3) rfl rfl (pgs_cons (pg_name (i := 2) sc_Bench_pairs_of.nd rfl (Or.inr rfl)) (pgs_cons (pg_name (i := 3) sc_Bench_pairs_of.nd rfl (Or.inr rfl)) (pgs_cons (pg_name (i := 4) sc_Bench_pairs_of.nd rfl (Or.inr rfl)) pgs_nil))))) (pss_one (ps_ret (pe_lc (own := [("place", 5)]) rfl sc_Bench_pairs_of.nd (pi_range1 (by rfl) B.range (pa_cons (k_fld (K := K) rfl (pv 0) rfl) pa_nil)) (blkOk_by (own := [("place", 5)]) (N := n_Bench_pairs_of) (sc := defScope s_Bench_pairs_of) (by decide +kernel)) (fun _ _ _ _ _ => (pg_name (i := 5) sc_Bench_pairs_of.nd rfl (Or.inl rfl))) (fun _ _ _ _ _ => pts_nil) (fun _ _ _ _ _ => (pe_tup (pa_cons (pe_op (k_add (K := K) rfl) (pe_op opMulU (pv 2) (k_fld (K := K) rfl (pv 0) rfl)) (pv 5)) (pa_cons (pe_op (k_add (K := K) rfl) (pe_op opMulU (pv 3) (k_fld (K := K) rfl (pv 0) rfl)) (pe_ix (k_ix (K := K) rfl) (pv 4) (pv 5) (fun _ _ => rfl))) pa_nil)))))))), ?_⟩; refine start_eq (σ' := [some (.ref b), some (.ref a), none, none, none, none]) rfl ?_
    walk_at "rd"
    refine s_gt ha rfl ?_
    walk_at "rd"
    refine ⟨_, _, _, _, _, rfl, hb, T.cl, T.n_places, hfs, ?_⟩
    walk_at "rd"
    refine ⟨_, rfl, by omega, by omega, ?_⟩
    refine lc_map walk_range hF (by omega) (fun _ _ => trivial) (fun i F' v => Dp K F' v (pD (g.1 * n + i, g.2.1 * n + g.2.2.getD i 0))) (fun _ _ _ _ e h => dp_mono e h) (fun i x F' H1 H2 D Z hi ex fd _ hy hz => ?_) (fun D ys F' H' hD ex hd hlen hR => ?_)
    · obtain ⟨rfl, rfl⟩ := hy
      have hi' : i < n := by omega
      walk_at "rd"
      refine ⟨rfl, ?_⟩
      walk_at "rd"
      refine ⟨_, _, _, _, _, rfl, ex.hh _ _ hb, T.cl, T.n_places, hfs, ?_⟩
      refine s_mulI (.inl ⟨by omega, by omega⟩) ?_
      walk_at "rd"
      refine ⟨_, _, _, _, _, rfl, ex.hh _ _ hb, T.cl, T.n_places, hfs, ?_⟩
      refine s_mulI (.inl ⟨by omega, by omega⟩) ?_
      walk_at "rd"
      refine s_ixT (sqT_mono ex.hh hc) (by rw [Int.zero_add]; exact at_int (by simp; omega)) ?_
      walk_at "rd"
      refine ⟨by show 2 ≤ sizeLine; decide, fun p hp => ?_⟩
      refine hz (.ref p) _ _ ((Ext.refl ex.fh).new hp) ?_
      have e1 : ((g.2.2.map fun (x : Nat) => (x : Int)).getD i 0) = ((g.2.2.getD i 0 : Nat) : Int) := by
        rw [List.getD_eq_getElem?_getD, List.getD_eq_getElem?_getD, List.getElem?_map]
        cases g.2.2[i]? <;> rfl
      rw [e1, Int.zero_add]
      refine dp_tupI (ns := [_, _]) ?_
      simp only [List.map_cons, List.map_nil, Int.natCast_add, Int.natCast_mul]
      exact rT_at
    · refine q (.ref D) F' H' ex (.lst (.inl (.inl hd)) (dpAll_of ?_ fun i v d h1 h2 => ?_))
      · rw [hlen, List.length_map]
        simp [pairsOf]
      · have hi : i < n := by
          have := (List.getElem?_eq_some_iff.mp h1).1
          omega
        rw [List.getElem?_map] at h2
        simp only [pairsOf, List.getElem?_map, List.getElem?_range hi, Option.map_some] at h2
        cases h2
        exact hR i v h1
end
end G

namespace G
open PySem PySem.Spec PyProof.Rows L2
local macro_rules | `(tactic| walk_at "lk") => `(tactic| first | assumption | exact rT_at | exact rL_at | exact upd_same | (refine sqT_mono ?_ (by assumption); assumption) | (refine sqL_mono ?_ (by assumption); assumption) | (refine rT_new (by assumption) ?_; walk_at "lk") | (refine rL_new (by assumption) ?_; walk_at "lk") | (refine rH_new (by assumption) ?_; walk_at "lk") | (refine rD_new (by assumption) ?_; walk_at "lk") | (refine dp_mono ?_ (by assumption); assumption))
local macro_rules | `(tactic| walk_at "r1") => `(tactic| first | ((with_reducible show tVar _ _ _ _); refine s_var rfl ?_) | with_reducible refine s_c ?_ | with_reducible refine s_op ?_ | with_reducible refine s_un ?_ | with_reducible refine s_neg ?_ | with_reducible refine s_test ?_ | with_reducible refine s_B ?_ | with_reducible refine s_bl ?_ | with_reducible refine s_not ?_ | with_reducible refine s_yes ?_ | with_reducible refine s_and ?_ | with_reducible refine s_or ?_ | with_reducible refine s_notV ?_ | with_reducible refine s_andV ?_ | with_reducible refine s_orV ?_ | with_reducible refine s_if ?_ | with_reducible refine s_cT ?_ | with_reducible refine s_cF ?_ | with_reducible refine s_nT ?_ | with_reducible refine s_nF ?_ | with_reducible refine s_addI ?_ | with_reducible refine s_eqI ?_ | with_reducible refine s_neI ?_ | with_reducible refine s_eqB ?_ | with_reducible refine s_neB ?_ | with_reducible refine s_I0 ?_ | with_reducible refine s_non ?_ | with_reducible refine s_int ?_ | with_reducible refine s_chain ?_ | with_reducible refine s_cons ?_ | with_reducible refine s_nil ?_ | with_reducible refine s_call ?_ | with_reducible refine s_cb ?_ | with_reducible refine s_meth ?_ | with_reducible refine s_make ?_ | with_reducible refine s_tup ?_ | with_reducible refine s_lst ?_ | with_reducible refine s_bm ?_ | with_reducible refine s_bm0 ?_ | with_reducible refine s_bmT ?_ | with_reducible refine s_fld ?_ | with_reducible refine s_dget ?_ | with_reducible refine s_sl ?_ | with_reducible refine s_part ?_ | with_reducible refine s_nopart ?_ | with_reducible refine s_seq ?_ | with_reducible refine s_next ?_ | with_reducible refine s_asg ?_ | with_reducible refine s_gn ?_ | with_reducible refine s_gc ?_ | with_reducible refine s_g0 ?_ | with_reducible refine s_gs ?_ | with_reducible refine s_ret ?_ | with_reducible refine s_ifS ?_ | with_reducible refine s_drop ?_ | with_reducible refine s_augS ?_ | ((with_reducible show tAug _ _ _ _ _ _); refine s_aug rfl ?_) | with_reducible refine s_ipI ?_ | with_reducible refine s_for ?_ | with_reducible refine s_iseq ?_ | with_reducible refine s_rng1 ?_ | with_reducible refine s_izip ?_ | with_reducible refine s_lc ?_ | with_reducible refine s_lc2 ?_ | with_reducible refine s_lstRg ?_ | with_reducible refine s_rg1 ?_ | with_reducible refine s_sfld ?_ | with_reducible refine s_ienum ?_ | with_reducible refine s_disp ?_ | with_reducible refine s_pc ?_ | with_reducible refine s_pn ?_)
local macro_rules | `(tactic| walk_at "rd") => `(tactic| repeat walk_at "r1")

section
variable {P : Program} {w : World} {K : PySem.W.Frag} {mg : Str → Option Value} {base : Heap} {C : Addr}
abbrev s_Bench___init__ : Stmt := inClass (topS 17) 0
abbrev n_Bench___init__ : List Str := ["self", "hardness", "places", "grindings", "at", "thing", "one", "place"]
theorem sc_Bench___init__ : FnScope ["self", "hardness", "places", "grindings", "at", "thing", "one", "place"] ["self", "hardness", "places", "grindings"] (defScope s_Bench___init__) := ⟨rfl, rfl, rfl, by decide +kernel, rfl, by decide +kernel, by decide +kernel⟩
/-- H1, F1: all and its frozen part ahead of the new instance x -/
def spInit (K : PySem.W.Frag) (C : Addr) : Sp := fun vs H Q _ => ∃ x dx lh lg B H1 F1 gx, vs = [.ref x, .ref lh, .int (B.places : Int), .ref lg] ∧ H = upd (upd H1 dx (.own x)) x (.ins C dx []) ∧ H1 x = none ∧ H1 dx = none ∧ dx ≠ x ∧ Same F1 H1 ∧ BOk B ∧ SqL K H1 lh (B.hard.map V.int) ∧ SqL K H1 lg gx ∧ DpAll K F1 gx (B.told.map gD) ∧
  ∀ F' H', Ext F1 H1 F' H' → BenchAt K C F' x B → Q .non H'
theorem heavy_flat (l : List Int) (n : Nat) : (l.map fun h => List.replicate n (V.int h)).flatten = (l.flatMap fun h => List.replicate n h).map V.int := by
  induction l with
  | nil => rfl
  | cons a l ih => simp [ih]
theorem pf {f : Str} {v : V} {fs : List (Str × V)} {k : Nat} (h : fs.length ≤ k) : (putF f v fs).length ≤ k + 1 := by
  induction fs generalizing k with
  | nil => simp [putF]
  | cons p fs ih =>
    simp only [putF]
    split
    · simp at h ⊢; omega
    · simp at h ⊢
      have := ih (k := k - 1) (by omega)
      omega
theorem pf0 : ([] : List (Str × V)).length ≤ 0 := Nat.le_refl 0
end
end G

namespace G.Q
open PySem PySem.Spec PyProof.Rows L2
local macro_rules | `(tactic| walk_at "lk") => `(tactic| first | assumption | exact rT_at | exact rL_at | exact upd_same | (refine sqT_mono ?_ (by assumption); assumption) | (refine sqL_mono ?_ (by assumption); assumption) | (refine rT_new (by assumption) ?_; walk_at "lk") | (refine rL_new (by assumption) ?_; walk_at "lk") | (refine rH_new (by assumption) ?_; walk_at "lk") | (refine rD_new (by assumption) ?_; walk_at "lk") | (refine dp_mono ?_ (by assumption); assumption))
local macro_rules | `(tactic| walk_at "r1") => `(tactic| first | ((with_reducible show tVar _ _ _ _); refine s_var rfl ?_) | with_reducible refine s_c ?_ | with_reducible refine s_op ?_ | with_reducible refine s_un ?_ | with_reducible refine s_neg ?_ | with_reducible refine s_test ?_ | with_reducible refine s_B ?_ | with_reducible refine s_bl ?_ | with_reducible refine s_not ?_ | with_reducible refine s_yes ?_ | with_reducible refine s_and ?_ | with_reducible refine s_or ?_ | with_reducible refine s_notV ?_ | with_reducible refine s_andV ?_ | with_reducible refine s_orV ?_ | with_reducible refine s_if ?_ | with_reducible refine s_cT ?_ | with_reducible refine s_cF ?_ | with_reducible refine s_nT ?_ | with_reducible refine s_nF ?_ | with_reducible refine s_addI ?_ | with_reducible refine s_eqI ?_ | with_reducible refine s_neI ?_ | with_reducible refine s_eqB ?_ | with_reducible refine s_neB ?_ | with_reducible refine s_I0 ?_ | with_reducible refine s_non ?_ | with_reducible refine s_int ?_ | with_reducible refine s_chain ?_ | with_reducible refine s_cons ?_ | with_reducible refine s_nil ?_ | with_reducible refine s_call ?_ | with_reducible refine s_cb ?_ | with_reducible refine s_meth ?_ | with_reducible refine s_make ?_ | with_reducible refine s_tup ?_ | with_reducible refine s_lst ?_ | with_reducible refine s_bm ?_ | with_reducible refine s_bm0 ?_ | with_reducible refine s_bmT ?_ | with_reducible refine s_fld ?_ | with_reducible refine s_dget ?_ | with_reducible refine s_sl ?_ | with_reducible refine s_part ?_ | with_reducible refine s_nopart ?_ | with_reducible refine s_seq ?_ | with_reducible refine s_next ?_ | with_reducible refine s_asg ?_ | with_reducible refine s_gn ?_ | with_reducible refine s_gc ?_ | with_reducible refine s_g0 ?_ | with_reducible refine s_gs ?_ | with_reducible refine s_ret ?_ | with_reducible refine s_ifS ?_ | with_reducible refine s_drop ?_ | with_reducible refine s_augS ?_ | ((with_reducible show tAug _ _ _ _ _ _); refine s_aug rfl ?_) | with_reducible refine s_ipI ?_ | with_reducible refine s_for ?_ | with_reducible refine s_iseq ?_ | with_reducible refine s_rng1 ?_ | with_reducible refine s_izip ?_ | with_reducible refine s_lc ?_ | with_reducible refine s_lc2 ?_ | with_reducible refine s_lstRg ?_ | with_reducible refine s_rg1 ?_ | with_reducible refine s_sfld ?_ | with_reducible refine s_ienum ?_ | with_reducible refine s_disp ?_ | with_reducible refine s_pc ?_ | with_reducible refine s_pn ?_)
local macro_rules | `(tactic| walk_at "rd") => `(tactic| repeat walk_at "r1")

/-! ## NoBench(what, at=None); a class whose __init__ may raise -/
def spNB (K : PySem.W.Frag) : Sp := fun vs H Q _ => ∃ a C y z, vs = [.ref a, y, z] ∧ OexC K C ∧ PySem.W.findIn K (.ref C) "what" = some none ∧ PySem.W.findIn K (.ref C) "at" = some none ∧ H a = some (exo a C none) ∧
  ∀ dx, H dx = none → dx ≠ a → Q .non (upd (upd (upd H dx (exd dx [("what", y)])) a (exo a C (some dx))) dx (exd dx [("at", z), ("what", y)]))
section
variable {P : Program} {w : World} {K : PySem.W.Frag} {mg : Str → Option Value} {base : Heap} {C : Addr}
abbrev s_NoBench___init__ : Stmt := inClass (topS 4) 0
abbrev n_NoBench___init__ : List Str := ["self", "what", "at"]
theorem sc_NoBench___init__ : FnScope ["self", "what", "at"] ["self", "what", "at"] (defScope s_NoBench___init__) := ⟨rfl, rfl, rfl, by decide +kernel, rfl, by decide +kernel, by decide +kernel⟩
theorem ok_NoBench_init {CG : Addr} (G_GrindError : GeC K mg "GrindError" CG) {f : Addr} {fd : FuncData} (F : FunD K "__init__" "NoBench.__init__" (defArgs s_NoBench___init__) (defBody s_NoBench___init__) (defScope s_NoBench___init__) [V.non] [] f fd) : FnOk P w K mg base CX0 1 f fd ["self", "what", "at"] (spNB K) := by
  refine F.ok (CX := CX0) (k := 0) sc_NoBench___init__ (fun vs H Q E h => ?_) (fun cdv A outer s H vs Q E hr h => (fun ⟨t, h1, h2⟩ => ⟨t, h1.nox, h2⟩ : (∃ t, PSs (cxOf CX0 P w K mg base n_NoBench___init__ "NoBench.__init__" (defScope s_NoBench___init__) f cdv A outer s H E).nox (defBody s_NoBench___init__) t ∧ t { nx := fun _ H' => Q .non H', rt := Q } (start n_NoBench___init__ vs) H) → _) ?_)
  · obtain ⟨a, c, y, z, rfl, _⟩ := h
    rfl
  · obtain ⟨a, c, y, z, rfl, T, hw, hn, ha, q⟩ := h
    refine ⟨_, (pss_cons (ps_expr (pe_geinit G_GrindError (by rfl) (pa_cons (pv 0) (pa_cons pe_str pa_nil)))) (pss_cons (ps_ost (pv 0) (pv 1)) (pss_one (ps_ost (pv 0) (pv 2))))), ?_⟩; refine start_eq (σ' := [some (.ref a), some (y), some (z)]) rfl ?_
    walk_at "rd"
    unfold tVeI
    walk_at "rd"
    refine ⟨a, c, [.str "this makes no bench"], rfl, by decide, T, ha, ?_⟩
    walk_at "rd"
    unfold tOst
    walk_at "rd"
    refine ⟨a, c, rfl, T, hw, .inl ⟨ha, fun dx h1 h2 => ?_⟩⟩
    walk_at "rd"
    refine ⟨a, c, rfl, T, hn, .inr ⟨dx, [("what", y)], upd_same, ?_, (by decide : (1 : Nat) ≤ 900), ?_⟩⟩
    · rw [upd_ne h2]
      exact upd_same
    exact q dx h1 h2
/-- .. with its default -/
structure DefE1 (P : Program) (w : World) (K : PySem.W.Frag) (mg : Str → Option Value) (base : Heap) (k : Nat) (C : Addr) (x : Str) (ps : List Str) (sp : Sp) : Prop where
  ex : ∃ f fd ds, FnOk P w K mg base CX0 k f fd ps sp ∧ Vals [V.non] ds ∧ Binds K fd ps ds ∧ PySem.W.findIn K (.ref C) "__init__" = some (some (.ref f)) ∧ PySem.W.typeIn K (.ref f) = some (.type "function") ∧ OexC K C
  gP : mg x = some (.ref C)
end
section
variable {X : Cx} {W : WX} {k : Nat} {C : Addr} {x : Str} {ps : List Str} {sp : Sp} {e : Expr} {es : List Expr} {t : TA} {p pos : Pos}
theorem pmk_de1 (D : DefE1 X.prog X.w X.K X.mg X.base k C x ps sp) (hr : Room (k + 1) X.A) (hg : Gl X x) (ha : PA X (e :: es) t)
    (hdb : (x == ("__debug__" : Str)) = false := by decide) (he : starEach (e :: es) X.env = (false, eval e X.env) :: starEach es X.env := by rfl) (hpl : (backTo pos (starEach es X.env)).any (·.1) = false := by rfl) :
    PMk X (.Call (.Name x p) (e :: es) [] pos) (tMkO C sp [V.non] t) := by
  obtain ⟨f, fd, ds, F, v, b, h1, h2, T⟩ := D.ex
  exact pmk_oex T h1 h2 F hr b v pass0 hg D.gP ha hdb he hpl
/-- C(e, ..), whose __init__ may raise -/
def tMakeX (C : Addr) (sp : Sp) (E : L2.St → XK) (t : TA) : TE := fun σ H Q => t σ H fun vs H1 => ∀ x dx, H1 x = none → H1 dx = none → dx ≠ x → sp (.ref x :: vs) (upd (upd H1 dx (.own x)) x (.ins C dx [])) (fun v H2 => v = .non ∧ Q (.ref x) H2) (E σ)
theorem run_makeS {pn : List (Addr × Obj)} {σ : L2.St} {H : Hp} {s0 : Shared} {Q : VK} {us : List Value} {vs : List V} {g : Addr} {gd : FuncData} {E : L2.St → XK} (mk : Mk X.K C g) (fn : FnOk X.prog X.w X.K X.mg X.base (L2.CX X.prog X.w) k g gd ps sp) (rm : Room (k + 1) X.A) (bd : Binds X.K gd ps [])
    (pa : PassesAt (L2.CX X.prog X.w) X σ (E σ)) (iv : Inv X pn σ H s0) (rel : Vals vs us) (ask : ∀ me dx, H me = none → H dx = none → dx ≠ me → sp (.ref me :: vs) (upd (upd H dx (.own me)) me (.ins C dx [])) (fun v H2 => v = .non ∧ Q (.ref me) H2) (E σ)) :
    wpAny (model X.prog X.w) X.A (call (.ref C) us) (EP X pn σ Q) X.xe s0 := by
  let n := s0.heap.objs.size
  have todo := ask (n + 1) n (iv.hok.fresh (Nat.le_succ n)) (iv.hok.fresh (Nat.le_refl n)) (Nat.ne_of_lt (Nat.lt_succ_self n))
  have iv' := Inv.made (C := C) iv
  have rel' : Vals (.ref (n + 1) :: vs) (.ref (n + 1) :: us) := .cons rfl rel
  have bound := bd _ (.ref (n + 1) :: us) iv'.kIn (by
    rw [List.append_nil, ← rel'.length]
    exact fn.len _ _ _ _ todo)
  rw [List.append_nil] at bound
  have walk := fn.run _ X.stack _ _ ⟨.ref (n + 1) :: us, []⟩ (.ref (n + 1) :: us) _ _ (E σ) (rm.make C us []) (iv'.env0.make C us []) bound rel' todo
  apply wpAny_call
  apply make_map (f := g) iv.kIn mk.makes mk.init (beq_iff_eq.mp mk.fn)
  refine codeAny_mono walk ?_
  rintro (e | fl) s' hs
  · exact pa pn _ _ e s' iv' hs
  · match fl, hs with
    | .ret u, hs =>
      obtain ⟨v, H', iv2, rv, rfl, q⟩ := iv'.after hs
      exact ⟨rv, .ref (n + 1), H', iv2, rfl, q⟩
structure DefCX (P : Program) (w : World) (K : PySem.W.Frag) (mg : Str → Option Value) (base : Heap) (k : Nat) (C : Addr) (x : Str) (ps : List Str) (sp : Sp) : Prop where
  ex : ∃ f fd, FnOk P w K mg base (L2.CX P w) k f fd ps sp ∧ Binds K fd ps [] ∧ Mk K C f ∧ mg x = some (.ref C)
theorem pe_mkX (D : DefCX X.prog X.w X.K X.mg X.base k C x ps sp) (hr : Room (k + 1) X.A) (hg : Gl X x) (tk : Takes X W) (ha : PA X (e :: es) t) (hdb : (x == ("__debug__" : Str)) = false := by decide)
    (he : starEach (e :: es) X.env = (false, eval e X.env) :: starEach es X.env := by rfl) (hpl : (backTo pos (starEach es X.env)).any (·.1) = false := by rfl) :
    PE X (.Call (.Name x p) (e :: es) [] pos) (tMakeX C sp (L2.WE W) t) := by
  obtain ⟨g, gd, fn, bd, mk, mg⟩ := D.ex
  constructor
  intro pn s σ H Q iv todo
  apply wpAny_Call_Name_kw (ld_glob iv hg mg ?_ hdb)
  have args := ha.run pos pn s σ H _ iv todo
  exact PySem.W.callWith_K (h₀ := X.base) iv.ok.mod.kin mk.kp (thn args fun us _ ⟨vs, _, iv1, rel, q⟩ => ⟨iv1.kIn, run_makeS mk fn hr bd (passAt tk σ) iv1 rel q⟩) he hpl
end
section
variable {M : Cm} {ρ : Rho} {k : D → Prop} {nx bk ct : Rho → Prop} {rt : Sl → Rho → Prop} {tr : TA} {te te2 : TE} {i : Nat}
theorem nb_end {H1 : Hp} {c a dx : Addr} {fs fs2 : List (Str × V)} (na : H1 a = none) (ne : dx ≠ a) :
    upd (L2.del (upd (upd (upd (upd H1 a (exo a c none)) dx (exd dx fs)) a (exo a c (some dx))) dx (exd dx fs2)) a) dx (.xd fs2) = upd H1 dx (.xd fs2) := by
  funext b
  by_cases z : b = dx
  · subst z; rw [upd_same, upd_same]
  · rw [upd_ne z, upd_ne z]
    by_cases z2 : b = a
    · subst z2; rw [L2.del_same, na]
    · rw [L2.del_ne z2, upd_ne z, upd_ne z2, upd_ne z, upd_ne z2]
/-- raise NoBench(what, at) -/
theorem ws_raiseNB {W : WX} {kx : Xc → Rho → Prop} {c : Addr} (T : OexC M.K c) (hw : PySem.W.findIn M.K (.ref c) "what" = some none) (hn : PySem.W.findIn M.K (.ref c) "at" = some none) (hW : WOk M W kx) (h : G.WE M te ρ fun y => G.WE M te2 ρ fun z => kx ⟨c, ["at", "what"], [z, y]⟩ ρ) :
    WS M (fun _ σ H => tMkO c (spNB M.K) [] (tCons te (tCons te2 tNil)) σ H fun cls d H' => W cls d σ H') ρ nx rt bk ct := fun σ F H _ e _ _ _ _ => h σ F H _ e fun v y F1 H1 x1 r1 h => h σ F1 H1 _ (e.step x1) fun v2 z F2 H2 x2 r2 q => by
  refine ⟨by show 2 ≤ 1000; decide, fun a na => ⟨a, c, v, v2, rfl, T, hw, hn, upd_same, fun dx ndx ne => ⟨rfl, dx, [("at", v2), ("what", v)], ?_, upd_same, ?_, ?_⟩⟩⟩
  · rw [upd_ne (Ne.symm ne)]; exact upd_same
  · rw [upd_ne ne] at ndx; exact ndx
  · have n1 : H2 dx = none := by rw [upd_ne ne] at ndx; exact ndx
    rw [nb_end na ne]
    have x3 : XM M F2 H2 (upd F2 dx (.xd [("at", v2), ("what", v)])) (upd H2 dx (.xd [("at", v2), ("what", v)])) := (XE.refl x2.gd).new n1
    exact hW ρ σ _ _ _ _ _ (((e.step x1).step x2).step x3) (.fs (ns := ["at", "what"]) (vs := [v2, v]) upd_same rfl (.cons (R.mono x3.ff r2) (.cons (R.mono (x2.ff.trans x3.ff) r1) .nil))) q
/-- raise NoBench(what) -/
theorem ws_raiseNB1 {W : WX} {kx : Xc → Rho → Prop} {c : Addr} (T : OexC M.K c) (hw : PySem.W.findIn M.K (.ref c) "what" = some none) (hn : PySem.W.findIn M.K (.ref c) "at" = some none) (hW : WOk M W kx) (h : G.WE M te ρ fun y => kx ⟨c, ["at", "what"], [.non, y]⟩ ρ) :
    WS M (fun _ σ H => tMkO c (spNB M.K) [V.non] (tCons te tNil) σ H fun cls d H' => W cls d σ H') ρ nx rt bk ct := fun σ F H _ e _ _ _ _ => h σ F H _ e fun v y F2 H2 x2 r2 q => by
  refine ⟨by show 1 ≤ 1000; decide, fun a na => ⟨a, c, v, .non, rfl, T, hw, hn, upd_same, fun dx ndx ne => ⟨rfl, dx, [("at", .non), ("what", v)], ?_, upd_same, ?_, ?_⟩⟩⟩
  · rw [upd_ne (Ne.symm ne)]; exact upd_same
  · rw [upd_ne ne] at ndx; exact ndx
  · have n1 : H2 dx = none := by rw [upd_ne ne] at ndx; exact ndx
    rw [nb_end na ne]
    have x3 : XM M F2 H2 (upd F2 dx (.xd [("at", .non), ("what", v)])) (upd H2 dx (.xd [("at", .non), ("what", v)])) := (XE.refl x2.gd).new n1
    exact hW ρ σ _ _ _ _ _ ((e.step x2).step x3) (.fs (ns := ["at", "what"]) (vs := [.non, v]) upd_same rfl (.cons .non (.cons (R.mono x3.ff r2) .nil))) q
/-- a statement within a body that is walked on by hand -/
theorem ws_step {t1 t2 : TS} {σ : L2.St} {F H : Hp} {E : Ends} {nx1 : Rho → Prop} (h : WS M t1 ρ nx1 (fun _ _ => False) (fun _ => False) (fun _ => False)) (e : Fr M ρ σ F H) (f : ∀ ρ' σ' F' H', Fr M ρ' σ' F' H' → nx1 ρ' → t2 E σ' H') : tSeq t1 t2 E σ H :=
  h σ F H _ e (fun ρ' σ' F' H' _ e' q => f ρ' σ' F' H' e' q) (fun _ _ _ _ _ _ _ _ z => z.elim) (fun _ _ _ _ _ _ z => z.elim) (fun _ _ _ _ _ _ z => z.elim)
end
theorem XE.dels {K : PySem.W.Frag} {st : Option Addr} {F1 H1 F4 H4 : Hp} {x : Addr} {c d : Addr} {fs : List (Str × V)} (a : XE K st F1 H1 F4 H4) (h1 : H1 x = none) (f4 : F4 x = none) (h4 : H4 x = some (.ins c d fs)) : XE K st F1 H1 F4 (G.del H4 x) := by
  have key : ∀ b o, Dl st H4 b = some o → b ≠ x → Dl st (G.del H4 x) b = some o := fun b o h ne => Dl_of (by rw [G.del_ne ne]; exact (Dl_some h).1) (Dl_ne h) (Dl_some h).2
  have back : ∀ b o, Dl st (G.del H4 x) b = some o → Dl st H4 b = some o := fun b o h => Dl_of (del_sub _ _ (Dl_some h).1) (Dl_ne h) (Dl_some h).2
  refine ⟨⟨fun b o h => key b o (a.ext.hh b o h) fun z => ?_, a.ext.ff, fun b o h => key b o (a.ext.fh b o h) fun z => ?_, a.ext.fr⟩, ⟨fun b e => ?_, tabs_but a.ok.tb h4 rfl rfl fun b o ne h => by rw [G.del_ne ne]; exact h⟩⟩
  · rw [z] at h
    have := (Dl_some h).1
    rw [h1] at this
    cases this
  · rw [z, f4] at h
    cases h
  · obtain ⟨s, hs, ok⟩ := a.ok.ls b e
    refine ⟨s, ?_, ok⟩
    rw [G.del_ne]
    · exact hs
    · intro z
      rw [z, h4] at hs
      cases hs
end G.Q

namespace G.Q
open PySem PySem.Spec PyProof.Rows L2
local macro_rules | `(tactic| walk_at "lk") => `(tactic| first | assumption | exact rT_at | exact rL_at | exact upd_same | (refine sqT_mono ?_ (by assumption); assumption) | (refine sqL_mono ?_ (by assumption); assumption) | (refine rT_new (by assumption) ?_; walk_at "lk") | (refine rL_new (by assumption) ?_; walk_at "lk") | (refine rH_new (by assumption) ?_; walk_at "lk") | (refine rD_new (by assumption) ?_; walk_at "lk") | (refine dp_mono ?_ (by assumption); assumption))
local macro_rules | `(tactic| walk_at "r1") => `(tactic| first | ((with_reducible show tVar _ _ _ _); refine s_var rfl ?_) | with_reducible refine s_c ?_ | with_reducible refine s_op ?_ | with_reducible refine s_un ?_ | with_reducible refine s_neg ?_ | with_reducible refine s_test ?_ | with_reducible refine s_B ?_ | with_reducible refine s_bl ?_ | with_reducible refine s_not ?_ | with_reducible refine s_yes ?_ | with_reducible refine s_and ?_ | with_reducible refine s_or ?_ | with_reducible refine s_notV ?_ | with_reducible refine s_andV ?_ | with_reducible refine s_orV ?_ | with_reducible refine s_if ?_ | with_reducible refine s_cT ?_ | with_reducible refine s_cF ?_ | with_reducible refine s_nT ?_ | with_reducible refine s_nF ?_ | with_reducible refine s_addI ?_ | with_reducible refine s_eqI ?_ | with_reducible refine s_neI ?_ | with_reducible refine s_eqB ?_ | with_reducible refine s_neB ?_ | with_reducible refine s_I0 ?_ | with_reducible refine s_non ?_ | with_reducible refine s_int ?_ | with_reducible refine s_chain ?_ | with_reducible refine s_cons ?_ | with_reducible refine s_nil ?_ | with_reducible refine s_call ?_ | with_reducible refine s_cb ?_ | with_reducible refine s_meth ?_ | with_reducible refine s_make ?_ | with_reducible refine s_tup ?_ | with_reducible refine s_lst ?_ | with_reducible refine s_bm ?_ | with_reducible refine s_bm0 ?_ | with_reducible refine s_bmT ?_ | with_reducible refine s_fld ?_ | with_reducible refine s_dget ?_ | with_reducible refine s_sl ?_ | with_reducible refine s_part ?_ | with_reducible refine s_nopart ?_ | with_reducible refine s_seq ?_ | with_reducible refine s_next ?_ | with_reducible refine s_asg ?_ | with_reducible refine s_gn ?_ | with_reducible refine s_gc ?_ | with_reducible refine s_g0 ?_ | with_reducible refine s_gs ?_ | with_reducible refine s_ret ?_ | with_reducible refine s_ifS ?_ | with_reducible refine s_drop ?_ | with_reducible refine s_augS ?_ | ((with_reducible show tAug _ _ _ _ _ _); refine s_aug rfl ?_) | with_reducible refine s_ipI ?_ | with_reducible refine s_for ?_ | with_reducible refine s_iseq ?_ | with_reducible refine s_rng1 ?_ | with_reducible refine s_izip ?_ | with_reducible refine s_lc ?_ | with_reducible refine s_lc2 ?_ | with_reducible refine s_lstRg ?_ | with_reducible refine s_rg1 ?_ | with_reducible refine s_sfld ?_ | with_reducible refine s_ienum ?_ | with_reducible refine s_disp ?_ | with_reducible refine s_pc ?_ | with_reducible refine s_pn ?_)
local macro_rules | `(tactic| walk_at "rd") => `(tactic| repeat walk_at "r1")

local macro_rules | `(tactic| walk_at "ds") => `(tactic| skip)
local macro_rules | `(tactic| walk_at "ds") => `(tactic| dsimp only [List.set, wipeR, snd_cons, snd_nil])
local macro_rules | `(tactic| walk_at "d1") => `(tactic| ((first | with_reducible refine key_str ?_ | with_reducible refine ⟨_, rfl, ?_⟩ | with_reducible refine ⟨_, _, rfl, ?_⟩ | ((with_reducible show List.length _ ≤ 1000 ∧ _); refine len_ok (by rfl) ?_) | ((with_reducible show if D.isN _ = true then _ else _); first | refine s_nnT (by rfl) ?_ | refine s_nnF (by rfl) ?_) | ((with_reducible show if (!D.isN _) = true then _ else _); first | refine s_mnT (by rfl) ?_ | refine s_mnF (by rfl) ?_) | with_reducible refine s_cT ?_ | with_reducible refine s_cF ?_ | with_reducible refine s_nT ?_ | with_reducible refine s_nF ?_); walk_at "ds"))
local macro_rules | `(tactic| walk_at "d1") => `(tactic| ((with_reducible show WPs ..); (first | with_reducible refine wps_cons ?_ | with_reducible refine wps_nil ?_)))
local macro_rules | `(tactic| walk_at "d1") => `(tactic| ((with_reducible show WI ..); (with_reducible refine wi_rng1 ?_)))
local macro_rules | `(tactic| walk_at "d1") => `(tactic| ((with_reducible show WV ..); (with_reducible refine WI.wv ?_)))
local macro_rules | `(tactic| walk_at "d1") => `(tactic| ((with_reducible show WP ..); (first | with_reducible refine wp_no ?_ | with_reducible refine wp_some ?_)))
local macro_rules | `(tactic| walk_at "d1") => `(tactic| ((with_reducible show WOT ..); (first | with_reducible refine wot_new ?_ | with_reducible refine wot_disp1 ?_)))
local macro_rules | `(tactic| walk_at "d1") => `(tactic| ((with_reducible show WOK ..); (first | with_reducible refine wok_new ?_ | with_reducible refine wok_disp1 ?_)))
local macro_rules | `(tactic| walk_at "d1") => `(tactic| ((with_reducible show WD ..); (first | with_reducible refine wd_tup ?_ | with_reducible refine wd_lst ?_)))
local macro_rules | `(tactic| walk_at "d1") => `(tactic| ((with_reducible show WAD ..); (first | with_reducible refine wad_cons ?_ | with_reducible refine wad_nil ?_)))
local macro_rules | `(tactic| walk_at "d1") => `(tactic| ((with_reducible show DIn ..); (first | with_reducible refine din_I ?_ | with_reducible refine din_S ?_ | with_reducible refine din_T ?_)))
local macro_rules | `(tactic| walk_at "d1") => `(tactic| ((with_reducible show DGt ..); (first | with_reducible refine dgp_hard ?_ | with_reducible refine dgp_wide ?_ | with_reducible refine dgp_rows ?_ | with_reducible refine dgp_pairs ?_ | with_reducible refine dgp_many ?_ | with_reducible refine dg_hard ?_ | with_reducible refine dg_places ?_ | with_reducible refine dg_told ?_ | with_reducible refine dg_heavy ?_ | with_reducible refine dg_meets ?_)))
local macro_rules | `(tactic| walk_at "d1") => `(tactic| ((with_reducible show OU ..); (with_reducible refine ou_neg ?_)))
local macro_rules | `(tactic| walk_at "d1") => `(tactic| ((with_reducible show WAB ..); (first | with_reducible refine wab_cons ?_ | with_reducible refine wab_nil ?_)))
local macro_rules | `(tactic| walk_at "d1") => `(tactic| ((with_reducible show CRO ..); (first | with_reducible refine cr_listL ?_ | with_reducible refine cr_listT ?_ | with_reducible refine cr_listS ?_)))
local macro_rules | `(tactic| walk_at "d1") => `(tactic| ((with_reducible show WO ..); (first | with_reducible refine wo_lst ?_ | ((with_reducible show WO _ (tOp rMulS (tLst _) _) _ _); refine wo_rep ?_) | with_reducible refine wo_op ?_ | with_reducible refine wo_cb ?_ | with_reducible refine wo_rev ?_)))
local macro_rules | `(tactic| walk_at "d1") => `(tactic| ((with_reducible show CR ..); (first | with_reducible refine cr_lenDK ?_ | with_reducible refine cr_lenDT ?_ | with_reducible refine cr_lenL ?_ | with_reducible refine cr_lenT ?_ | with_reducible refine cr_lenS ?_ | with_reducible refine cr_lenX ?_ | with_reducible refine cr_tupX ?_ | with_reducible refine cr_sumS ?_ | with_reducible refine cr_sumLi ?_ | with_reducible refine cr_sumTi ?_ | with_reducible refine cr_allB ?_ | with_reducible refine cr_anyB ?_ | with_reducible refine cr_absI ?_ | with_reducible refine cr_int_i ?_ | with_reducible refine cr_int_b ?_ | with_reducible refine CRO.cr (cr_listL ?_) | with_reducible refine CRO.cr (cr_listT ?_) | with_reducible refine CRO.cr (cr_listS ?_) | with_reducible refine cr_tupLi ?_ | with_reducible refine cr_tupS ?_ | with_reducible refine cr_tupL ?_ | with_reducible refine cr_tupT ?_)))
local macro_rules | `(tactic| walk_at "d1") => `(tactic| ((with_reducible show WB ..); (first | ((with_reducible show WB _ (tVar _) _ _); first | refine wb_own rfl ?_ | refine wb_ownK rfl ?_ | refine wb_ownT rfl ?_ | refine wb_lkT rfl (by assumption) ?_ | refine wb_wl rfl ?_) | with_reducible refine WE.wb ?_)))
local macro_rules | `(tactic| walk_at "d1") => `(tactic| ((with_reducible show WGs ..); (first | with_reducible refine wgs_cons ?_ | with_reducible refine wgs_nil ?_ | with_reducible refine wgs_consM ?_ | with_reducible refine wgs_nilM ?_); walk_at "ds"))
local macro_rules | `(tactic| walk_at "d1") => `(tactic| ((with_reducible show WT ..); (first | with_reducible refine wt_test ?_ | with_reducible refine wt_B ?_ | with_reducible refine wt_not ?_ | with_reducible refine wt_and ?_ | with_reducible refine wt_or ?_ | with_reducible refine wt_yes ?_)))
local macro_rules | `(tactic| walk_at "d1") => `(tactic| ((with_reducible show OP ..); (first | with_reducible refine op_addSI ?_ | with_reducible refine op_I0i ?_ | with_reducible refine op_I0b ?_ | with_reducible refine op_eqII ?_ | with_reducible refine op_neII ?_ | with_reducible refine op_eqBB ?_ | with_reducible refine op_neBB ?_ | with_reducible refine op_eqSS ?_ | with_reducible refine op_neSS ?_ | with_reducible refine op_isNn ?_ | with_reducible refine op_notNn ?_ | with_reducible refine op_ip ?_ | ((with_reducible show OP _ (rIx _) (D.tup _) (D.int _) _); refine op_ixT (by rfl) ?_) | ((with_reducible show OP _ (rIx _) (D.lst _) (D.int _) _); refine op_ixL (by rfl) ?_))))
local macro_rules | `(tactic| walk_at "d1") => `(tactic| ((with_reducible show WG ..); (first | with_reducible refine wg_name (by first | trivial | decide) ?_ | with_reducible refine wg_tup rfl ?_ | with_reducible refine wg_stn rfl ?_ | with_reducible refine wg_lst rfl ?_); walk_at "ds"))
local macro_rules | `(tactic| walk_at "d1") => `(tactic| ((with_reducible show WA ..); (first | with_reducible refine wa_cons ?_ | with_reducible refine wa_nil ?_)))
local macro_rules | `(tactic| walk_at "d1") => `(tactic| ((with_reducible show WS ..); (first | with_reducible refine ws_seq ?_ | with_reducible refine ws_next ?_ | with_reducible refine ws_ret ?_ | with_reducible refine ws_retN ?_ | with_reducible refine ws_if ?_ | ((with_reducible show WS _ (tDrop (tBM _ "list" _ (tVar _) _)) _ _ _ _ _); refine ws_mt rfl ?_) | ((with_reducible show WS _ (tDrop (tBM0 _ "list" _ (tVar _))) _ _ _ _ _); refine ws_mt0 rfl ?_) | ((with_reducible show WS _ (tAsg (tBM _ "list" _ (tVar _) _) (gName _)) _ _ _ _ _); refine ws_mtS rfl ?_) | ((with_reducible show WS _ (tAsg (tBM0 _ "list" _ (tVar _)) (gName _)) _ _ _ _ _); refine ws_mt0S rfl ?_) | ((with_reducible show WS _ (tAsgO (tDisp _) _) _ _ _ _ _); refine ws_setOwnK ?_) | ((with_reducible show WS _ (tAsgO tDNewK _) _ _ _ _ _); refine ws_setOwnK ?_) | ((with_reducible show WS _ (tAsgO (tDc _ _ _ _ _ _) _) _ _ _ _ _); refine ws_setOwnK ?_) | ((with_reducible show WS _ (tAsgO tDNewT _) _ _ _ _ _); refine ws_setOwnT ?_) | ((with_reducible show WS _ (tAsgO (tDispT1 _ _) _) _ _ _ _ _); refine ws_setOwnT ?_) | with_reducible refine ws_setOwn ?_ | ((with_reducible show WS _ (tAsg _ (gSub (tVar _) _ rSetL)) _ _ _ _ _); first | refine ws_setItem rfl ?_ | refine ws_setWl rfl ?_) | ((with_reducible show WS _ (tAugS (tVar _) _ _ _ _ _) _ _ _ _ _); refine ws_augItem rfl ?_) | ((with_reducible show WS _ (sDPut (tVar _) _ _) _ _ _ _ _); first | refine ws_dput rfl ?_ | refine ws_dputT rfl ?_) | ((with_reducible show WS _ (tDrop (tBM _ "dict" rUpd (tVar _) _)) _ _ _ _ _); refine ws_upd rfl ?_) | ((with_reducible show WS _ (tAsg (tCall (spDS _ _ _) _ _ _) (gName _)) _ _ _ _ _); refine ws_asgS ?_) | with_reducible refine ws_asg ?_ | with_reducible refine ws_drop ?_ | ((with_reducible show WS _ (tAug _ _ _) _ _ _ _ _); refine ws_aug rfl ?_) | with_reducible refine ws_par ?_ | with_reducible refine ws_break ?_ | with_reducible refine ws_cont ?_); walk_at "ds"))
local macro_rules | `(tactic| walk_at "d1") => `(tactic| ((with_reducible show WE ..); (first | ((with_reducible show WE _ (tVar _) _ _); refine we_var rfl ?_) | with_reducible refine we_op ?_ | with_reducible refine we_call ?_ | with_reducible refine we_int ?_ | with_reducible refine we_str ?_ | with_reducible refine we_bl ?_ | with_reducible refine we_non ?_ | with_reducible refine we_isi ?_ | with_reducible refine we_notV ?_ | with_reducible refine we_andV ?_ | with_reducible refine we_orV ?_ | with_reducible refine we_if ?_ | with_reducible refine we_chain ?_ | with_reducible refine we_un ?_ | with_reducible refine we_meth (by decide) ?_ | with_reducible refine we_tupK2 ?_ | with_reducible refine we_tup ?_ | with_reducible refine WO.we (wo_lst ?_) | with_reducible refine we_cb ?_ | ((with_reducible show WE _ (tFld _ _ "hard") _ _); refine we_hard (by assumption) ?_) | ((with_reducible show WE _ (tFld _ _ "heavy") _ _); refine we_heavy (by assumption) ?_) | ((with_reducible show WE _ (tFld _ _ "places") _ _); refine we_places (by assumption) ?_) | ((with_reducible show WE _ (tFld _ _ "told") _ _); refine we_told (by assumption) ?_) | ((with_reducible show WE _ (tFld _ _ "meets") _ _); refine we_meets (by assumption) ?_) | with_reducible refine we_din ?_ | with_reducible refine we_dnotin ?_ | ((with_reducible show WE _ (tDGet (tVar _) _) _ _); refine we_dgetL (by assumption) rfl ?_) | with_reducible refine we_dget ?_ | with_reducible refine we_idx ?_ | with_reducible refine WO.we (wo_rev ?_))))
local macro_rules | `(tactic| walk_at "dz") => `(tactic| skip)
local macro_rules | `(tactic| walk_at "dz") => `(tactic| (dsimp only [List.set, wipeR, snd_cons, snd_nil]; repeat walk_at "d1"))
local macro_rules | `(tactic| walk_at "dw") => `(tactic| (walk_at "ds"; (repeat walk_at "d1"); walk_at "dz"))
local macro_rules | `(tactic| walk_at "c1") => `(tactic| (first | ((with_reducible show Wl _ _ → _); intro _) | ((with_reducible show ∀ _ : HO, Wl _ _ → _); intro _ _)))
local macro_rules | `(tactic| walk_at "c1") => `(tactic| ((with_reducible show CI ..); (with_reducible refine c_rng1 ?_)))
local macro_rules | `(tactic| walk_at "c1") => `(tactic| ((with_reducible show CT ..); (with_reducible refine c_test ?_)))
local macro_rules | `(tactic| walk_at "c1") => `(tactic| ((with_reducible show CA ..); (first | with_reducible refine ca_cons ?_ | with_reducible refine ca_nil rfl (by assumption) ?_)))
local macro_rules | `(tactic| walk_at "c1") => `(tactic| ((with_reducible show CE ..); (first | with_reducible refine c_call rfl ?_ | with_reducible refine c_op ?_ | ((with_reducible show CE _ _ _ (tVar _) _ _); refine CE.of rfl (by assumption) ?_) | ((with_reducible show CE _ _ _ (tC _) _ _); refine CE.of rfl (by assumption) ?_) | with_reducible refine c_lst ?_ | with_reducible refine c_tup ?_)))
local macro_rules | `(tactic| walk_at "cd") => `(tactic| (walk_at "d1"))
local macro_rules | `(tactic| walk_at "cd") => `(tactic| (walk_at "c1"; walk_at "ds"))
local macro_rules | `(tactic| walk_at "cz") => `(tactic| skip)
local macro_rules | `(tactic| walk_at "cz") => `(tactic| (dsimp only [List.set, wipeR, snd_cons, snd_nil]; repeat walk_at "cd"))
local macro_rules | `(tactic| walk_at "cw") => `(tactic| (walk_at "ds"; (repeat walk_at "cd"); walk_at "cz"))

/-! ## Bench.__init__ that may raise -/
def lenOf : D → Nat
  | .lst l => l.length
  | _ => 0
def badAt (l : List D) (m n : Nat) : Option Nat := l.findIdx? fun d => !grindB d m n
def whyB (h p g : D) : Option (Str × D) :=
  if hardB h = false then some ("hardness", .non)
  else if wholeD p (some 1) (some 3) = false then some ("places", .non)
  else match g with
    | .lst l => if 1 ≤ l.length ∧ l.length ≤ 6 then (badAt l (lenOf h) (intOf p).toNat).map fun (i : Nat) => ("grindings", D.int (i : Int)) else some ("grindings", .int (-1))
    | _ => some ("grindings", .int (-1))
theorem why1 {h p g : D} (a : hardB h = false) : whyB h p g = some (("hardness" : Str), D.non) := by
  unfold whyB
  rw [if_pos a]
theorem why2 {h p g : D} (a : hardB h = true) (b : wholeD p (some 1) (some 3) = false) : whyB h p g = some (("places" : Str), D.non) := by
  unfold whyB
  rw [if_neg (by rw [a]; decide), if_pos b]
theorem why3 {h p g : D} (a : hardB h = true) (b : wholeD p (some 1) (some 3) = true) (c : ¬ ∃ l, g = .lst l) : whyB h p g = some (("grindings" : Str), D.int (-1)) := by
  unfold whyB
  rw [if_neg (by rw [a]; decide), if_neg (by rw [b]; decide)]
  cases g with
  | lst l => exact absurd ⟨l, rfl⟩ c
  | _ => rfl
theorem why4 {h p : D} {l : List D} (a : hardB h = true) (b : wholeD p (some 1) (some 3) = true) (c : ¬ (1 ≤ l.length ∧ l.length ≤ 6)) : whyB h p (.lst l) = some (("grindings" : Str), D.int (-1)) := by
  unfold whyB
  rw [if_neg (by rw [a]; decide), if_neg (by rw [b]; decide)]
  exact if_neg c
theorem why5 {h p : D} {l : List D} (a : hardB h = true) (b : wholeD p (some 1) (some 3) = true) (c : 1 ≤ l.length ∧ l.length ≤ 6) : whyB h p (.lst l) = (badAt l (lenOf h) (intOf p).toNat).map fun (i : Nat) => (("grindings" : Str), D.int (i : Int)) := by
  unfold whyB
  rw [if_neg (by rw [a]; decide), if_neg (by rw [b]; decide)]
  exact if_pos c
theorem bad_some {l : List D} {m n i : Nat} {y : D} (hi : ∀ d ∈ l.take i, grindB d m n = true) (hy : l[i]? = some y) (z : grindB y m n = false) : badAt l m n = some i := by
  unfold badAt
  obtain ⟨h1, h2⟩ := List.getElem?_eq_some_iff.mp hy
  rw [List.findIdx?_eq_some_iff_getElem]
  refine ⟨h1, by rw [h2, z]; rfl, fun j hj => ?_⟩
  have := hi (l[j]'(by omega)) (List.mem_take_iff_getElem.mpr ⟨j, by omega, rfl⟩)
  rw [this]
  decide
theorem bad_none {l : List D} {m n : Nat} (hi : ∀ d ∈ l, grindB d m n = true) : badAt l m n = none := by
  unfold badAt
  rw [List.findIdx?_eq_none_iff]
  intro d hd
  rw [hi d hd]
  rfl
/-- a bench's parts, as data -/
def goodB (B : BD) (h p g : D) : Prop := h = lI B.hard ∧ p = .int (B.places : Int) ∧ ∃ l, g = .lst l ∧ Pl 20 g ∧ pys l = B.told.map gD
def cInitX (CN : Addr) : List D → (BD → Prop) → (Xc → Prop) → Prop := fun ds kb kx => ∃ h p g, ds = [h, p, g] ∧ Ki h ∧ Kd p ∧ Kgs g ∧
  ((∃ B, BOk B ∧ goodB B h p g ∧ whyB h p g = none ∧ kb B) ∨ (∃ e, whyB h p g = some e ∧ kx ⟨CN, ["at", "what"], [e.2, .str e.1]⟩))
def spInitX (K : PySem.W.Frag) (C CN : Addr) : Sp := fun vs H Q E => ∃ st x dx H1 F1 us ds kb kx, vs = .ref x :: us ∧ H = upd (upd H1 dx (.own x)) x (.ins C dx []) ∧ H1 x = none ∧ H1 dx = none ∧ dx ≠ x ∧ Gd K st F1 H1 ∧ RA K C st F1 us ds ∧ cInitX CN ds kb kx ∧
  (∀ B F' H', XE K st F1 H1 F' H' → BenchAt K C F' x B → kb B → Q .non H') ∧ ∀ cls d y F' H', XE K st F1 H1 F' H' → RX K C st F' cls d y → kx y → E cls d H'
theorem len8 {α : Type} {l : List α} (h : l.length = 8) : ∃ a b c d e f g i, l = [a, b, c, d, e, f, g, i] := by
  match l, h with
  | [a, b, c, d, e, f, g, i], _ => exact ⟨a, b, c, d, e, f, g, i, rfl⟩
/-- the class of what is raised -/
structure NbX (K : PySem.W.Frag) (mg : Str → Option Value) (C : Addr) : Prop where
  gP : mg "NoBench" = some (.ref C)
  ox : OexC K C
  xf : XfC K C
  nw : PySem.W.findIn K (.ref C) "what" = some none
  na : PySem.W.findIn K (.ref C) "at" = some none
section
variable {P : Program} {w : World} {K : PySem.W.Frag} {mg : Str → Option Value} {base : Heap} {C : Addr}
abbrev s_Bench___init__ : Stmt := inClass (topS 17) 0
abbrev n_Bench___init__ : List Str := ["self", "hardness", "places", "grindings", "at", "thing", "one", "place"]
theorem sc_Bench___init__ : FnScope ["self", "hardness", "places", "grindings", "at", "thing", "one", "place"] ["self", "hardness", "places", "grindings"] (defScope s_Bench___init__) := ⟨rfl, rfl, rfl, by decide +kernel, rfl, by decide +kernel, by decide +kernel⟩
theorem ok_initX {C_NoBench : Addr} (B0 : Blt mg) (T : Txt K mg C) (X_NB : NbX K mg C_NoBench) (e_NoBench : DefE P w K mg base 1 C_NoBench "NoBench" ["self", "what", "at"] (spNB K)) (e1_NoBench : DefE1 P w K mg base 1 C_NoBench "NoBench" ["self", "what", "at"] (spNB K))
    (d_is_hardness : Def P w K mg base 2 "is_hardness" ["thing"] (spD K C cHardX)) (d_is_whole : Def P w K mg base 1 "is_whole" ["thing", "low", "high"] (spD K C cWhole)) (d_is_grinding : Def P w K mg base 4 "is_grinding" ["thing", "plates", "places"] (spD K C cGrindX))
    (d_Bench_pairs_of : DefM P w K mg base 1 C "pairs_of" ["self", "grinding"] (spPairsOf K C)) {f : Addr} {fd : FuncData} (F : Fun K "__init__" "Bench.__init__" s_Bench___init__ f fd) : FnOk P w K mg base (L2.CX P w) 5 f fd ["self", "hardness", "places", "grindings"] (spInitX K C C_NoBench) := by
  refine F.okX (k := 4) sc_Bench___init__ (fun vs H Q E h => ?_) (fun cdv A outer s H vs Q E hr h => ?_)
  · obtain ⟨st, x, dx, H1, F1, us, ds, kb, kx, rfl, _, _, _, _, _, r, ⟨h, p, g, rfl, _⟩, _⟩ := h
    rw [List.length_cons, r.len]
    rfl
  obtain ⟨st, x, dx, H1, F1, us, ds, kb, kx, rfl, rfl, nx, ndx, nex, gd, r, ⟨h, p, g, rfl, kh, kp, kg, hc⟩, q, qx⟩ := h
  obtain ⟨_, g_MOST_PLACES⟩ := T.g_MOST_PLACES
  obtain ⟨_, g_MOST_GRINDINGS⟩ := T.g_MOST_GRINDINGS
  have B := B0
  have x0 : XE K st F1 H1 F1 (upd (upd H1 dx (.own x)) x (.ins C dx [])) := by
    refine ((XE.refl gd).mut ndx).mut ?_
    rw [upd_ne (Ne.symm nex)]
    exact nx
  have hx0 : (upd (upd H1 dx (.own x)) x (.ins C dx [])) x = some (.ins C dx []) := upd_same
  generalize upd (upd H1 dx (.own x)) x (.ins C dx []) = H at *
  cases r with | @cons vh _ _ _ rh r => cases r with | @cons vp _ _ _ rp r => cases r with | @cons vg _ _ _ rg r =>
  cases r
  have qx' : ∀ cls d y F' H', XE K st F1 H F' H' → RX K C st F' cls d y → kx y → E cls d H' := fun cls d y F' H' x => qx cls d y F' H' (x0.trans x)
  have hk : ∀ e, whyB h p g = some e → kx ⟨C_NoBench, ["at", "what"], [e.2, .str e.1]⟩ := fun e he => by
    rcases hc with ⟨_, _, _, hn, _⟩ | ⟨e', h1, h2⟩
    · rw [hn] at he
      cases he
    · rw [h1] at he
      cases he
      exact h2
  have hW := wok_end (M := ⟨K, C, st, F1, H⟩) qx'
  have e0 := fr_start (N := n_Bench___init__) (vs := [V.ref x, vh, vp, vg]) (ds := [.exc x none [] [], h, p, g]) x0.gd (.cons .exc0 (.cons rh (.cons rp (.cons rg .nil))))
  refine ⟨_, (pss_cons (ps_if (pt_not (pt_val (pe_d d_is_hardness (hr.mono (by decide)) (by rfl) (pa_cons (pv 1) pa_nil)))) (pss_one (ps_raise rfl (takes_of rfl rfl rfl rfl) (pmk_de1 e1_NoBench (hr.mono (by decide)) (by rfl) (pa_cons pe_str pa_nil)))) pss_nil) (pss_cons (ps_if (pt_not (pt_val (pe_d d_is_whole (hr.mono (by decide)) (by rfl) (pa_cons (pv 2) (pa_cons pe_int (pa_cons (pe_glob (v := .int 3) rfl g_MOST_PLACES ⟨_, rfl⟩) pa_nil)))))) (pss_one (ps_raise rfl (takes_of rfl rfl rfl rfl) (pmk_de1 e1_NoBench (hr.mono (by decide)) (by rfl) (pa_cons pe_str pa_nil)))) pss_nil) (pss_cons (ps_if (PW.pt (pw_or (pt_not (pt_val (pe_callB (k_isi (K := K) rfl) (by rfl) B.isinstance bb_isinstance (pa_cons (pv 3) (pa_cons (pe_bltn (v := .ty "list") (by rfl) B.list bb_list rfl) pa_nil))))) (pw_or1 (pt_not (pt_chain op_le op_le pe_int (pe_callB (k_len (K := K) rfl) (by rfl) B.len bb_len (pa_cons (pv 3) pa_nil)) (pe_glob (v := .int 6) rfl g_MOST_GRINDINGS ⟨_, rfl⟩)))))) (pss_one (ps_raise rfl (takes_of rfl rfl rfl rfl) (pmk_de e_NoBench (hr.mono (by decide)) (by rfl) (pa_cons pe_str (pa_cons (pe_un un_neg pe_int) pa_nil))))) pss_nil) (pss_cons (ps_for (passes_of rfl) rfl (k_enumM (K := K) rfl (by rfl) B.enumerate (pa_cons (pv 3) pa_nil)) (k_tup (K := K) (n := 2) rfl rfl (pgs_cons (pg_name (i := 4) sc_Bench___init__.nd rfl (Or.inl rfl)) (pgs_cons (pg_name (i := 5) sc_Bench___init__.nd rfl (Or.inl rfl)) pgs_nil))) (pss_one (ps_if (pt_not (pt_val (pe_d d_is_grinding (hr.mono (by decide)) (by rfl) (pa_cons (pv 5) (pa_cons (pe_callB (k_len (K := K) rfl) (by rfl) B.len bb_len (pa_cons (pv 1) pa_nil)) (pa_cons (pv 2) pa_nil)))))) (pss_one (ps_raise rfl (takes_of rfl rfl rfl rfl) (pmk_de e_NoBench (hr.mono (by decide)) (by rfl) (pa_cons pe_str (pa_cons (pv 4) pa_nil))))) pss_nil))) (pss_cons (k_sfld (K := K) rfl (pv 0) (pe_callTy (k_list (K := K) rfl) (by rfl) B.list bb_list (pa_cons (pv 1) pa_nil)) rfl) (pss_cons (k_sfld (K := K) rfl (pv 0) (pv 2) rfl) (pss_cons (k_sfld (K := K) rfl (pv 0) (pe_callTy (k_list (K := K) rfl) (by rfl) B.list bb_list (pa_cons (pv 3) pa_nil)) rfl) (pss_cons (k_sfld (K := K) rfl (pv 0) (pe_lc2 (own := [("one", 6), ("place", 7)]) (vs1 := [7]) rfl sc_Bench___init__.nd (k_seq (K := K) rfl (pv 1)) (blkOk_by (own := [("one", 6), ("place", 7)]) (N := n_Bench___init__) (sc := defScope s_Bench___init__) (by decide +kernel)) (by decide) (fun _ _ _ _ _ => (pg_name (i := 6) sc_Bench___init__.nd rfl (Or.inl rfl))) (fun _ _ _ _ _ => pts_nil) (fun _ _ _ _ _ => (pi_range1 (by rfl) B.range (pa_cons (pv 2) pa_nil))) (fun _ _ _ _ _ => (pg_name (i := 7) sc_Bench___init__.nd rfl (Or.inl rfl))) (fun _ _ _ _ _ => pts_nil) (fun _ _ _ _ _ => (pv 6))) rfl) (pss_one (k_sfld (K := K) rfl (pv 0) (pe_lc (own := [("thing", 5)]) rfl sc_Bench___init__.nd (k_seq (K := K) rfl (pv 3)) (blkOk_by (own := [("thing", 5)]) (N := n_Bench___init__) (sc := defScope s_Bench___init__) (by decide +kernel)) (fun _ _ _ _ _ => (pg_name (i := 5) sc_Bench___init__.nd rfl (Or.inl rfl))) (fun _ _ _ _ _ => pts_nil) (fun _ _ _ _ _ => (pe_dm d_Bench_pairs_of (hr.mono (by decide)) T.cl (pv 0) (pa_cons (pv 5) pa_nil)))) rfl)))))))))), ?_⟩; refine start_eq (σ' := [some (.ref x), some (vh), some (vp), some (vg), none, none, none, none]) rfl ?_
  refine ws_step (nx1 := fun ρ' => ρ' = [some (.d (.exc x none [] [])), some (.d h), some (.d p), some (.d g), none, none, none, none] ∧ hardB h = true) ?_ e0 fun ρ' σ1 F2 H2 e1 hq => ?_
  · walk_at "dw"
    refine ⟨h, rfl, kh, ?_⟩
    cases z : hardB h with
    | false =>
      walk_at "dw"
      refine ws_raiseNB1 X_NB.ox X_NB.nw X_NB.na hW ?_
      walk_at "dw"
      exact hk ("hardness", .non) (why1 z)
    | true =>
      walk_at "dw"
      exact ⟨rfl, rfl⟩
  obtain ⟨rfl, h1⟩ := hq
  refine ws_step (nx1 := fun ρ' => ρ' = [some (.d (.exc x none [] [])), some (.d h), some (.d p), some (.d g), none, none, none, none] ∧ wholeD p (some 1) (some 3) = true) ?_ e1 fun ρ' σ2 F3 H3 e2 hq => ?_
  · walk_at "dw"
    refine ⟨p, some 1, some 3, rfl, kp, ?_⟩
    cases z : wholeD p (some 1) (some 3) with
    | false =>
      walk_at "dw"
      refine ws_raiseNB1 X_NB.ox X_NB.nw X_NB.na hW ?_
      walk_at "dw"
      exact hk ("places", .non) (why2 h1 z)
    | true =>
      walk_at "dw"
      exact ⟨rfl, rfl⟩
  obtain ⟨rfl, h2⟩ := hq
  refine ws_step (nx1 := fun ρ' => ρ' = [some (.d (.exc x none [] [])), some (.d h), some (.d p), some (.d g), none, none, none, none] ∧ ∃ l, g = .lst l ∧ 1 ≤ l.length ∧ l.length ≤ 6) ?_ e2 fun ρ' σ3 F4 H4 e3 hq => ?_
  · walk_at "dw"
    obtain ⟨Ty, hT⟩ := Option.isSome_iff_exists.mp kg.1.1.1
    refine ⟨_, _, hT, kl_of hT, ?_⟩
    by_cases z : ∃ l, g = .lst l
    · obtain ⟨l, rfl⟩ := z
      cases hT
      rw [decide_eq_true rfl]
      have kl := kg.1.1.2 _ _ rfl
      walk_at "dw"
      have hn : ¬ (1 ≤ l.length ∧ l.length ≤ 6) → kx ⟨C_NoBench, ["at", "what"], [.int (-1), .str "grindings"]⟩ := fun z => hk ("grindings", .int (-1)) (why4 h1 h2 z)
      refine s_d2 (fun z1 => ?_) (fun z1 => ?_)
      · walk_at "dw"
        by_cases z2 : (l.length : Int) ≤ 6
        · rw [decide_eq_true z2]
          walk_at "dw"
          exact ⟨rfl, l, rfl, by omega, by omega⟩
        · rw [decide_eq_false z2]
          walk_at "dw"
          refine ws_raiseNB X_NB.ox X_NB.nw X_NB.na hW ?_
          walk_at "dw"
          exact hn (by omega)
      · walk_at "dw"
        refine ws_raiseNB X_NB.ox X_NB.nw X_NB.na hW ?_
        walk_at "dw"
        exact hn (by omega)
    · have nl : Ty ≠ "list" := by
        intro e
        subst e
        cases g with
        | lst l => exact z ⟨l, rfl⟩
        | _ => simp [D.ty] at hT
      rw [decide_eq_false nl]
      walk_at "dw"
      refine ws_raiseNB X_NB.ox X_NB.nw X_NB.na hW ?_
      walk_at "dw"
      exact hk ("grindings", .int (-1)) (why3 h1 h2 z)
  obtain ⟨rfl, l, rfl, l1, l6⟩ := hq
  obtain ⟨hl, rfl, n, rfl, hn4, n1, n3⟩ : ∃ hl, h = .lst hl ∧ ∃ n : Nat, p = .int (n : Int) ∧ hl.length ≤ 4 ∧ 1 ≤ n ∧ n ≤ 3 := by
    cases h with
    | lst hl =>
      cases p with
      | int i =>
        have a : (decide ((2 : Int) ≤ hl.length) && decide ((hl.length : Int) ≤ 4)) = true := by
          have : ((decide ((2 : Int) ≤ hl.length) && decide ((hl.length : Int) ≤ 4)) && _) = true := h1
          exact (Bool.and_eq_true _ _ ▸ this).1
        rw [Bool.and_eq_true, decide_eq_true_eq, decide_eq_true_eq] at a
        have b : (decide ((1 : Int) ≤ i) && decide (i ≤ 3)) = true := h2
        rw [Bool.and_eq_true, decide_eq_true_eq, decide_eq_true_eq] at b
        exact ⟨hl, rfl, i.toNat, by congr 1; omega, by omega, by omega, by omega⟩
      | _ => cases h2
    | _ => cases h1
  have wy : whyB (.lst hl) (.int (n : Int)) (.lst l) = (badAt l hl.length n).map fun (i : Nat) => (("grindings" : Str), D.int (i : Int)) := why5 h1 h2 ⟨l1, l6⟩
  refine ws_step (nx1 := fun ρ' => (∃ a b, ρ' = [some (.d (.exc x none [] [])), some (.d (.lst hl)), some (.d (.int (n : Int))), some (.d (.lst l)), a, b, none, none]) ∧ badAt l hl.length n = none) ?_ e3 fun ρ' σ4 Fz Hz e4 hq => ?_
  · refine ws_for (wi_enumM ?_)
    walk_at "dw"
    refine ⟨_, _, _, rfl, rfl, ?_⟩
    refine ⟨fun i ρ => (∃ a b, ρ = [some (.d (.exc x none [] [])), some (.d (.lst hl)), some (.d (.int (n : Int))), some (.d (.lst l)), a, b, none, none]) ∧ ∀ d ∈ l.take i, grindB d hl.length n = true, ⟨⟨_, _, rfl⟩, fun _ h => nomatch h⟩, ?_, ?_⟩
    · rintro i d ρ hd ⟨⟨a, b, rfl⟩, hi⟩
      obtain ⟨y, hy, rfl⟩ : ∃ y, l[i]? = some y ∧ d = .tup [.int (i : Int), y] := by
        unfold enumD at hd
        rw [List.getElem?_mapIdx] at hd
        cases hx : l[i]? with
        | none => rw [hx] at hd; cases hd
        | some x => rw [hx] at hd; cases hd; exact ⟨x, rfl, rfl⟩
      walk_at "dw"
      refine ⟨y, hl.length, n, rfl, by omega, by omega, kg.2 _ _ rfl y (List.mem_of_getElem? hy), ?_⟩
      cases z : grindB y hl.length n with
      | false =>
        walk_at "dw"
        refine ws_raiseNB X_NB.ox X_NB.nw X_NB.na hW ?_
        walk_at "dw"
        refine hk ("grindings", .int (i : Int)) ?_
        rw [wy]
        rw [bad_some hi hy z]
        rfl
      | true =>
        walk_at "dw"
        refine ⟨⟨_, _, rfl⟩, fun d hd => ?_⟩
        rw [List.take_add_one, hy] at hd
        rcases List.mem_append.mp hd with h | h
        · exact hi d h
        · cases List.mem_singleton.mp h
          exact z
    · rintro ρ ⟨⟨a, b, rfl⟩, hi⟩
      exact ⟨⟨a, b, rfl⟩, bad_none fun d hd => hi d (by rw [List.take_of_length_le (by simp [enumD])]; exact hd)⟩
  obtain ⟨⟨a4, a5, rfl⟩, nb⟩ := hq
  rw [nb, Option.map_none] at wy
  have hc : ∃ B1, BOk B1 ∧ goodB B1 (.lst hl) (.int (n : Int)) (.lst l) ∧ kb B1 := by
    rcases hc with ⟨B1, ok, gg, _, kbB⟩ | ⟨e, he, _⟩
    · exact ⟨B1, ok, gg, kbB⟩
    · rw [wy] at he
      cases he
  obtain ⟨B1, ok, ⟨eh, ep, l', el, pl, py⟩, kbB⟩ := hc
  cases el
  cases eh
  obtain rfl : n = B1.places := by injection ep with ep; omega
  obtain ⟨y0, y1, y2, y3, y4, y5, y6, y7, rfl⟩ := len8 e4.len
  obtain ⟨v0, z0, r0⟩ := e4.each 0 _ rfl
  obtain ⟨v1, z1, r1⟩ := e4.each 1 _ rfl
  obtain ⟨v2, z2, r2⟩ := e4.each 2 _ rfl
  obtain ⟨v3, z3, r3⟩ := e4.each 3 _ rfl
  cases z0
  cases z1
  cases z2
  cases z3
  have r0 : R K C st Fz v0 (.exc x none [] []) := r0
  have r1 : R K C st Fz v1 (lI B1.hard) := r1
  have r2 : R K C st Fz v2 (.int (B1.places : Int)) := r2
  have r3 : R K C st Fz v3 (.lst l) := r3
  cases r0
  cases r2
  have p3 := pl.dp r3
  rw [D.py, py] at p3
  cases r3 with | @lst lg w2 _ a2 b2 =>
  cases r1 with | @lst lh w1 _ a1 b1 =>
  rw [b1.ints] at a1
  obtain ⟨gx, hgx, hga⟩ := dp_list p3
  have sne := gd.ok.ne nx
  have dx0 : Dl st H x = some (.ins C dx []) := Dl_of hx0 sne rfl
  have hx3 : Hz x = some (.ins C dx []) := (Dl_some (e4.x.ext.hh _ _ dx0)).1
  have fx : Fz x = none := e4.x.ext.fr x _ dx0 rfl (sub_none gd.sub nx)
  have xd : XE K st F1 H1 Fz (G.del Hz x) := XE.dels (x0.trans e4.x) nx fx hx3
  have hF : Same Fz (G.del Hz x) := fun b o h => by
    rw [G.del_ne (fun z => by rw [z, fx] at h; cases h)]
    exact e4.gd.sub b o h
  have e : Ext Fz (G.del Hz x) Fz Hz := ⟨G.del_sub, Same.refl Fz, e4.gd.sub, fun _ _ h => h, fun _ _ h => h⟩
  have q := fun F' H' (e' : Ext Fz (G.del Hz x) F' H') hb => q B1 F' H' (xd.pure e') hb kbB
  have nx : (G.del Hz x) x = none := G.del_same
  have hh := sqL_mono hF a1
  have hgx := sqL_mono hF hgx
  generalize G.del Hz x = Hx at *
  have glen : gx.length = B1.told.length := by rw [dpAll_len hga, List.length_map]
  have p1 := ok.plates
  have p2 := ok.places
  have p3 := ok.told
  walk_at "rd"
  -- self.hard
  refine s_listL (sqL_mono e.hh hh) fun l1 n1 => ?_
  walk_at "rd"
  refine ⟨_, _, _, _, rfl, rH_new n1 hx3, T.cl, T.n_hard, by decide, ?_⟩
  have m1 : l1 ≠ x := fun z => by rw [z, hx3] at n1; cases n1
  have fx : Fz x = none := sub_none hF nx
  have e5 : Ext Fz Hx (upd Fz l1 (.lst (B1.hard.map V.int))) (upd (upd Hz l1 (.lst (B1.hard.map V.int))) x (.ins C dx (putF "hard" (.ref l1) []))) := (e.new n1).chg nx (by rw [upd_ne (Ne.symm m1)]; exact fx)
  have hx5 : (upd (upd Hz l1 (.lst (B1.hard.map V.int))) x (.ins C dx (putF "hard" (.ref l1) []))) x = some (.ins C dx (putF "hard" (.ref l1) [])) := upd_same
  have f5 : (upd Fz l1 (.lst (B1.hard.map V.int))) l1 = some (.lst (B1.hard.map V.int)) := upd_same
  have fx5 : (upd Fz l1 (.lst (B1.hard.map V.int))) x = none := by rw [upd_ne (Ne.symm m1)]; exact fx
  generalize upd (upd Hz l1 (.lst (B1.hard.map V.int))) x (.ins C dx (putF "hard" (.ref l1) [])) = H5 at *
  generalize upd Fz l1 (.lst (B1.hard.map V.int)) = F5 at *
  -- self.places
  walk_at "rd"
  refine ⟨_, _, _, _, rfl, hx5, T.cl, T.n_places, Nat.lt_of_le_of_lt (pf pf0) (by decide), ?_⟩
  have e6 := e5.chg (o := .ins C dx (putF "places" (.int (B1.places : Int)) (putF "hard" (.ref l1) []))) nx fx5
  have hx6 : (upd H5 x (.ins C dx (putF "places" (.int (B1.places : Int)) (putF "hard" (.ref l1) [])))) x = some (.ins C dx (putF "places" (.int (B1.places : Int)) (putF "hard" (.ref l1) []))) := upd_same
  generalize upd H5 x (.ins C dx (putF "places" (.int (B1.places : Int)) (putF "hard" (.ref l1) []))) = H6 at *
  -- self.told
  walk_at "rd"
  refine s_listL (sqL_mono e6.hh hgx) fun l2 n2 => ?_
  walk_at "rd"
  refine ⟨_, _, _, _, rfl, rH_new n2 hx6, T.cl, T.n_told, Nat.lt_of_le_of_lt (pf (pf pf0)) (by decide), ?_⟩
  have m2 : l2 ≠ x := fun z => by rw [z, hx6] at n2; cases n2
  have fx7 : (upd F5 l2 (.lst gx)) x = none := by rw [upd_ne (Ne.symm m2)]; exact fx5
  have e7 := ((e6.new (o := .lst gx) n2)).chg (o := .ins C dx (putF "told" (.ref l2) (putF "places" (.int (B1.places : Int)) (putF "hard" (.ref l1) [])))) nx fx7
  have hx7 : (upd (upd H6 l2 (.lst gx)) x (.ins C dx (putF "told" (.ref l2) (putF "places" (.int (B1.places : Int)) (putF "hard" (.ref l1) []))))) x = some (.ins C dx (putF "told" (.ref l2) (putF "places" (.int (B1.places : Int)) (putF "hard" (.ref l1) [])))) := upd_same
  have f7 : (upd F5 l2 (.lst gx)) l2 = some (.lst gx) := upd_same
  have s57 : Same F5 (upd F5 l2 (.lst gx)) := same_upd (sub_none e6.fh n2)
  generalize upd (upd H6 l2 (.lst gx)) x (.ins C dx (putF "told" (.ref l2) (putF "places" (.int (B1.places : Int)) (putF "hard" (.ref l1) [])))) = H7 at *
  generalize upd F5 l2 (.lst gx) = F7 at *
  -- self.heavy
  walk_at "rd"
  refine .inl ⟨_, rfl, ⟨_, sqL_mono e7.hh hh⟩, ?_⟩
  refine lc2_mapH (walk_list (xs := B1.hard.map V.int)) e7.fh (fun H' s' => sqL_mono (e7.hh.trans s') hh) (B1.hard.map fun h => List.replicate B1.places (V.int h)) (by simp) ?_ ?_ ?_
  · rw [heavy_flat, List.length_map]
    have := ok.heavy_lt
    exact Nat.lt_of_le_of_lt this (by decide)
  · intro i v row F' Ha Hb D Nx hrow ex fd hacc hy hz
    obtain ⟨rfl, hv⟩ := hy
    have hi : i < B1.hard.length := by
      have := (List.getElem?_eq_some_iff.mp hrow).1
      simpa using this
    have ev : v = .int B1.hard[i] := by
      rw [List.getElem?_map, List.getElem?_eq_getElem hi] at hv
      exact (Option.some.inj hv).symm
    have er : row = List.replicate B1.places (V.int B1.hard[i]) := by
      rw [List.getElem?_map, List.getElem?_eq_getElem hi] at hrow
      exact (Option.some.inj hrow).symm
    subst ev er
    obtain ⟨acc, ha, hal⟩ := hacc
    walk_at "rd"
    refine ⟨rfl, ?_⟩
    walk_at "rd"
    refine ⟨_, rfl, by omega, by omega, ?_⟩
    refine in_map walk_range (F := F') ex.fh (fun _ _ => trivial) fd ha (List.replicate B1.places (V.int B1.hard[i])) (by simp) (by simp at hal ⊢; omega) ?_ ?_
    · intro j v2 y Hc Hd Z hrj _ _ hy2 hz2
      obtain ⟨rfl, rfl⟩ := hy2
      have : y = .int B1.hard[i] := by
        have := List.mem_of_getElem? hrj
        exact (List.mem_replicate.mp this).2
      subst this
      walk_at "rd"
      refine ⟨rfl, ?_⟩
      walk_at "rd"
      exact hz2 _ (Same.refl _)
    · intro H'' f1 f2 f3
      exact hz acc ha H'' f1 f2 f3
  · intro l3 F8 H8 n3 e8 f8
    rw [heavy_flat] at f8
    have e18 := e7.trans e8
    have m3 : l3 ≠ x := fun z => by rw [z, hx7] at n3; cases n3
    have fx8 : F8 x = none := e8.fr x (by rw [hx7]; simp) fx7
    have hx8 := e8.hh _ _ hx7
    walk_at "rd"
    refine ⟨_, _, _, _, rfl, hx8, T.cl, T.n_heavy, Nat.lt_of_le_of_lt (pf (pf (pf pf0))) (by decide), ?_⟩
    have e9 := e18.chg (o := .ins C dx (putF "heavy" (.ref l3) (putF "told" (.ref l2) (putF "places" (.int (B1.places : Int)) (putF "hard" (.ref l1) []))))) nx fx8
    have hx9 : (upd H8 x (.ins C dx (putF "heavy" (.ref l3) (putF "told" (.ref l2) (putF "places" (.int (B1.places : Int)) (putF "hard" (.ref l1) [])))))) x = some (.ins C dx (putF "heavy" (.ref l3) (putF "told" (.ref l2) (putF "places" (.int (B1.places : Int)) (putF "hard" (.ref l1) []))))) := upd_same
    generalize upd H8 x (.ins C dx (putF "heavy" (.ref l3) (putF "told" (.ref l2) (putF "places" (.int (B1.places : Int)) (putF "hard" (.ref l1) []))))) = H9 at *
    -- self.meets
    walk_at "rd"
    refine .inl ⟨_, rfl, ⟨_, sqL_mono e9.hh hgx⟩, ?_⟩
    refine lc_mapH (walk_list (xs := gx)) e9.fh (by omega) (fun H' s' => sqL_mono (e9.hh.trans s') hgx) (fun i F' v => ∃ g, B1.told[i]? = some g ∧ Dp K F' v (.list ((pairsOf B1.places g).map pD))) (fun _ _ _ _ s' h => by obtain ⟨g, h1, h2⟩ := h; exact ⟨g, h1, dp_mono s' h2⟩) (fun i v F' Ha Hb D Z hi ex fd _ hy hz => ?_) (fun l4 ys F' H' n4 ex hd hlen hR => ?_)
    · obtain ⟨rfl, hv⟩ := hy
      have hti : B1.told[i]? = some (B1.told[i]'(by omega)) := List.getElem?_eq_getElem (by omega)
      obtain ⟨v', hv', dv⟩ := dpAll_get (i := i) hga (by rw [List.getElem?_map, hti]; rfl)
      rw [hv] at hv'
      cases hv'
      have ein := ok.each _ (List.mem_of_getElem? hti)
      walk_at "rd"
      refine ⟨rfl, ?_⟩
      walk_at "rd"
      refine ⟨_, _, _, rfl, ex.hh _ _ hx9, rfl, ?_⟩
      walk_at "rd"
      refine ⟨x, dx, _, B1.places, _, v, F', rfl, ex.hh _ _ hx9, rfl, dp_mono (e9.ff.trans (ex.ff.trans ex.fh)) dv, ?_, by omega, by omega, by omega, ex.fh, fun u F4 H4 e4 d4 => ?_⟩
      · rw [ein.2.2.2.length_eq, List.length_range]
      · exact hz u F4 H4 e4 ⟨_, hti, d4⟩
    · have e19 := e9.trans ex
      have fx9 : F' x = none := ex.fr x (by rw [hx9]; simp) fx8
      walk_at "rd"
      refine ⟨_, _, _, _, rfl, ex.hh _ _ hx9, T.cl, T.n_meets, Nat.lt_of_le_of_lt (pf (pf (pf (pf pf0)))) (by decide), ?_⟩
      have e20 := e19.chg (o := .ins C dx (putF "meets" (.ref l4) (putF "heavy" (.ref l3) (putF "told" (.ref l2) (putF "places" (.int (B1.places : Int)) (putF "hard" (.ref l1) [])))))) nx fx9
      have e21 := e20.frz nx fx9 upd_same
      refine q _ _ e21 ⟨dx, l1, l2, l3, l4, ?_, ?_, ?_, ?_, ?_⟩
      · rw [upd_same]
        rfl
      · exact sqL_mono (((s57.trans e8.ff).trans ex.ff).trans (same_upd fx9)) (.inl (.inl f5))
      · exact dp_mono ((e8.ff.trans ex.ff).trans (same_upd fx9)) (.lst (.inl (.inl f7)) (dpAll_mono e7.ff hga))
      · exact sqL_mono (ex.ff.trans (same_upd fx9)) (.inl (.inl f8))
      · refine dp_mono (same_upd fx9) (.lst (.inl (.inl hd)) (dpAll_of ?_ fun i v d h1 h2 => ?_))
        · rw [hlen, glen, List.length_map, B1.meets_len]
        · obtain ⟨g, h3, h4⟩ := hR i v h1
          simp only [BD.meets, List.getElem?_map, h3, Option.map_some] at h2
          cases h2
          exact h4
end
end G.Q

namespace G.Q
open PySem PySem.Spec PyProof.Rows L2
local macro_rules | `(tactic| walk_at "ds") => `(tactic| skip)
local macro_rules | `(tactic| walk_at "ds") => `(tactic| dsimp only [List.set, wipeR, snd_cons, snd_nil])
local macro_rules | `(tactic| walk_at "d1") => `(tactic| ((first | with_reducible refine key_str ?_ | with_reducible refine ⟨_, rfl, ?_⟩ | with_reducible refine ⟨_, _, rfl, ?_⟩ | ((with_reducible show List.length _ ≤ 1000 ∧ _); refine len_ok (by rfl) ?_) | ((with_reducible show if D.isN _ = true then _ else _); first | refine s_nnT (by rfl) ?_ | refine s_nnF (by rfl) ?_) | ((with_reducible show if (!D.isN _) = true then _ else _); first | refine s_mnT (by rfl) ?_ | refine s_mnF (by rfl) ?_) | with_reducible refine s_cT ?_ | with_reducible refine s_cF ?_ | with_reducible refine s_nT ?_ | with_reducible refine s_nF ?_); walk_at "ds"))
local macro_rules | `(tactic| walk_at "d1") => `(tactic| ((with_reducible show WPs ..); (first | with_reducible refine wps_cons ?_ | with_reducible refine wps_nil ?_)))
local macro_rules | `(tactic| walk_at "d1") => `(tactic| ((with_reducible show WI ..); (with_reducible refine wi_rng1 ?_)))
local macro_rules | `(tactic| walk_at "d1") => `(tactic| ((with_reducible show WV ..); (with_reducible refine WI.wv ?_)))
local macro_rules | `(tactic| walk_at "d1") => `(tactic| ((with_reducible show WP ..); (first | with_reducible refine wp_no ?_ | with_reducible refine wp_some ?_)))
local macro_rules | `(tactic| walk_at "d1") => `(tactic| ((with_reducible show WOT ..); (first | with_reducible refine wot_new ?_ | with_reducible refine wot_disp1 ?_)))
local macro_rules | `(tactic| walk_at "d1") => `(tactic| ((with_reducible show WOK ..); (first | with_reducible refine wok_new ?_ | with_reducible refine wok_disp1 ?_)))
local macro_rules | `(tactic| walk_at "d1") => `(tactic| ((with_reducible show WD ..); (first | with_reducible refine wd_tup ?_ | with_reducible refine wd_lst ?_)))
local macro_rules | `(tactic| walk_at "d1") => `(tactic| ((with_reducible show WAD ..); (first | with_reducible refine wad_cons ?_ | with_reducible refine wad_nil ?_)))
local macro_rules | `(tactic| walk_at "d1") => `(tactic| ((with_reducible show DIn ..); (first | with_reducible refine din_I ?_ | with_reducible refine din_S ?_ | with_reducible refine din_T ?_)))
local macro_rules | `(tactic| walk_at "d1") => `(tactic| ((with_reducible show DGt ..); (first | with_reducible refine dgp_hard ?_ | with_reducible refine dgp_wide ?_ | with_reducible refine dgp_rows ?_ | with_reducible refine dgp_pairs ?_ | with_reducible refine dgp_many ?_ | with_reducible refine dg_hard ?_ | with_reducible refine dg_places ?_ | with_reducible refine dg_told ?_ | with_reducible refine dg_heavy ?_ | with_reducible refine dg_meets ?_)))
local macro_rules | `(tactic| walk_at "d1") => `(tactic| ((with_reducible show OU ..); (with_reducible refine ou_neg ?_)))
local macro_rules | `(tactic| walk_at "d1") => `(tactic| ((with_reducible show WAB ..); (first | with_reducible refine wab_cons ?_ | with_reducible refine wab_nil ?_)))
local macro_rules | `(tactic| walk_at "d1") => `(tactic| ((with_reducible show CRO ..); (first | with_reducible refine cr_listL ?_ | with_reducible refine cr_listT ?_ | with_reducible refine cr_listS ?_)))
local macro_rules | `(tactic| walk_at "d1") => `(tactic| ((with_reducible show WO ..); (first | with_reducible refine wo_lst ?_ | ((with_reducible show WO _ (tOp rMulS (tLst _) _) _ _); refine wo_rep ?_) | with_reducible refine wo_op ?_ | with_reducible refine wo_cb ?_ | with_reducible refine wo_rev ?_)))
local macro_rules | `(tactic| walk_at "d1") => `(tactic| ((with_reducible show CR ..); (first | with_reducible refine cr_lenDK ?_ | with_reducible refine cr_lenDT ?_ | with_reducible refine cr_lenL ?_ | with_reducible refine cr_lenT ?_ | with_reducible refine cr_lenS ?_ | with_reducible refine cr_lenX ?_ | with_reducible refine cr_tupX ?_ | with_reducible refine cr_sumS ?_ | with_reducible refine cr_sumLi ?_ | with_reducible refine cr_sumTi ?_ | with_reducible refine cr_allB ?_ | with_reducible refine cr_anyB ?_ | with_reducible refine cr_absI ?_ | with_reducible refine cr_int_i ?_ | with_reducible refine cr_int_b ?_ | with_reducible refine CRO.cr (cr_listL ?_) | with_reducible refine CRO.cr (cr_listT ?_) | with_reducible refine CRO.cr (cr_listS ?_) | with_reducible refine cr_tupLi ?_ | with_reducible refine cr_tupS ?_ | with_reducible refine cr_tupL ?_ | with_reducible refine cr_tupT ?_)))
local macro_rules | `(tactic| walk_at "d1") => `(tactic| ((with_reducible show WB ..); (first | ((with_reducible show WB _ (tVar _) _ _); first | refine wb_own rfl ?_ | refine wb_ownK rfl ?_ | refine wb_ownT rfl ?_ | refine wb_lkT rfl (by assumption) ?_ | refine wb_wl rfl ?_) | with_reducible refine WE.wb ?_)))
local macro_rules | `(tactic| walk_at "d1") => `(tactic| ((with_reducible show WGs ..); (first | with_reducible refine wgs_cons ?_ | with_reducible refine wgs_nil ?_ | with_reducible refine wgs_consM ?_ | with_reducible refine wgs_nilM ?_); walk_at "ds"))
local macro_rules | `(tactic| walk_at "d1") => `(tactic| ((with_reducible show WT ..); (first | with_reducible refine wt_test ?_ | with_reducible refine wt_B ?_ | with_reducible refine wt_not ?_ | with_reducible refine wt_and ?_ | with_reducible refine wt_or ?_ | with_reducible refine wt_yes ?_)))
local macro_rules | `(tactic| walk_at "d1") => `(tactic| ((with_reducible show OP ..); (first | with_reducible refine op_addSI ?_ | with_reducible refine op_I0i ?_ | with_reducible refine op_I0b ?_ | with_reducible refine op_eqII ?_ | with_reducible refine op_neII ?_ | with_reducible refine op_eqBB ?_ | with_reducible refine op_neBB ?_ | with_reducible refine op_eqSS ?_ | with_reducible refine op_neSS ?_ | with_reducible refine op_isNn ?_ | with_reducible refine op_notNn ?_ | with_reducible refine op_ip ?_ | ((with_reducible show OP _ (rIx _) (D.tup _) (D.int _) _); refine op_ixT (by rfl) ?_) | ((with_reducible show OP _ (rIx _) (D.lst _) (D.int _) _); refine op_ixL (by rfl) ?_))))
local macro_rules | `(tactic| walk_at "d1") => `(tactic| ((with_reducible show WG ..); (first | with_reducible refine wg_name (by first | trivial | decide) ?_ | with_reducible refine wg_tup rfl ?_ | with_reducible refine wg_stn rfl ?_ | with_reducible refine wg_lst rfl ?_); walk_at "ds"))
local macro_rules | `(tactic| walk_at "d1") => `(tactic| ((with_reducible show WA ..); (first | with_reducible refine wa_cons ?_ | with_reducible refine wa_nil ?_)))
local macro_rules | `(tactic| walk_at "d1") => `(tactic| ((with_reducible show WS ..); (first | with_reducible refine ws_seq ?_ | with_reducible refine ws_next ?_ | with_reducible refine ws_ret ?_ | with_reducible refine ws_retN ?_ | with_reducible refine ws_if ?_ | ((with_reducible show WS _ (tDrop (tBM _ "list" _ (tVar _) _)) _ _ _ _ _); refine ws_mt rfl ?_) | ((with_reducible show WS _ (tDrop (tBM0 _ "list" _ (tVar _))) _ _ _ _ _); refine ws_mt0 rfl ?_) | ((with_reducible show WS _ (tAsg (tBM _ "list" _ (tVar _) _) (gName _)) _ _ _ _ _); refine ws_mtS rfl ?_) | ((with_reducible show WS _ (tAsg (tBM0 _ "list" _ (tVar _)) (gName _)) _ _ _ _ _); refine ws_mt0S rfl ?_) | ((with_reducible show WS _ (tAsgO (tDisp _) _) _ _ _ _ _); refine ws_setOwnK ?_) | ((with_reducible show WS _ (tAsgO tDNewK _) _ _ _ _ _); refine ws_setOwnK ?_) | ((with_reducible show WS _ (tAsgO (tDc _ _ _ _ _ _) _) _ _ _ _ _); refine ws_setOwnK ?_) | ((with_reducible show WS _ (tAsgO tDNewT _) _ _ _ _ _); refine ws_setOwnT ?_) | ((with_reducible show WS _ (tAsgO (tDispT1 _ _) _) _ _ _ _ _); refine ws_setOwnT ?_) | with_reducible refine ws_setOwn ?_ | ((with_reducible show WS _ (tAsg _ (gSub (tVar _) _ rSetL)) _ _ _ _ _); first | refine ws_setItem rfl ?_ | refine ws_setWl rfl ?_) | ((with_reducible show WS _ (tAugS (tVar _) _ _ _ _ _) _ _ _ _ _); refine ws_augItem rfl ?_) | ((with_reducible show WS _ (sDPut (tVar _) _ _) _ _ _ _ _); first | refine ws_dput rfl ?_ | refine ws_dputT rfl ?_) | ((with_reducible show WS _ (tDrop (tBM _ "dict" rUpd (tVar _) _)) _ _ _ _ _); refine ws_upd rfl ?_) | ((with_reducible show WS _ (tAsg (tCall (spDS _ _ _) _ _ _) (gName _)) _ _ _ _ _); refine ws_asgS ?_) | with_reducible refine ws_asg ?_ | with_reducible refine ws_drop ?_ | ((with_reducible show WS _ (tAug _ _ _) _ _ _ _ _); refine ws_aug rfl ?_) | with_reducible refine ws_par ?_ | with_reducible refine ws_break ?_ | with_reducible refine ws_cont ?_); walk_at "ds"))
local macro_rules | `(tactic| walk_at "d1") => `(tactic| ((with_reducible show WE ..); (first | ((with_reducible show WE _ (tVar _) _ _); refine we_var rfl ?_) | with_reducible refine we_op ?_ | with_reducible refine we_call ?_ | with_reducible refine we_int ?_ | with_reducible refine we_str ?_ | with_reducible refine we_bl ?_ | with_reducible refine we_non ?_ | with_reducible refine we_isi ?_ | with_reducible refine we_notV ?_ | with_reducible refine we_andV ?_ | with_reducible refine we_orV ?_ | with_reducible refine we_if ?_ | with_reducible refine we_chain ?_ | with_reducible refine we_un ?_ | with_reducible refine we_meth (by decide) ?_ | with_reducible refine we_tupK2 ?_ | with_reducible refine we_tup ?_ | with_reducible refine WO.we (wo_lst ?_) | with_reducible refine we_cb ?_ | ((with_reducible show WE _ (tFld _ _ "hard") _ _); refine we_hard (by assumption) ?_) | ((with_reducible show WE _ (tFld _ _ "heavy") _ _); refine we_heavy (by assumption) ?_) | ((with_reducible show WE _ (tFld _ _ "places") _ _); refine we_places (by assumption) ?_) | ((with_reducible show WE _ (tFld _ _ "told") _ _); refine we_told (by assumption) ?_) | ((with_reducible show WE _ (tFld _ _ "meets") _ _); refine we_meets (by assumption) ?_) | with_reducible refine we_din ?_ | with_reducible refine we_dnotin ?_ | ((with_reducible show WE _ (tDGet (tVar _) _) _ _); refine we_dgetL (by assumption) rfl ?_) | with_reducible refine we_dget ?_ | with_reducible refine we_idx ?_ | with_reducible refine WO.we (wo_rev ?_))))
local macro_rules | `(tactic| walk_at "dz") => `(tactic| skip)
local macro_rules | `(tactic| walk_at "dz") => `(tactic| (dsimp only [List.set, wipeR, snd_cons, snd_nil]; repeat walk_at "d1"))
local macro_rules | `(tactic| walk_at "dw") => `(tactic| (walk_at "ds"; (repeat walk_at "d1"); walk_at "dz"))
local macro_rules | `(tactic| walk_at "c1") => `(tactic| (first | ((with_reducible show Wl _ _ → _); intro _) | ((with_reducible show ∀ _ : HO, Wl _ _ → _); intro _ _)))
local macro_rules | `(tactic| walk_at "c1") => `(tactic| ((with_reducible show CI ..); (with_reducible refine c_rng1 ?_)))
local macro_rules | `(tactic| walk_at "c1") => `(tactic| ((with_reducible show CT ..); (with_reducible refine c_test ?_)))
local macro_rules | `(tactic| walk_at "c1") => `(tactic| ((with_reducible show CA ..); (first | with_reducible refine ca_cons ?_ | with_reducible refine ca_nil rfl (by assumption) ?_)))
local macro_rules | `(tactic| walk_at "c1") => `(tactic| ((with_reducible show CE ..); (first | with_reducible refine c_call rfl ?_ | with_reducible refine c_op ?_ | ((with_reducible show CE _ _ _ (tVar _) _ _); refine CE.of rfl (by assumption) ?_) | ((with_reducible show CE _ _ _ (tC _) _ _); refine CE.of rfl (by assumption) ?_) | with_reducible refine c_lst ?_ | with_reducible refine c_tup ?_)))
local macro_rules | `(tactic| walk_at "cd") => `(tactic| (walk_at "d1"))
local macro_rules | `(tactic| walk_at "cd") => `(tactic| (walk_at "c1"; walk_at "ds"))
local macro_rules | `(tactic| walk_at "cz") => `(tactic| skip)
local macro_rules | `(tactic| walk_at "cz") => `(tactic| (dsimp only [List.set, wipeR, snd_cons, snd_nil]; repeat walk_at "cd"))
local macro_rules | `(tactic| walk_at "cw") => `(tactic| (walk_at "ds"; (repeat walk_at "cd"); walk_at "cz"))

/-! ## Bench(..) tried -/
theorem bb_ValueError : bootBuiltins "ValueError" = some (.type "ValueError") := by decide +kernel
structure GpX (mg : Str → Option Value) (x : Str) (C : Addr) : Prop where
  gP : mg x = some (.ref C)
structure SdX (K : PySem.W.Frag) (mg : Str → Option Value) (CG CN C1 C2 : Addr) : Prop where
  gP : mg "GrindError" = some (.ref CG)
  e1 : PySem.W.exmOne K (.ref CN) (.ref CG) = some true
  xk : ExcK K CN
  k1 : PySem.W.kitOne K (.ref CN) (.ref CN) = some true
  k2 : PySem.W.kitOne K (.ref CN) (.type "ValueError") = some true
  k3 : PySem.W.kitAny K (.ref CN) [.ref C1, .ref C2] = some false
section
variable {M : Cm} {ρ : Rho} {k : D → Prop} {nx bk ct : Rho → Prop} {rt : Sl → Rho → Prop} {tr : TA} {te ta : TE} {i : Nat}
theorem we_makeX {CN : Addr} {W : WX} {kx : Xc → Rho → Prop} (hW : WOk M W kx) (h : WA M tr ρ fun ds => cInitX CN ds (fun B => k (.bench B)) (fun x => kx x ρ)) : G.WE M (tMakeX M.C (spInitX M.K M.C CN) (L2.WE W) tr) ρ k := fun σ F H Q e f => h σ F H _ e fun vs ds F1 H1 x1 r1 hc => fun x dx nx ndx nex =>
  ⟨M.st, x, dx, H1, F1, vs, ds, _, _, rfl, rfl, nx, ndx, nex, x1.gd, r1, hc, fun B F' H' e' hb kb => ⟨rfl, f _ _ F' H' (x1.trans e') (.bench hb) kb⟩, fun cls d y F' H' e' r q => hW ρ σ F' H' cls d y ((e.step x1).step e') r q⟩
theorem exc_at {F1 H1 : Hp} {v : V} {a : Addr} {d : Option Addr} {ns : List Str} {l : List D} (g : Gd M.K M.st F1 H1) (r1 : R M.K M.C M.st F1 v (.exc a d ns l)) : v = .ref a ∧ (d = none ∨ ∃ dd fs, d = some dd ∧ H1 dd = some (.xd fs)) := by
  cases r1 with
  | exc0 => exact ⟨rfl, .inl rfl⟩
  | exc h1 h2 h3 => exact ⟨rfl, .inr ⟨_, _, rfl, g.sub _ _ h1⟩⟩
/-- isinstance(e, T), T a class of Python's own -/
theorem we_isXT {a D0 : Addr} {T : String} {d : Option Addr} {cls : Value} {b : Bool} (hc : cls = .ref D0) (xk : ExcK M.K D0) (hk : PySem.W.kitOne M.K (.ref D0) (.type T) = some b) (h : G.WE M te ρ fun y => ∃ ns l, y = .exc a d ns l ∧ k (.bl b)) :
    G.WE M (tCB (rIsX M.K cls d a) (tCons te (tCons (tC (.ty T)) tNil))) ρ k := fun σ F H Q e g => h σ F H _ e fun v y F1 H1 x1 r1 ⟨ns, l, z, q⟩ => by
  subst z
  obtain ⟨rfl, hd⟩ := exc_at x1.gd r1
  exact ⟨D0, hc, xk, hd, .inl ⟨_, _, b, rfl, .ty _, hk, g _ _ F1 H1 x1 (.bl b) q⟩⟩
/-- isinstance(e, (C1, C2)) -/
theorem we_isX2 {a C1 C2 D0 : Addr} {d : Option Addr} {cls : Value} {b : Bool} (hc : cls = .ref D0) (xk : ExcK M.K D0) (hk : PySem.W.kitAny M.K (.ref D0) [.ref C1, .ref C2] = some b) (h : G.WE M te ρ fun y => ∃ ns l, y = .exc a d ns l ∧ k (.bl b)) :
    G.WE M (tCB (rIsX M.K cls d a) (tCons te (tCons (tTup (tCons (tC (.ref C1)) (tCons (tC (.ref C2)) tNil))) tNil))) ρ k := fun σ F H Q e g => h σ F H _ e fun v y F1 H1 x1 r1 ⟨ns, l, z, q⟩ => by
  subst z
  obtain ⟨rfl, hd⟩ := exc_at x1.gd r1
  refine ⟨by show 2 ≤ sizeLine; decide, fun p np => ?_⟩
  have x2 : XM M F1 H1 F1 (upd H1 p (.tup [.ref C1, .ref C2])) := (XE.refl x1.gd).mut np
  have hd2 : d = none ∨ ∃ dd fs, d = some dd ∧ upd H1 p (.tup [.ref C1, .ref C2]) dd = some (.xd fs) := by
    rcases hd with h | ⟨dd, fs, h1, h2⟩
    · exact .inl h
    · refine .inr ⟨dd, fs, h1, ?_⟩
      rw [upd_ne (fun z => by rw [z, np] at h2; cases h2)]
      exact h2
  exact ⟨D0, hc, xk, hd2, .inr ⟨p, _, _, b, rfl, upd_same, .cons (.own _) (.cons (.own _) .nil), hk, g _ _ F1 _ (x1.trans x2) (.bl b) q⟩⟩
end
section
variable {P : Program} {w : World} {K : PySem.W.Frag} {mg : Str → Option Value} {base : Heap} {C : Addr}
def cSaidB : Ct := fun ds k => ∃ h p g, ds = [.lst [h, p, g]] ∧ Ki h ∧ Kd p ∧ Kgs g ∧ ((∃ B, BOk B ∧ goodB B h p g ∧ whyB h p g = none ∧ k .non) ∨ ∃ e, whyB h p g = some e ∧ k (.tup [.str e.1, e.2]))
abbrev s__law_said : Stmt := topS 25
abbrev n__law_said : List Str := ["_law_parts_in", "e", "_law_found"]
theorem sc__law_said : FnScope ["_law_parts_in", "e", "_law_found"] ["_law_parts_in"] (defScope s__law_said) := ⟨rfl, rfl, rfl, by decide +kernel, rfl, by decide +kernel, by decide +kernel⟩
theorem ok_saidB {C_GrindError C_NoBench C_NoGrinding C_NoStand : Addr} (B0 : Blt mg) (b_VE : mg "ValueError" = none) (X_GrindError : SdX K mg C_GrindError C_NoBench C_NoGrinding C_NoStand) (X_NoBench : NbX K mg C_NoBench) (X_NoGrinding : GpX mg "NoGrinding" C_NoGrinding) (X_NoStand : GpX mg "NoStand" C_NoStand)
    (cx_Bench : DefCX P w K mg base 5 C "Bench" ["self", "hardness", "places", "grindings"] (spInitX K C C_NoBench)) (F : FunAt K mg "_law_said" s__law_said ["_law_parts_in"]) : Def P w K mg base 7 "_law_said" ["_law_parts_in"] (spD K C cSaidB) := by
  refine F.defD (n := 6) sc__law_said (fun ds k h => by obtain ⟨_, _, _, rfl, _⟩ := h; rfl) fun f cdv A outer s H E sa F ds k hr h => ?_
  obtain ⟨h, p, g, rfl, kh, kp, kg, hc⟩ := h
  have B := B0
  refine ⟨_, (pss_cons (ps_tryA (i := 1) rfl rfl sc__law_said.nd rfl rfl ⟨rfl, by decide, .inl X_GrindError.gP⟩ takes0 (fun W pn xe tk po => (pss_one (ps_expr (pe_mkX cx_Bench (hr.mono (by decide)) (by rfl) tk (pa_cons (pe_ix (k_ix (K := K) rfl) (pv 0) pe_int (fun _ _ => rfl)) (pa_cons (pe_ix (k_ix (K := K) rfl) (pv 0) pe_int (fun _ _ => rfl)) (pa_cons (pe_ix (k_ix (K := K) rfl) (pv 0) pe_int (fun _ _ => rfl)) pa_nil))))))) (fun a oe cls d pn hz hf => (pss_cons (ps_set (i := 2) sc__law_said.nd rfl (Or.inl rfl) (pe_tup (pa_cons pe_str (pa_cons pe_non pa_nil)))) (pss_cons (ps_if (PW.pt (pw_and (pt_val (pe_callB (k_isX (K := K) rfl hz hf) (by rfl) B.isinstance bb_isinstance (pa_cons (pv 1) (pa_cons (pe_glob (v := .ref C_NoBench) (by rfl) X_NoBench.gP rfl) pa_nil)))) (pw_and (pt_val (pe_callB (k_isX (K := K) rfl hz hf) (by rfl) B.isinstance bb_isinstance (pa_cons (pv 1) (pa_cons (pe_bltn (v := .ty "ValueError") (by rfl) b_VE bb_ValueError rfl) pa_nil)))) (pw_and1 (pt_not (pt_val (pe_callB (k_isX (K := K) rfl hz hf) (by rfl) B.isinstance bb_isinstance (pa_cons (pv 1) (pa_cons (pe_tup (pa_cons (pe_glob (v := .ref C_NoGrinding) (by rfl) X_NoGrinding.gP rfl) (pa_cons (pe_glob (v := .ref C_NoStand) (by rfl) X_NoStand.gP rfl) pa_nil))) pa_nil))))))))) (pss_one (ps_set (i := 2) sc__law_said.nd rfl (Or.inl rfl) (pe_tup (pa_cons (pe_xf X_NoBench.xf (by first | exact X_NoBench.nw | exact X_NoBench.na) hz hf (pv 1)) (pa_cons (pe_xf X_NoBench.xf (by first | exact X_NoBench.nw | exact X_NoBench.na) hz hf (pv 1)) pa_nil))))) pss_nil) (pss_one (ps_ret (pv 2))))))) (pss_one (ps_ret pe_non))), ?_⟩; refine start_eqR (ρ' := [some (.d (.lst [h, p, g])), none, none]) rfl ?_
  walk_at "dw"
  refine ws_tryB (fun y ρ' => ∃ e, whyB h p g = some e ∧ y = ⟨C_NoBench, ["at", "what"], [e.2, .str e.1]⟩ ∧ ρ' = [some (.d (.lst [h, p, g])), none, none]) (by rfl) (fun F1 H1 W hW => ?_) (fun F1 H1 y ρ' hy => ?_)
  · refine ws_drop (WE.wb (we_makeX hW ?_))
    walk_at "dw"
    refine ⟨h, p, g, rfl, kh, kp, kg, ?_⟩
    rcases hc with ⟨B1, ok, gg, wy, q⟩ | ⟨e, he, q⟩
    · refine .inl ⟨B1, ok, gg, wy, ?_⟩
      walk_at "dw"
      exact q
    · exact .inr ⟨e, he, e, he, rfl, rfl⟩
  · obtain ⟨e, he, rfl, rfl⟩ := hy
    have q : k (.tup [.str e.1, e.2]) := by
      rcases hc with ⟨_, _, _, wy, _⟩ | ⟨e', h1, h2⟩
      · rw [wy] at he
        cases he
      · rw [h1] at he
        cases he
        exact h2
    refine ⟨X_GrindError.e1, fun a d => ?_⟩
    refine ws_seq (ws_asg (we_tup (wa_cons (we_str (wa_cons (we_non (wa_nil ?_)))))))
    refine ⟨by show 2 ≤ 1000; decide, ?_⟩
    refine wg_name trivial ?_
    refine ws_seq (ws_if (wt_and (wt_B (WE.wb (we_isX rfl X_GrindError.xk X_GrindError.k1 ?_)))))
    refine we_var rfl ?_
    refine ⟨_, _, rfl, true, rfl, iteT ?_⟩
    refine wt_and (wt_B (WE.wb (we_isXT rfl X_GrindError.xk X_GrindError.k2 ?_)))
    refine we_var rfl ?_
    refine ⟨_, _, rfl, true, rfl, iteT ?_⟩
    refine wt_not (wt_B (WE.wb (we_isX2 rfl X_GrindError.xk X_GrindError.k3 ?_)))
    refine we_var rfl ?_
    refine ⟨_, _, rfl, false, rfl, ?_⟩
    refine iteT ?_
    refine ws_asg (we_tup (wa_cons (we_xf rfl ?_)))
    refine we_var rfl ?_
    refine ⟨_, _, _, rfl, rfl, ?_⟩
    refine wa_cons (we_xf rfl ?_)
    refine we_var rfl ?_
    refine ⟨_, _, _, rfl, rfl, wa_nil ?_⟩
    refine ⟨by show 2 ≤ 1000; decide, ?_⟩
    refine wg_name trivial ?_
    walk_at "dw"
    exact q
end
end G.Q

namespace G
open PySem PySem.Spec PyProof.Rows L2
local macro_rules | `(tactic| walk_at "lk") => `(tactic| first | assumption | exact rT_at | exact rL_at | exact upd_same | (refine sqT_mono ?_ (by assumption); assumption) | (refine sqL_mono ?_ (by assumption); assumption) | (refine rT_new (by assumption) ?_; walk_at "lk") | (refine rL_new (by assumption) ?_; walk_at "lk") | (refine rH_new (by assumption) ?_; walk_at "lk") | (refine rD_new (by assumption) ?_; walk_at "lk") | (refine dp_mono ?_ (by assumption); assumption))
local macro_rules | `(tactic| walk_at "r1") => `(tactic| first | ((with_reducible show tVar _ _ _ _); refine s_var rfl ?_) | with_reducible refine s_c ?_ | with_reducible refine s_op ?_ | with_reducible refine s_un ?_ | with_reducible refine s_neg ?_ | with_reducible refine s_test ?_ | with_reducible refine s_B ?_ | with_reducible refine s_bl ?_ | with_reducible refine s_not ?_ | with_reducible refine s_yes ?_ | with_reducible refine s_and ?_ | with_reducible refine s_or ?_ | with_reducible refine s_notV ?_ | with_reducible refine s_andV ?_ | with_reducible refine s_orV ?_ | with_reducible refine s_if ?_ | with_reducible refine s_cT ?_ | with_reducible refine s_cF ?_ | with_reducible refine s_nT ?_ | with_reducible refine s_nF ?_ | with_reducible refine s_addI ?_ | with_reducible refine s_eqI ?_ | with_reducible refine s_neI ?_ | with_reducible refine s_eqB ?_ | with_reducible refine s_neB ?_ | with_reducible refine s_I0 ?_ | with_reducible refine s_non ?_ | with_reducible refine s_int ?_ | with_reducible refine s_chain ?_ | with_reducible refine s_cons ?_ | with_reducible refine s_nil ?_ | with_reducible refine s_call ?_ | with_reducible refine s_cb ?_ | with_reducible refine s_meth ?_ | with_reducible refine s_make ?_ | with_reducible refine s_tup ?_ | with_reducible refine s_lst ?_ | with_reducible refine s_bm ?_ | with_reducible refine s_bm0 ?_ | with_reducible refine s_bmT ?_ | with_reducible refine s_fld ?_ | with_reducible refine s_dget ?_ | with_reducible refine s_sl ?_ | with_reducible refine s_part ?_ | with_reducible refine s_nopart ?_ | with_reducible refine s_seq ?_ | with_reducible refine s_next ?_ | with_reducible refine s_asg ?_ | with_reducible refine s_gn ?_ | with_reducible refine s_gc ?_ | with_reducible refine s_g0 ?_ | with_reducible refine s_gs ?_ | with_reducible refine s_ret ?_ | with_reducible refine s_ifS ?_ | with_reducible refine s_drop ?_ | with_reducible refine s_augS ?_ | ((with_reducible show tAug _ _ _ _ _ _); refine s_aug rfl ?_) | with_reducible refine s_ipI ?_ | with_reducible refine s_for ?_ | with_reducible refine s_iseq ?_ | with_reducible refine s_rng1 ?_ | with_reducible refine s_izip ?_ | with_reducible refine s_lc ?_ | with_reducible refine s_lc2 ?_ | with_reducible refine s_lstRg ?_ | with_reducible refine s_rg1 ?_ | with_reducible refine s_sfld ?_ | with_reducible refine s_ienum ?_ | with_reducible refine s_disp ?_ | with_reducible refine s_pc ?_ | with_reducible refine s_pn ?_)
local macro_rules | `(tactic| walk_at "rd") => `(tactic| repeat walk_at "r1")

section
variable {P : Program} {w : World} {K : PySem.W.Frag} {mg : Str → Option Value} {base : Heap} {C : Addr}
abbrev s__law_digit : Stmt := topS 20
abbrev n__law_digit : List Str := ["_law_state", "_law_base", "_law_found", "_law_mixed"]
theorem sc__law_digit : FnScope ["_law_state", "_law_base", "_law_found", "_law_mixed"] ["_law_state", "_law_base"] (defScope s__law_digit) := ⟨rfl, rfl, rfl, by decide +kernel, rfl, by decide +kernel, by decide +kernel⟩
def spDigit (K : PySem.W.Frag) : Sp := fun vs H Q _ => ∃ st s, ∃ b : Int, vs = [.ref st, .int b] ∧ H st = some (.lst s) ∧ StOk s ∧ (∀ n, CDivW n b) ∧
  ∀ d s' H', 0 ≤ d → d < b → StOk s' → (∀ a o, a ≠ st → H a = some o → H' a = some o) → H' st = some (.lst s') → Q (.int d) H'
theorem ok_digit (B : Blt mg) (F : FunAt K mg "_law_digit" s__law_digit ["_law_state", "_law_base"]) : Def P w K mg base 1 "_law_digit" ["_law_state", "_law_base"] (spDigit K) := by
  refine F.def (k := 0) sc__law_digit (fun vs H Q E h => ?_) (fun f cdv A outer s H vs Q E hr h => ?_)
  · obtain ⟨st, s, b, rfl, _⟩ := h
    rfl
  · obtain ⟨st, s, b, rfl, hst, ok, hb, q⟩ := h
    have b0 : 0 < b := (hb 0).1
    refine ⟨_, (pss_cons (ps_if (pt_cmpR (k_eq (K := K) rfl hr.units) (pe_callB (k_len (K := K) rfl) (by rfl) B.len bb_len (pa_cons (pv 0) pa_nil)) pe_int (nomark _)) (pss_one (ps_expr (k_bm (K := K) rfl PySem.F.plainAttrs_list PySem.F.slot_list_extend PySem.F.type_list_extend mt_extend (pv 0) (pa_cons (pe_lst (pa_cons (pe_op op_mod (pe_ix (k_ix (K := K) rfl) (pv 0) pe_int (fun _ _ => rfl)) pe_int) (pa_cons pe_int pa_nil))) pa_nil)))) pss_nil) (pss_cons (ps_if (pt_cmpR op_ge (pe_ix (k_ix (K := K) rfl) (pv 0) pe_int (fun _ _ => rfl)) (pv 1) (nomark _)) (pss_cons (ps_set (i := 2) sc__law_digit.nd rfl (Or.inl rfl) (pe_op op_mod (pe_ix (k_ix (K := K) rfl) (pv 0) pe_int (fun _ _ => rfl)) (pv 1))) (pss_cons (ps_asg (pe_op op_fdivW (pe_ix (k_ix (K := K) rfl) (pv 0) pe_int (fun _ _ => rfl)) (pv 1)) (pg_sub (pv 0) pe_int set_list)) (pss_one (ps_ret (pv 2))))) pss_nil) (pss_cons (ps_asg (pe_op (k_add (K := K) rfl) (pe_ix (k_ix (K := K) rfl) (pv 0) pe_int (fun _ _ => rfl)) pe_int) (pg_sub (pv 0) pe_int set_list)) (pss_cons (ps_set (i := 3) sc__law_digit.nd rfl (Or.inl rfl) (pe_op op_mod (pe_op opMulU (pe_op (k_add (K := K) rfl) (pe_ix (k_ix (K := K) rfl) (pv 0) pe_int (fun _ _ => rfl)) (pe_op opMulU pe_int (pe_ix (k_ix (K := K) rfl) (pv 0) pe_int (fun _ _ => rfl)))) pe_int) pe_int)) (pss_one (ps_ret (pe_op op_mod (pe_op op_fdivW (pe_op op_mod (pe_op opMulU (pe_op (k_add (K := K) rfl) (pv 3) (pe_op op_fdivW (pv 3) pe_int)) (pe_op (k_add (K := K) rfl) (pe_op op_fdivW (pv 3) pe_int) pe_int)) pe_int) pe_int) (pv 1)))))))), ?_⟩; refine start_eq (σ' := [some (.ref st), some (.int b), none, none]) rfl ?_
    refine s_cut (fun σ H2 => ∃ n m c : Int, σ = [some (.ref st), some (.int b), none, none] ∧ (∀ a o, a ≠ st → H a = some o → H2 a = some o) ∧ H2 st = some (.lst [.int n, .int m, .int c])) (fun U hU => ?_) ?_
    · rcases ok with ⟨n, rfl⟩ | ⟨n, m, c, rfl⟩
      · walk_at "rd"
        refine s_lenL (.inl (.inl hst)) ?_
        walk_at "rd"
        refine s_dT rfl ?_
        walk_at "rd"
        refine ⟨tyV_lst hst, ?_⟩
        walk_at "rd"
        refine s_ixL (.inl (.inl hst)) rfl ?_
        walk_at "rd"
        refine s_I (show (0 : Int) < 2147483647 by decide) ?_
        walk_at "rd"
        refine ⟨by show 2 ≤ sizeLine; decide, fun p np => ?_⟩
        walk_at "rd"
        refine s_extd (rH_new np hst) upd_same (by show 3 ≤ 100000; decide) ?_
        walk_at "rd"
        refine hU _ _ ⟨n, _, _, rfl, fun a o ha h => ?_, upd_same⟩
        rw [upd_ne ha]
        exact rH_new np h
      · walk_at "rd"
        refine s_lenL (.inl (.inl hst)) ?_
        walk_at "rd"
        refine s_dF (by simp) ?_
        walk_at "rd"
        exact hU _ _ ⟨n, m, c, rfl, fun a o _ h => h, hst⟩
    · rintro σ H2 ⟨n, m, c, rfl, keep, hst⟩
      walk_at "rd"
      refine s_ixL (.inl (.inl hst)) rfl ?_
      walk_at "rd"
      refine s_d2 (fun e => ?_) (fun e => ?_)
      · walk_at "rd"
        refine s_ixL (.inl (.inl hst)) rfl ?_
        walk_at "rd"
        refine s_I b0 ?_
        walk_at "rd"
        refine s_ixL (.inl (.inl hst)) rfl ?_
        walk_at "rd"
        refine s_I (hb n) ?_
        walk_at "rd"
        refine s_setL hst rfl ?_
        walk_at "rd"
        refine q _ [.int (n / b), .int m, .int c] _ (Int.emod_nonneg _ (by omega)) (Int.emod_lt_of_pos _ b0) (.inr ⟨_, _, _, rfl⟩) (fun a o ha h => ?_) upd_same
        rw [upd_ne ha]
        exact keep a o ha h
      · walk_at "rd"
        refine s_ixL (.inl (.inl hst)) rfl ?_
        walk_at "rd"
        refine s_setL hst rfl ?_
        walk_at "rd"
        refine s_ixL rL_at rfl ?_
        walk_at "rd"
        refine s_ixL rL_at rfl ?_
        walk_at "rd"
        refine s_mulI (.inl ⟨by decide, by decide⟩) ?_
        walk_at "rd"
        refine s_mulI (.inr ⟨by decide, by decide⟩) ?_
        walk_at "rd"
        refine s_I (show (0 : Int) < 2147483647 by decide) ?_
        generalize hm : (m + 7919 * (c + 1)) * 48271 % 2147483647 = mx
        have m0 : 0 ≤ mx := by rw [← hm]; exact Int.emod_nonneg _ (by decide)
        have m1 : mx < 2147483647 := by rw [← hm]; exact Int.emod_lt_of_pos _ (by decide)
        walk_at "rd"
        refine s_I (div_small (by decide) (by decide)) ?_
        walk_at "rd"
        refine s_I (div_small (by decide) (by decide)) ?_
        walk_at "rd"
        refine s_mulI (.inl ⟨by omega, by omega⟩) ?_
        walk_at "rd"
        refine s_I (show (0 : Int) < 2147483629 by decide) ?_
        walk_at "rd"
        refine s_I (div_small (by decide) (by decide)) ?_
        walk_at "rd"
        refine s_I b0 ?_
        refine q _ [.int n, .int m, .int (c + 1)] _ (Int.emod_nonneg _ (by omega)) (Int.emod_lt_of_pos _ b0) (.inr ⟨_, _, _, rfl⟩) (fun a o ha h => ?_) upd_same
        rw [upd_ne ha]
        exact keep a o ha h
/-- a draw, as its callers see it -/
theorem draw {st : Addr} {F0 H0 F H : Hp} {Q : VK} {b : Int} (e : SExt st F0 H0 F H) (hb : ∀ n, CDivW n b) (q : ∀ d H', 0 ≤ d → d < b → SExt st F0 H0 F H' → (∀ a o, a ≠ st → H a = some o → H' a = some o) → Q (.int d) H') : spDigit K [.ref st, .int b] H Q E0 := by
  obtain ⟨s, hs, ok⟩ := e.st
  refine ⟨st, s, b, rfl, hs, ok, hb, fun d s' H' h0 h1 ok' k hs' => q d H' h0 h1 ⟨?_, s', hs', ok'⟩ k⟩
  refine ⟨e.ext.hh.trans fun a o h => ?_, e.ext.ff, fun a o h => ?_, e.ext.fr, e.ext.nt⟩
  · have : a ≠ st := fun z => by rw [z, del_same] at h; cases h
    rw [del_ne this] at h ⊢
    exact k a o this h
  · have h' := e.ext.fh a o h
    have : a ≠ st := fun z => by rw [z, del_same] at h'; cases h'
    rw [del_ne this] at h' ⊢
    exact k a o this h'
theorem small_b {b : Int} (h1 : 0 < b) (h2 : b ≤ 1000000) : ∀ n, CDivW n b := fun n => div_small h1 h2
abbrev s__law_made : Stmt := topS 21
abbrev n__law_made : List Str := ["_law_hard", "_law_places", "_law_told", "_law_meets", "_law_one", "_law_other", "_law_turn", "_law_heavy", "_law_plate", "_law_at"]
theorem sc__law_made : FnScope ["_law_hard", "_law_places", "_law_told", "_law_meets", "_law_one", "_law_other", "_law_turn", "_law_heavy", "_law_plate", "_law_at"] ["_law_hard", "_law_places", "_law_told"] (defScope s__law_made) := ⟨rfl, rfl, rfl, by decide +kernel, rfl, by decide +kernel, by decide +kernel⟩
def spMade (K : PySem.W.Frag) : Sp := fun vs H Q _ => ∃ lh lg B F, vs = [.ref lh, .int (B.places : Int), .ref lg] ∧ Same F H ∧ BOk B ∧ SqL K F lh (B.hard.map V.int) ∧ Dp K F (.ref lg) (.list (B.told.map gD)) ∧ TX K F lg B.told ∧
  ∀ m F' H', Ext F H F' H' → ModelAt K F' m B → Q (.ref m) H'
theorem flat_take (l : List Int) (n : Nat) (i : Nat) (h : i < l.length) : ((l.take (i + 1)).flatMap fun h => List.replicate n h) = ((l.take i).flatMap fun h => List.replicate n h) ++ List.replicate n l[i] := by
  rw [List.take_add_one, List.getElem?_eq_getElem h, List.flatMap_append]
  simp
theorem ok_made (B0 : Blt mg) (F : FunAt K mg "_law_made" s__law_made ["_law_hard", "_law_places", "_law_told"]) : Def P w K mg base 1 "_law_made" ["_law_hard", "_law_places", "_law_told"] (spMade K) := by
  refine F.def (k := 0) sc__law_made (fun vs H Q E h => ?_) (fun f cdv A outer s H vs Q E hr h => ?_)
  · obtain ⟨lh, lg, B, F, rfl, _⟩ := h
    rfl
  · obtain ⟨lh, lg, B1, F, rfl, hF, ok, hh, hg, htx, q⟩ := h
    have B := B0
    obtain ⟨gx, hgx, hga⟩ := dp_list hg
    have glen : gx.length = B1.told.length := by rw [dpAll_len hga, List.length_map]
    have p1 := ok.plates
    have p2 := ok.places
    have p3 := ok.told
    refine ⟨_, (pss_cons (ps_set (i := 3) sc__law_made.nd rfl (Or.inl rfl) (pe_lst pa_nil)) (pss_cons (ps_for PassesOwn.never rfl (k_seq (K := K) rfl (pv 2)) (k_tup (K := K) (n := 3) rfl rfl (pgs_cons (pg_name (i := 4) sc__law_made.nd rfl (Or.inr rfl)) (pgs_cons (pg_name (i := 5) sc__law_made.nd rfl (Or.inr rfl)) (pgs_cons (pg_name (i := 6) sc__law_made.nd rfl (Or.inr rfl)) pgs_nil)))) (pss_one (ps_expr (k_bm (K := K) rfl PySem.F.plainAttrs_list PySem.F.slot_list_append PySem.F.type_list_append mt_append (pv 3) (pa_cons (pe_lc (own := [("_law_at", 9)]) rfl sc__law_made.nd (pi_range1 (by rfl) B.range (pa_cons (pv 1) pa_nil)) (blkOk_by (own := [("_law_at", 9)]) (N := n__law_made) (sc := defScope s__law_made) (by decide +kernel)) (fun _ _ _ _ _ => (pg_name (i := 9) sc__law_made.nd rfl (Or.inl rfl))) (fun _ _ _ _ _ => pts_nil) (fun _ _ _ _ _ => (pe_tup (pa_cons (pe_op (k_add (K := K) rfl) (pe_op opMulU (pv 4) (pv 1)) (pv 9)) (pa_cons (pe_op (k_add (K := K) rfl) (pe_op opMulU (pv 5) (pv 1)) (pe_ix (k_ix (K := K) rfl) (pv 6) (pv 9) (fun _ _ => rfl))) pa_nil))))) pa_nil))))) (pss_cons (ps_set (i := 7) sc__law_made.nd rfl (Or.inl rfl) (pe_lst pa_nil)) (pss_cons (ps_for PassesOwn.never rfl (k_seq (K := K) rfl (pv 0)) (pg_name (i := 8) sc__law_made.nd rfl (Or.inl rfl)) (pss_one (ps_expr (k_bm (K := K) rfl PySem.F.plainAttrs_list PySem.F.slot_list_extend PySem.F.type_list_extend mt_extend (pv 7) (pa_cons (pe_op opMulU (pe_lst (pa_cons (pv 8) pa_nil)) (pv 1)) pa_nil))))) (pss_one (ps_ret (pe_disp (pps_cons pe_str (pv 0) (pps_cons pe_str (pv 1) (pps_cons pe_str (pv 2) (pps_cons pe_str (pv 7) (pps_cons pe_str (pv 3) pps_nil))))) (by rfl) (by rfl) (fun z => by cases z) (by decide)))))))), ?_⟩; refine start_eq (σ' := [some (.ref lh), some (.int (B1.places : Int)), some (.ref lg), none, none, none, none, none, none, none]) rfl ?_
    walk_at "rd"
    refine ⟨Nat.zero_le _, fun lm nm => ?_⟩
    have e1 : Ext F H F (upd H lm (.lst [])) := (Ext.refl hF).mut nm
    have hm1 : (upd H lm (.lst [])) lm = some (.lst []) := upd_same
    generalize upd H lm (.lst []) = H1 at *
    walk_at "rd"
    refine .inl ⟨lg, rfl, ⟨_, sqL_mono e1.fh hgx⟩, ?_⟩
    refine for_w (walk_list (xs := gx)) (fun i σ H2 => ∃ y4 y5 y6 F2 acc, σ = [some (.ref lh), some (.int (B1.places : Int)), some (.ref lg), some (.ref lm), y4, y5, y6, none, none, none] ∧ Ext F H F2 H2 ∧ F2 lm = none ∧ H2 lm = some (.lst acc) ∧ acc.length = i ∧
      ∀ (j : Nat) v, acc[j]? = some v → ∃ g, B1.told[j]? = some g ∧ Dp K F2 v (.list ((pairsOf B1.places g).map pD))) ?_ ?_ ?_ ?_
    · exact ⟨none, none, none, F, [], rfl, e1, sub_none hF nm, hm1, rfl, fun j v h => by simp at h⟩
    · rintro i σ H2 _ ⟨_, _, _, F2, acc, _, e, _⟩
      exact sqL_mono (e.ff.trans e.fh) hgx
    · rintro i v σ H2 H3 hi ⟨y4, y5, y6, F2, acc, rfl, e, fm, hm, hl, hr⟩ ⟨rfl, hv⟩
      have hti : B1.told[i]? = some (B1.told[i]'(by omega)) := List.getElem?_eq_getElem (by omega)
      obtain ⟨v', hv', dv⟩ := dpAll_get (i := i) hga (by rw [List.getElem?_map, hti]; rfl)
      rw [hv] at hv'
      cases hv'
      have ein := ok.each _ (List.mem_of_getElem? hti)
      generalize B1.told[i]'(by omega) = g at *
      obtain ⟨a, c, rfl, ha, hc⟩ := gD_at dv
      rw [natV] at hc
      have s0 := e.ff.trans e.fh
      have tl : g.2.2.length = B1.places := by rw [ein.2.2.2.length_eq, List.length_range]
      refine s_gt (sqT_mono s0 ha) rfl ?_
      walk_at "rd"
      refine ⟨tyV_lst hm, ?_⟩
      walk_at "rd"
      refine ⟨_, rfl, by omega, by omega, ?_⟩
      refine lc_map walk_range e.fh (by omega) (fun _ _ => trivial) (fun i F' v => Dp K F' v (pD (g.1 * B1.places + i, g.2.1 * B1.places + g.2.2.getD i 0))) (fun _ _ _ _ e h => dp_mono e h) (fun i x F' Ha Hb D Z hi ex fd _ hy hz => ?_) (fun D ys F' H' hD ex hd hlen hR => ?_)
      · obtain ⟨rfl, rfl⟩ := hy
        have hi' : i < B1.places := by omega
        walk_at "rd"
        refine ⟨rfl, ?_⟩
        walk_at "rd"
        refine s_mulI (.inl ⟨by omega, by omega⟩) ?_
        walk_at "rd"
        refine s_mulI (.inl ⟨by omega, by omega⟩) ?_
        walk_at "rd"
        refine s_ixT (sqT_mono (s0.trans ex.hh) hc) (by rw [Int.zero_add]; exact at_int (by simp; omega)) ?_
        walk_at "rd"
        refine ⟨by show 2 ≤ sizeLine; decide, fun p hp => ?_⟩
        refine hz (.ref p) _ _ ((Ext.refl ex.fh).new hp) ?_
        have e1 : ((g.2.2.map fun (x : Nat) => (x : Int)).getD i 0) = ((g.2.2.getD i 0 : Nat) : Int) := by
          rw [List.getD_eq_getElem?_getD, List.getD_eq_getElem?_getD, List.getElem?_map]
          cases g.2.2[i]? <;> rfl
        rw [e1, Int.zero_add]
        refine dp_tupI (ns := [_, _]) ?_
        simp only [List.map_cons, List.map_nil, Int.natCast_add, Int.natCast_mul]
        exact rT_at
      · have dnew : Dp K F' (.ref D) (.list ((pairsOf B1.places g).map pD)) := by
          refine .lst (.inl (.inl hd)) (dpAll_of ?_ fun i v d h1 h2 => ?_)
          · rw [hlen, List.length_map]
            simp [pairsOf]
          · have hi : i < B1.places := by
              have := (List.getElem?_eq_some_iff.mp h1).1
              omega
            rw [List.getElem?_map] at h2
            simp only [pairsOf, List.getElem?_map, List.getElem?_range hi, Option.map_some] at h2
            cases h2
            exact hR i v h1
        have fm' : F' lm = none := ex.fr lm (by rw [hm]; simp) fm
        walk_at "rd"
        refine s_app (ex.hh _ _ hm) (by omega) ?_
        refine ⟨_, _, _, F', acc ++ [.ref D], rfl, (e.trans ex).chg nm fm', fm', upd_same, by simp [hl], fun j v hv => ?_⟩
        by_cases hj : j < acc.length
        · rw [List.getElem?_append_left hj] at hv
          obtain ⟨g', h1, h2⟩ := hr j v hv
          exact ⟨g', h1, dp_mono ex.ff h2⟩
        · have : j = acc.length := by
            have := (List.getElem?_eq_some_iff.mp hv).1
            simp at this
            omega
          subst this
          rw [List.getElem?_append_right (Nat.le_refl _)] at hv
          simp at hv
          subst hv
          exact ⟨g, by rw [hl]; exact hti, dnew⟩
    · rintro σ H2 ⟨y4, y5, y6, F2, acc, rfl, e, fm, hm, hl, hr⟩
      walk_at "rd"
      refine ⟨Nat.zero_le _, fun lv nv => ?_⟩
      have m1 : lm ≠ lv := fun z => by rw [z, nv] at hm; cases hm
      have e2 : Ext F H F2 (upd H2 lv (.lst [])) := e.mut nv
      have hm2 : (upd H2 lv (.lst [])) lm = some (.lst acc) := rH_new nv hm
      have hv2 : (upd H2 lv (.lst [])) lv = some (.lst []) := upd_same
      have fv2 : F2 lv = none := sub_none e.fh nv
      have nvH : H lv = none := e.hh.free nv
      generalize upd H2 lv (.lst []) = H3 at *
      walk_at "rd"
      refine .inl ⟨lh, rfl, ⟨_, sqL_mono (e2.ff.trans e2.fh) hh⟩, ?_⟩
      refine for_w (walk_list (xs := B1.hard.map V.int)) (fun i σ H4 => ∃ y8, σ = [some (.ref lh), some (.int (B1.places : Int)), some (.ref lg), some (.ref lm), y4, y5, y6, some (.ref lv), y8, none] ∧ Ext F H F2 H4 ∧ H4 lm = some (.lst acc) ∧ H4 lv = some (.lst (((B1.hard.take i).flatMap fun h => List.replicate B1.places h).map V.int))) ?_ ?_ ?_ ?_
      · exact ⟨none, rfl, e2, hm2, by rw [hv2]; rfl⟩
      · rintro i σ H4 _ ⟨_, _, e4, _⟩
        exact sqL_mono (e4.ff.trans e4.fh) hh
      · rintro i v σ H4 H5 hi ⟨y8, rfl, e4, hm4, hv4⟩ ⟨rfl, hv⟩
        have hi' : i < B1.hard.length := by simpa using hi
        have ev : v = .int B1.hard[i] := by
          rw [List.getElem?_map, List.getElem?_eq_getElem hi'] at hv
          exact (Option.some.inj hv).symm
        subst ev
        have fl : ((B1.hard.take i).flatMap fun h => List.replicate B1.places h).length ≤ 100 := by
          rw [flat_len]
          have : (B1.hard.take i).length ≤ 4 := by simp; omega
          calc (B1.hard.take i).length * B1.places ≤ 4 * 3 := Nat.mul_le_mul this p2.2
            _ ≤ 100 := by decide
        walk_at "rd"
        refine ⟨tyV_lst hv4, ?_⟩
        walk_at "rd"
        refine ⟨by show 1 ≤ sizeLine; decide, fun p hp => ?_⟩
        walk_at "rd"
        refine .inr ⟨p, _, _, rfl, rfl, upd_same, by omega, by omega, ?_, fun p2 hp2 => ?_⟩
        · refine Nat.le_trans (?_ : _ ≤ 3) (by decide)
          simp
          omega
        walk_at "rd"
        have mp : lv ≠ p := fun z => by rw [z, hp] at hv4; cases hv4
        refine s_extd (rH_new hp2 (rH_new hp hv4)) upd_same ?_ ?_
        · rw [List.length_map]
          refine Nat.le_trans (Nat.add_le_add fl (?_ : _ ≤ 3)) (by decide)
          simp
          omega
        refine ⟨_, rfl, ((e4.mut hp).mut hp2).chg nvH fv2, ?_, ?_⟩
        · rw [upd_ne m1]
          exact rH_new hp2 (rH_new hp hm4)
        · rw [upd_same, flat_take B1.hard B1.places i hi', List.map_append]
          simp
      · rintro σ H4 ⟨y8, rfl, e4, hm4, hv4⟩
        rw [List.length_map, List.take_of_length_le (Nat.le_refl _)] at hv4
        walk_at "rd"
        intro m nmm
        have m3 : m ≠ lm := fun z => by rw [z, hm4] at nmm; cases nmm
        have m4 : m ≠ lv := fun z => by rw [z, hv4] at nmm; cases nmm
        walk_at "rd"
        refine ⟨upd_same, mkvs lh (B1.places : Int) lg lv lm, rfl, by show 5 ≤ 15; decide, ?_⟩
        rw [merge_mkvs, upd_upd]
        have e5 := (((e4.new (o := .dK (mkvs lh (B1.places : Int) lg lv lm)) nmm).frz nm (by rw [upd_ne (Ne.symm m3)]; exact fm) (rH_new nmm hm4))).frz nvH (by rw [upd_ne (Ne.symm m1), upd_ne (Ne.symm m4)]; exact fv2) (rH_new nmm hv4)
        have s1 : Same F2 (upd F2 m (.dK (mkvs lh (B1.places : Int) lg lv lm))) := same_upd (sub_none e4.fh nmm)
        have s2 : Same (upd F2 m (.dK (mkvs lh (B1.places : Int) lg lv lm))) (upd (upd F2 m (.dK (mkvs lh (B1.places : Int) lg lv lm))) lm (.lst acc)) := same_upd (by rw [upd_ne (Ne.symm m3)]; exact fm)
        have s3 : Same (upd (upd F2 m (.dK (mkvs lh (B1.places : Int) lg lv lm))) lm (.lst acc)) (upd (upd (upd F2 m (.dK (mkvs lh (B1.places : Int) lg lv lm))) lm (.lst acc)) lv (.lst (B1.heavy.map V.int))) := same_upd (by rw [upd_ne (Ne.symm m1), upd_ne (Ne.symm m4)]; exact fv2)
        refine q m _ _ e5 ⟨⟨lh, lg, lv, lm, s3 _ _ (s2 _ _ upd_same), htx.mono e5.ff⟩, lh, lg, lv, lm, ?_, ?_, ?_, ?_, ?_⟩
        · exact s3 _ _ (s2 _ _ upd_same)
        · exact sqL_mono e5.ff hh
        · exact dp_mono e5.ff hg
        · exact .inl (.inl upd_same)
        · refine .lst (sqL_mono s3 (.inl (.inl upd_same))) (dpAll_of ?_ fun i v d h1 h2 => ?_)
          · rw [hl, glen, List.length_map, B1.meets_len]
          · obtain ⟨g, h3, h4⟩ := hr i v h1
            simp only [BD.meets, List.getElem?_map, h3, Option.map_some] at h2
            cases h2
            exact dp_mono ((s1.trans s2).trans s3) h4
end
end G

namespace G
open PySem PySem.Spec PyProof.Rows L2
local macro_rules | `(tactic| walk_at "lk") => `(tactic| first | assumption | exact rT_at | exact rL_at | exact upd_same | (refine sqT_mono ?_ (by assumption); assumption) | (refine sqL_mono ?_ (by assumption); assumption) | (refine rT_new (by assumption) ?_; walk_at "lk") | (refine rL_new (by assumption) ?_; walk_at "lk") | (refine rH_new (by assumption) ?_; walk_at "lk") | (refine rD_new (by assumption) ?_; walk_at "lk") | (refine dp_mono ?_ (by assumption); assumption))
local macro_rules | `(tactic| walk_at "r1") => `(tactic| first | ((with_reducible show tVar _ _ _ _); refine s_var rfl ?_) | with_reducible refine s_c ?_ | with_reducible refine s_op ?_ | with_reducible refine s_un ?_ | with_reducible refine s_neg ?_ | with_reducible refine s_test ?_ | with_reducible refine s_B ?_ | with_reducible refine s_bl ?_ | with_reducible refine s_not ?_ | with_reducible refine s_yes ?_ | with_reducible refine s_and ?_ | with_reducible refine s_or ?_ | with_reducible refine s_notV ?_ | with_reducible refine s_andV ?_ | with_reducible refine s_orV ?_ | with_reducible refine s_if ?_ | with_reducible refine s_cT ?_ | with_reducible refine s_cF ?_ | with_reducible refine s_nT ?_ | with_reducible refine s_nF ?_ | with_reducible refine s_addI ?_ | with_reducible refine s_eqI ?_ | with_reducible refine s_neI ?_ | with_reducible refine s_eqB ?_ | with_reducible refine s_neB ?_ | with_reducible refine s_I0 ?_ | with_reducible refine s_non ?_ | with_reducible refine s_int ?_ | with_reducible refine s_chain ?_ | with_reducible refine s_cons ?_ | with_reducible refine s_nil ?_ | with_reducible refine s_call ?_ | with_reducible refine s_cb ?_ | with_reducible refine s_meth ?_ | with_reducible refine s_make ?_ | with_reducible refine s_tup ?_ | with_reducible refine s_lst ?_ | with_reducible refine s_bm ?_ | with_reducible refine s_bm0 ?_ | with_reducible refine s_bmT ?_ | with_reducible refine s_fld ?_ | with_reducible refine s_dget ?_ | with_reducible refine s_sl ?_ | with_reducible refine s_part ?_ | with_reducible refine s_nopart ?_ | with_reducible refine s_seq ?_ | with_reducible refine s_next ?_ | with_reducible refine s_asg ?_ | with_reducible refine s_gn ?_ | with_reducible refine s_gc ?_ | with_reducible refine s_g0 ?_ | with_reducible refine s_gs ?_ | with_reducible refine s_ret ?_ | with_reducible refine s_ifS ?_ | with_reducible refine s_drop ?_ | with_reducible refine s_augS ?_ | ((with_reducible show tAug _ _ _ _ _ _); refine s_aug rfl ?_) | with_reducible refine s_ipI ?_ | with_reducible refine s_for ?_ | with_reducible refine s_iseq ?_ | with_reducible refine s_rng1 ?_ | with_reducible refine s_izip ?_ | with_reducible refine s_lc ?_ | with_reducible refine s_lc2 ?_ | with_reducible refine s_lstRg ?_ | with_reducible refine s_rg1 ?_ | with_reducible refine s_sfld ?_ | with_reducible refine s_ienum ?_ | with_reducible refine s_disp ?_ | with_reducible refine s_pc ?_ | with_reducible refine s_pn ?_)
local macro_rules | `(tactic| walk_at "rd") => `(tactic| repeat walk_at "r1")

theorem pop_perm : ∀ (l : List Nat) (k : Nat) (h : k < l.length), (l[k] :: l.eraseIdx k).Perm l
  | [], _, h => by simp at h
  | _ :: _, 0, _ => List.Perm.refl _
  | a :: l, k + 1, h => by
    have hk : k < l.length := by simpa using h
    have := pop_perm l k hk
    show (l[k] :: a :: l.eraseIdx k).Perm (a :: l)
    exact (List.Perm.swap a _ _).trans (this.cons a)
theorem er_map {α β : Type} (f : α → β) : ∀ (l : List α) (k : Nat), (l.map f).eraseIdx k = (l.eraseIdx k).map f
  | [], _ => rfl
  | _ :: _, 0 => rfl
  | a :: l, k + 1 => by
    show f a :: (l.map f).eraseIdx k = f a :: (l.eraseIdx k).map f
    rw [er_map f l k]
theorem idx_map (l : List Nat) (a : Nat) : (l.map fun (x : Nat) => (x : Int)).idxOf (a : Int) = l.idxOf a := by
  induction l with
  | nil => rfl
  | cons b l ih =>
    simp only [List.map_cons, List.idxOf_cons, ih]
    by_cases h : b = a
    · subst h; simp
    · have : ((b : Int) == (a : Int)) = false := by simp; omega
      have h2 : (b == a) = false := by simp [h]
      rw [this, h2]
/-- a turn told from the other plate -/
def backT (n : Nat) (tn : List Nat) : List Nat := (List.range n).map fun a => tn.idxOf a
theorem back_perm {n : Nat} {tn : List Nat} (h : tn.Perm (List.range n)) : (backT n tn).Perm (List.range n) := by
  have nd : tn.Nodup := h.nodup_iff.mpr List.nodup_range
  have len : tn.length = n := by rw [h.length_eq, List.length_range]
  have mem : ∀ a, a ∈ tn ↔ a < n := fun a => by rw [h.mem_iff, List.mem_range]
  have ix : ∀ a, a < n → ∃ hlt : tn.idxOf a < tn.length, tn[tn.idxOf a] = a := fun a ha => ⟨List.idxOf_lt_length_iff.mpr ((mem a).mpr ha), List.getElem_idxOf _⟩
  refine (List.perm_ext_iff_of_nodup ?_ List.nodup_range).mpr fun x => ?_
  · refine List.pairwise_map.mpr ?_
    refine List.Pairwise.imp_of_mem (fun {a b} ha hb hab => ?_) List.nodup_range
    intro e
    obtain ⟨h1, e1⟩ := ix a (List.mem_range.mp ha)
    obtain ⟨h2, e2⟩ := ix b (List.mem_range.mp hb)
    have : tn[tn.idxOf a] = tn[tn.idxOf b] := by simp only [e]
    exact hab (e1.symm.trans (this.trans e2))
  · constructor
    · intro hx
      obtain ⟨a, ha, rfl⟩ := List.mem_map.mp hx
      obtain ⟨h1, _⟩ := ix a (List.mem_range.mp ha)
      rw [List.mem_range]
      omega
    · intro hx
      have hx' : x < tn.length := by rw [len]; exact List.mem_range.mp hx
      refine List.mem_map.mpr ⟨tn[x], List.mem_range.mpr ((mem _).mp (List.getElem_mem _)), nd.idxOf_getElem x hx'⟩
abbrev tpo (ob : Obj) (tk : List Nat) : HO := .frz ob (.tup ((tk.map fun (x : Nat) => (x : Int)).map V.int))
theorem tpo_sq {K : PySem.W.Frag} {F : Hp} {p : Addr} {ob : Obj} {tk : List Nat} (h : F p = some (tpo ob tk)) : SqT K F p ((tk.map fun (x : Nat) => (x : Int)).map V.int) := .inl (.inr ⟨ob, h⟩)
def GOk (m n : Nat) (g : Nat × Nat × List Nat) : Prop := g.1 < m ∧ g.2.1 < m ∧ g.1 ≠ g.2.1 ∧ g.2.2.Perm (List.range n)
theorem cut6 (xs : List V) : cutV xs none (some 6) = xs.take 6 := by
  unfold cutV
  rw [HT.sIx_none, show HT.sIx xs.length xs.length (some 6) = min 6 xs.length from HT.sIx_nat xs.length xs.length 6]
  simp
section
variable {P : Program} {w : World} {K : PySem.W.Frag} {mg : Str → Option Value} {base : Heap} {C : Addr}
def GP (K : PySem.W.Frag) (F : Hp) (v : V) (g : Nat × Nat × List Nat) : Prop := Dp K F v (gD g) ∧ Gx K F v g
theorem GP.mono {F F' : Hp} {v : V} {g : Nat × Nat × List Nat} (e : Same F F') (h : GP K F v g) : GP K F' v g := ⟨dp_mono e h.1, h.2.mono e⟩
theorem gmk {F : Hp} {p c : Addr} {a b : Nat} {tn : List Nat} {ob : Obj} (hp : F p = some (.tup [.int a, .int b, .ref c])) (hc0 : F c = some (tpo ob tn)) (od : ob.dict = none) : GP K F (.ref p) (a, b, tn) := by
  have hc : SqT K F c ((tn.map fun (x : Nat) => (x : Int)).map V.int) := tpo_sq hc0
  refine ⟨?_, p, c, ob, rfl, .inl (.inl hp), hc0, od⟩
  refine .tup (.inl (.inl hp)) (.cons (.int _) (.cons (.int _) (.cons ?_ .nil)))
  have := dp_tupI hc
  rw [List.map_map] at this
  exact this
theorem gs_of {F : Hp} {m n : Nat} : ∀ (acc : List V), (∀ v ∈ acc, ∃ g, GOk m n g ∧ GP K F v g) → ∃ gs : List (Nat × Nat × List Nat), DpAll K F acc (gs.map gD) ∧ (∀ g ∈ gs, GOk m n g) ∧ TXs K F acc gs
  | [], _ => ⟨[], .nil, (fun g h => nomatch h), .nil⟩
  | v :: acc, h => by
    obtain ⟨g, h1, h2⟩ := h v (List.mem_cons_self ..)
    obtain ⟨gs, h3, h4, h5⟩ := gs_of acc fun x hx => h x (List.mem_cons_of_mem _ hx)
    refine ⟨g :: gs, .cons h2.1 h3, fun x hx => ?_, .cons h2.2 h5⟩
    rcases List.mem_cons.mp hx with rfl | hx
    · exact h1
    · exact h4 x hx
abbrev s__law_bench : Stmt := topS 22
abbrev n__law_bench : List Str := ["_law_state", "_law_plates", "_law_places", "_law_many", "_law_size", "_law_kind", "_law_same", "_law_hard", "_law_told", "_law_k", "_law_one", "_law_other", "_law_left", "_law_turn", "_law_back", "_law_at"]
theorem sc__law_bench : FnScope ["_law_state", "_law_plates", "_law_places", "_law_many", "_law_size", "_law_kind", "_law_same", "_law_hard", "_law_told", "_law_k", "_law_one", "_law_other", "_law_left", "_law_turn", "_law_back", "_law_at"] ["_law_state", "_law_plates", "_law_places"] (defScope s__law_bench) := ⟨rfl, rfl, rfl, by decide +kernel, rfl, by decide +kernel, by decide +kernel⟩
def spBench (K : PySem.W.Frag) : Sp := fun vs H Q _ => ∃ st s F, ∃ pl pc : Nat, vs = [.ref st, .int pl, .int pc] ∧ 2 ≤ pl ∧ pl ≤ 4 ∧ 1 ≤ pc ∧ pc ≤ 3 ∧ H st = some (.lst s) ∧ StOk s ∧ Same F (del H st) ∧
  ∀ m B F' H', BOk B → B.hard.length ≤ pl → B.places ≤ pc → SExt st F H F' H' → ModelAt K F' m B → Q (.ref m) H'
theorem ok_bench (B0 : Blt mg) (d__law_digit : Def P w K mg base 1 "_law_digit" ["_law_state", "_law_base"] (spDigit K)) (d__law_made : Def P w K mg base 1 "_law_made" ["_law_hard", "_law_places", "_law_told"] (spMade K)) (F : FunAt K mg "_law_bench" s__law_bench ["_law_state", "_law_plates", "_law_places"]) :
    Def P w K mg base 2 "_law_bench" ["_law_state", "_law_plates", "_law_places"] (spBench K) := by
  refine F.def (k := 1) sc__law_bench (fun vs H Q E h => ?_) (fun f cdv A outer s H vs Q E hr h => ?_)
  · obtain ⟨st, s, F, pl, pc, rfl, _⟩ := h
    rfl
  · obtain ⟨st, s, F, pl, pc, rfl, pl2, pl4, pc1, pc3, hst, sok, hF, q⟩ := h
    have B := B0
    have r0 : SExt st F H F H := SExt.refl hF hst sok
    refine ⟨_, (pss_cons (ps_set (i := 3) sc__law_bench.nd rfl (Or.inl rfl) (pe_op (k_add (K := K) rfl) pe_int (pe_d d__law_digit (hr.mono (by decide)) (by rfl) (pa_cons (pv 0) (pa_cons (pe_op op_sub (pv 1) pe_int) pa_nil))))) (pss_cons (ps_set (i := 4) sc__law_bench.nd rfl (Or.inl rfl) (pe_op (k_add (K := K) rfl) pe_int (pe_d d__law_digit (hr.mono (by decide)) (by rfl) (pa_cons (pv 0) (pa_cons (pv 2) pa_nil))))) (pss_cons (ps_set (i := 5) sc__law_bench.nd rfl (Or.inr rfl) (pe_d d__law_digit (hr.mono (by decide)) (by rfl) (pa_cons (pv 0) (pa_cons pe_int pa_nil)))) (pss_cons (ps_set (i := 6) sc__law_bench.nd rfl (Or.inr rfl) (pe_op (k_add (K := K) rfl) pe_int (pe_d d__law_digit (hr.mono (by decide)) (by rfl) (pa_cons (pv 0) (pa_cons pe_int pa_nil))))) (pss_cons (ps_setLc (i := 7) (own := [("_law_k", 9)]) rfl sc__law_bench.nd rfl rfl (sw_true rfl rfl rfl (by decide +kernel)) (pi_range1 (by rfl) B.range (pa_cons (pv 3) pa_nil)) (blkOk_by (own := [("_law_k", 9)]) (N := n__law_bench) (sc := defScope s__law_bench) (by decide +kernel)) (fun _ _ _ _ _ => (pg_name (i := 9) sc__law_bench.nd rfl (Or.inl rfl))) (fun _ _ _ _ _ => pts_nil) (fun _ _ _ _ _ => (pe_ix (k_ix (K := K) rfl) (pe_lst (pa_cons (pv 6) (pa_cons (pe_op (k_add (K := K) rfl) pe_int (pe_d d__law_digit (hr.mono (by decide)) (by rfl) (pa_cons (pv 0) (pa_cons pe_int pa_nil)))) (pa_cons (pe_op (k_add (K := K) rfl) pe_int (pe_d d__law_digit (hr.mono (by decide)) (by rfl) (pa_cons (pv 0) (pa_cons pe_int pa_nil)))) pa_nil)))) (pv 5) (fun _ _ => rfl)))) (pss_cons (ps_set (i := 8) sc__law_bench.nd rfl (Or.inl rfl) (pe_lst pa_nil)) (pss_cons (ps_for PassesOwn.never rfl (pi_range1 (by rfl) B.range (pa_cons (pe_op (k_add (K := K) rfl) pe_int (pe_d d__law_digit (hr.mono (by decide)) (by rfl) (pa_cons (pv 0) (pa_cons pe_int pa_nil)))) pa_nil)) (pg_name (i := 9) sc__law_bench.nd rfl (Or.inl rfl)) (pss_cons (ps_set (i := 10) sc__law_bench.nd rfl (Or.inl rfl) (pe_d d__law_digit (hr.mono (by decide)) (by rfl) (pa_cons (pv 0) (pa_cons (pv 3) pa_nil)))) (pss_cons (ps_set (i := 11) sc__law_bench.nd rfl (Or.inl rfl) (pe_op op_mod (pe_op (k_add (K := K) rfl) (pe_op (k_add (K := K) rfl) (pv 10) pe_int) (pe_d d__law_digit (hr.mono (by decide)) (by rfl) (pa_cons (pv 0) (pa_cons (pe_op op_sub (pv 3) pe_int) pa_nil)))) (pv 3))) (pss_cons (ps_set (i := 12) sc__law_bench.nd rfl (Or.inr rfl) (pe_listRg rfl (by rfl) B.list (prg_1 (by rfl) B.range (pv 4)))) (pss_cons (ps_set (i := 13) sc__law_bench.nd rfl (Or.inr rfl) (pe_callTy (k_tupleF (K := K) rfl) (by rfl) B.tuple bb_tuple (pa_cons (pe_lc (own := [("_law_at", 15)]) rfl sc__law_bench.nd (pi_range1 (by rfl) B.range (pa_cons (pv 4) pa_nil)) (blkOk_by (own := [("_law_at", 15)]) (N := n__law_bench) (sc := defScope s__law_bench) (by decide +kernel)) (fun _ _ _ _ _ => (pg_name (i := 15) sc__law_bench.nd rfl (Or.inl rfl))) (fun _ _ _ _ _ => pts_nil) (fun _ _ _ _ _ => (k_bm (K := K) rfl PySem.F.plainAttrs_list PySem.F.slot_list_pop PySem.F.type_list_pop mt_popAt (pv 12) (pa_cons (pe_d d__law_digit (hr.mono (by decide)) (by rfl) (pa_cons (pv 0) (pa_cons (pe_callB (k_len (K := K) rfl) (by rfl) B.len bb_len (pa_cons (pv 12) pa_nil)) pa_nil))) pa_nil)))) pa_nil))) (pss_cons (ps_expr (k_bm (K := K) rfl PySem.F.plainAttrs_list PySem.F.slot_list_append PySem.F.type_list_append mt_append (pv 8) (pa_cons (pe_tup (pa_cons (pv 10) (pa_cons (pv 11) (pa_cons (pv 13) pa_nil)))) pa_nil))) (pss_one (ps_if (pt_cmpR (k_eq (K := K) rfl hr.units) (pe_d d__law_digit (hr.mono (by decide)) (by rfl) (pa_cons (pv 0) (pa_cons pe_int pa_nil))) pe_int (nomark _)) (pss_cons (ps_set (i := 14) sc__law_bench.nd rfl (Or.inl rfl) (pe_callTy (k_tupleF (K := K) rfl) (by rfl) B.tuple bb_tuple (pa_cons (pe_lc (own := [("_law_at", 15)]) rfl sc__law_bench.nd (pi_range1 (by rfl) B.range (pa_cons (pv 4) pa_nil)) (blkOk_by (own := [("_law_at", 15)]) (N := n__law_bench) (sc := defScope s__law_bench) (by decide +kernel)) (fun _ _ _ _ _ => (pg_name (i := 15) sc__law_bench.nd rfl (Or.inl rfl))) (fun _ _ _ _ _ => pts_nil) (fun _ _ _ _ _ => (pe_bmT PySem.F.slot_tuple_index PySem.F.type_tuple_index (k_tupIx (K := K) rfl) (pv 13) (pa_cons (pv 15) pa_nil)))) pa_nil))) (pss_one (ps_expr (k_bm (K := K) rfl PySem.F.plainAttrs_list PySem.F.slot_list_append PySem.F.type_list_append mt_append (pv 8) (pa_cons (pe_ix (k_ix (K := K) rfl) (pe_lst (pa_cons (pe_tup (pa_cons (pv 10) (pa_cons (pv 11) (pa_cons (pv 13) pa_nil)))) (pa_cons (pe_tup (pa_cons (pv 11) (pa_cons (pv 10) (pa_cons (pv 14) pa_nil)))) pa_nil))) (pe_d d__law_digit (hr.mono (by decide)) (by rfl) (pa_cons (pv 0) (pa_cons pe_int pa_nil))) (fun _ _ => rfl)) pa_nil))))) pss_nil)))))))) (pss_one (ps_ret (pe_d d__law_made (hr.mono (by decide)) (by rfl) (pa_cons (pv 7) (pa_cons (pv 4) (pa_cons (pe_slice (k_sl (K := K) rfl) (pv 8) po_none (po_some pe_int)) pa_nil))))))))))))), ?_⟩; refine start_eq (σ' := [some (.ref st), some (.int pl), some (.int pc), none, none, none, none, none, none, none, none, none, none, none, none, none]) rfl ?_
    walk_at "rd"
    refine draw r0 (small_b (by omega) (by omega)) fun d0 H1 a0 b0 r1 _ => ?_
    walk_at "rd"
    refine draw r1 (small_b (by omega) (by omega)) fun d1 H2 a1 b1 r2 _ => ?_
    walk_at "rd"
    refine draw r2 (small_b (by decide) (by decide)) fun kd H3 a2 b2 r3 _ => ?_
    walk_at "rd"
    refine draw r3 (small_b (by decide) (by decide)) fun d3 H4 a3 b3 r4 _ => ?_
    obtain ⟨many, hmany⟩ : ∃ many : Nat, 2 + d0 = (many : Int) := ⟨(2 + d0).toNat, by omega⟩
    obtain ⟨size, hsize⟩ : ∃ size : Nat, 1 + d1 = (size : Int) := ⟨(1 + d1).toNat, by omega⟩
    rw [hmany, hsize]
    walk_at "rd"
    refine ⟨_, rfl, by omega, by omega, ?_⟩
    refine lc_mapS walk_range r4 (by omega) (fun _ _ => trivial) (fun i _ v => ∃ h : Int, v = .int h ∧ 1 ≤ h ∧ h ≤ 9) (fun _ _ _ _ _ h => h) (fun i x F' Ha Hb D Z hi ex fd hd nD hy hz => ?_) (fun lh ys F5 H5 nh r5 fh hlen hR => ?_)
    · obtain ⟨rfl, rfl⟩ := hy
      have ex0 : SExt st F' Hb F' Hb := by
        obtain ⟨s, hs, ok⟩ := ex.st
        exact SExt.refl ex.ext.fh hs ok
      walk_at "rd"
      refine ⟨rfl, ?_⟩
      walk_at "rd"
      refine draw ex0 (small_b (by decide) (by decide)) fun e1 Hc c1 c2 x1 _ => ?_
      walk_at "rd"
      refine draw x1 (small_b (by decide) (by decide)) fun e2 Hd c3 c4 x2 _ => ?_
      walk_at "rd"
      refine ⟨by show 3 ≤ sizeLine; decide, fun p hp => ?_⟩
      have x3 := x2.mut (o := .lst [.int (1 + d3), .int (1 + e1), .int (1 + e2)]) hp
      walk_at "rd"
      have k3 : kd = 0 ∨ kd = 1 ∨ kd = 2 := by omega
      rcases k3 with rfl | rfl | rfl
      · exact s_ixL rL_at rfl (hz _ _ _ x3 ⟨_, rfl, by omega, by omega⟩)
      · exact s_ixL rL_at rfl (hz _ _ _ x3 ⟨_, rfl, by omega, by omega⟩)
      · exact s_ixL rL_at rfl (hz _ _ _ x3 ⟨_, rfl, by omega, by omega⟩)
    · have r05 : SExt st F H F5 H5 := r4.trans r5
      obtain ⟨hard, hys, hh9⟩ : ∃ hard : List Int, ys = hard.map V.int ∧ ∀ h ∈ hard, 1 ≤ h ∧ h ≤ 9 := by
        clear hlen fh
        have : ∀ v ∈ ys, ∃ h : Int, v = .int h ∧ 1 ≤ h ∧ h ≤ 9 := fun v hv => by
          obtain ⟨i, hi⟩ := List.getElem?_of_mem hv
          exact hR i v hi
        clear hR
        induction ys with
        | nil => exact ⟨[], rfl, fun h z => by cases z⟩
        | cons v ys ih =>
          obtain ⟨h, rfl, h9⟩ := this v (List.mem_cons_self ..)
          obtain ⟨hs, rfl, hs9⟩ := ih fun x hx => this x (List.mem_cons_of_mem _ hx)
          exact ⟨h :: hs, rfl, fun x hx => by
            rcases List.mem_cons.mp hx with rfl | hx
            · exact h9
            · exact hs9 x hx⟩
      subst hys
      have hardlen : hard.length = many := by
        rw [List.length_map] at hlen
        omega
      walk_at "rd"
      refine ⟨Nat.zero_le _, fun lt nt => ?_⟩
      have tne : lt ≠ st := r05.ne nt
      have ntH : H lt = none := r05.back nt
      have r6 : SExt st F H F5 (upd H5 lt (.lst [])) := r05.mut nt
      have ht6 : (upd H5 lt (.lst [])) lt = some (.lst []) := upd_same
      have ft5 : F5 lt = none := sub_none r05.fh nt
      generalize upd H5 lt (.lst []) = H6 at *
      walk_at "rd"
      refine draw r6 (small_b (by decide) (by decide)) fun d4 H7 a4 b4 r7 k7 => ?_
      have ht7 := k7 _ _ tne ht6
      obtain ⟨turns, hturns⟩ : ∃ turns : Nat, 1 + d4 = (turns : Int) := ⟨(1 + d4).toNat, by omega⟩
      refine s_addI ?_
      rw [hturns]
      walk_at "rd"
      refine ⟨_, rfl, by omega, by omega, ?_⟩
      refine for_w walk_range (fun i σ Hx => ∃ y9 y10 y11 y12 y13 y14 Fx acc, σ = [some (.ref st), some (.int pl), some (.int pc), some (.int many), some (.int size), some (.int kd), some (.int (1 + d3)), some (.ref lh), some (.ref lt), y9, y10, y11, y12, y13, y14, none] ∧ SExt st F H Fx Hx ∧ Same F5 Fx ∧ Fx lt = none ∧ Hx lt = some (.lst acc) ∧ i ≤ acc.length ∧ acc.length ≤ 2 * i ∧ ∀ v ∈ acc, ∃ g, GOk many size g ∧ GP K Fx v g) ?_ ?_ ?_ ?_
      · exact ⟨none, none, none, none, none, none, F5, [], rfl, r7, Same.refl _, ft5, ht7, Nat.le_refl _, Nat.le_refl _, fun v h => by cases h⟩
      · intro _ _ _ _ _
        trivial
      · rintro i x σ Hx Hy hi ⟨y9, y10, y11, y12, y13, y14, Fx, acc, rfl, rx, sx, fx, hx, l1, l2, hacc⟩ ⟨rfl, rfl⟩
        walk_at "rd"
        refine draw rx (small_b (by omega) (by omega)) fun d5 H8 a5 b5 r8 k8 => ?_
        walk_at "rd"
        refine draw r8 (small_b (by omega) (by omega)) fun d6 H9 a6 b6 r9 k9 => ?_
        have hx9 := k9 _ _ tne (k8 _ _ tne hx)
        walk_at "rd"
        refine s_I (show (0 : Int) < (many : Int) by omega) ?_
        obtain ⟨one, hone⟩ : ∃ one : Nat, d5 = (one : Int) := ⟨d5.toNat, by omega⟩
        obtain ⟨other, hother⟩ : ∃ other : Nat, (d5 + 1 + d6) % (many : Int) = (other : Int) := ⟨((d5 + 1 + d6) % (many : Int)).toNat, by have := Int.emod_nonneg (d5 + 1 + d6) (show (many : Int) ≠ 0 by omega); omega⟩
        have o1 : one < many := by omega
        have o2 : other < many := by
          have := Int.emod_lt_of_pos (d5 + 1 + d6) (show (0 : Int) < (many : Int) by omega)
          omega
        have o3 : one ≠ other := by
          intro e
          have e1 := Int.emod_add_mul_ediv (d5 + 1 + d6) (many : Int)
          rw [hother] at e1
          have hq : (d5 + 1 + d6) / (many : Int) = 0 ∨ (d5 + 1 + d6) / (many : Int) = 1 := by
            have q0 : 0 ≤ (d5 + 1 + d6) / (many : Int) := Int.ediv_nonneg (by omega) (by omega)
            have q2 : (d5 + 1 + d6) / (many : Int) < 2 := Int.ediv_lt_of_lt_mul (by omega) (by omega)
            omega
          rcases hq with hq | hq
          · rw [hq] at e1; omega
          · rw [hq] at e1; omega
        rw [hother]
        subst hone
        walk_at "rd"
        refine ⟨RgOk.of_le (by omega) (by omega) (by omega) (by omega), fun ll nl => ?_⟩
        have lne : ll ≠ st := r9.ne nl
        have nlH : H ll = none := r9.back nl
        have ltl : lt ≠ ll := fun z => by rw [z, nl] at hx9; cases hx9
        have fl : Fx ll = none := sub_none r9.fh nl
        have r10 := r9.mut (o := .lst (rgV 0 (size : Int))) nl
        have hl10 : (upd H9 ll (.lst (rgV 0 (size : Int)))) ll = some (.lst (((List.range size).map fun (x : Nat) => (x : Int)).map V.int)) := by rw [upd_same, rgV_nat]
        have hx10 : (upd H9 ll (.lst (rgV 0 (size : Int)))) lt = some (.lst acc) := rH_new nl hx9
        generalize upd H9 ll (.lst (rgV 0 (size : Int))) = H10 at *
        walk_at "rd"
        refine ⟨_, rfl, by omega, by omega, ?_⟩
        intro D nD
        have Dne : D ≠ st := r10.ne nD
        have nDH : H D = none := r10.back nD
        have Dl : D ≠ ll := fun z => by rw [z, hl10] at nD; cases nD
        have Dt : D ≠ lt := fun z => by rw [z, hx10] at nD; cases nD
        have fD : Fx D = none := sub_none r10.fh nD
        refine lc_it walk_range (fun j Hj => ∃ tk rem : List Nat, SExt st F H Fx Hj ∧ Hj lt = some (.lst acc) ∧ Hj ll = some (.lst ((rem.map fun (x : Nat) => (x : Int)).map V.int)) ∧ Hj D = some (.lst ((tk.map fun (x : Nat) => (x : Int)).map V.int)) ∧ tk.length = j ∧ rem.length + j = size ∧ (tk ++ rem).Perm (List.range size)) ?_ ?_ ?_ ?_
        · exact ⟨[], List.range size, r10.mut nD, rH_new nD hx10, rH_new nD hl10, upd_same, rfl, by simp, List.Perm.refl _⟩
        · intro _ _ _ _
          trivial
        · rintro j xj Hj Hk hj ⟨tk, rem, rj, tj, lj, dj, tkl, reml, perm⟩ ⟨rfl, rfl⟩
          walk_at "rd"
          refine ⟨rfl, ?_⟩
          walk_at "rd"
          refine ⟨tyV_lst lj, ?_⟩
          walk_at "rd"
          refine s_lenL (.inl (.inl lj)) ?_
          rw [List.length_map, List.length_map]
          walk_at "rd"
          refine draw rj (small_b (by omega) (by omega)) fun d7 Hm a7 b7 rm km => ?_
          walk_at "rd"
          obtain ⟨k, hk⟩ : ∃ k : Nat, d7 = (k : Int) := ⟨d7.toNat, by omega⟩
          subst hk
          have kl : k < rem.length := by omega
          have lm := km _ _ lne lj
          have tm := km _ _ tne tj
          have dm := km _ _ Dne dj
          refine ⟨ll, _, (k : Int), k, .int ((rem[k] : Nat) : Int), rfl, rfl, lm, by omega, by omega, by rw [seqIndex_of (by omega) (by simp; omega)]; simp, by simp [kl], ?_⟩
          have e : ((rem.map fun (x : Nat) => (x : Int)).map V.int).eraseIdx k = ((rem.eraseIdx k).map fun (x : Nat) => (x : Int)).map V.int := by rw [er_map, er_map]
          rw [e]
          refine ⟨_, by rw [upd_ne Dl]; exact dm, Nat.lt_of_le_of_lt (show _ ≤ 100 by simp; omega) (by decide), tk ++ [rem[k]], rem.eraseIdx k, ?_, ?_, ?_, ?_, by simp [tkl], by rw [List.length_eraseIdx_of_lt kl]; omega, ?_⟩
          · exact (rm.chg lne nlH fl).chg Dne nDH fD
          · rw [upd_ne (Ne.symm Dt), upd_ne ltl]
            exact tm
          · rw [upd_ne (Ne.symm Dl), upd_same]
          · rw [upd_same]
            simp
          · rw [List.append_assoc]
            exact ((pop_perm rem k kl).append_left tk).trans perm
        · rintro Hj ⟨tk, rem, rj, tj, lj, dj, tkl, reml, perm⟩
          have rem0 : rem = [] := List.eq_nil_of_length_eq_zero (by omega)
          subst rem0
          rw [List.append_nil] at perm
          walk_at "rd"
          refine s_tupleF (.inl (.inl dj)) fun tp ob obd np => ?_
          have r11 := rj.new (o := tpo ob tk) np
          have t11 : (upd Hj tp (tpo ob tk)) lt = some (.lst acc) := rH_new np tj
          have f11 : (upd Fx tp (tpo ob tk)) tp = some (tpo ob tk) := upd_same
          have ftp : Fx tp = none := sub_none rj.fh np
          have s11 : Same Fx (upd Fx tp (tpo ob tk)) := same_upd ftp
          have ft11 : (upd Fx tp (tpo ob tk)) lt = none := by
            rw [upd_ne]
            · exact fx
            · intro z; rw [← z, tj] at np; cases np
          generalize upd Hj tp (tpo ob tk) = H11 at *
          generalize upd Fx tp (tpo ob tk) = F11 at *
          walk_at "rd"
          refine ⟨tyV_lst t11, ?_⟩
          walk_at "rd"
          refine ⟨by show 3 ≤ sizeLine; decide, fun gp ngp => ?_⟩
          have r12 := r11.new (o := .tup [.int one, .int other, .ref tp]) ngp
          have t12 : (upd H11 gp (.tup [.int one, .int other, .ref tp])) lt = some (.lst acc) := rH_new ngp t11
          have s12 : Same F11 (upd F11 gp (.tup [.int one, .int other, .ref tp])) := same_upd (sub_none r11.fh ngp)
          have f12 : (upd F11 gp (.tup [.int one, .int other, .ref tp])) gp = some (.tup [.int one, .int other, .ref tp]) := upd_same
          have ft12 : (upd F11 gp (.tup [.int one, .int other, .ref tp])) lt = none := by
            rw [upd_ne]
            · exact ft11
            · intro z; rw [← z, t11] at ngp; cases ngp
          generalize upd H11 gp (.tup [.int one, .int other, .ref tp]) = H12 at *
          generalize upd F11 gp (.tup [.int one, .int other, .ref tp]) = F12 at *
          have dg := gmk (K := K) f12 (s12 _ _ f11) obd
          walk_at "rd"
          refine s_app t12 (by omega) ?_
          have r13 := r12.chg (o := .lst (acc ++ [.ref gp])) tne ntH ft12
          have t13 : (upd H12 lt (.lst (acc ++ [.ref gp]))) lt = some (.lst (acc ++ [.ref gp])) := upd_same
          have hacc2 : ∀ v ∈ acc ++ [.ref gp], ∃ g, GOk many size g ∧ GP K F12 v g := fun v hv => by
            rcases List.mem_append.mp hv with hv | hv
            · obtain ⟨g, h1, h2⟩ := hacc v hv
              exact ⟨g, h1, h2.mono (s11.trans s12)⟩
            · rw [List.mem_singleton.mp hv]
              exact ⟨_, ⟨o1, o2, o3, perm⟩, dg⟩
          have sF : Same F5 F12 := (sx.trans s11).trans s12
          generalize upd H12 lt (.lst (acc ++ [.ref gp])) = H13 at *
          walk_at "rd"
          refine draw r13 (small_b (by decide) (by decide)) fun d8 H14 a8 b8 r14 k14 => ?_
          have t14 := k14 _ _ tne t13
          walk_at "rd"
          refine s_d2 (fun e8 => ?_) (fun e8 => ?_)
          · walk_at "rd"
            refine ⟨_, rfl, by omega, by omega, ?_⟩
            refine lc_mapS walk_range r14 (by omega) (fun _ _ => trivial) (fun j _ v => v = .int ((tk.idxOf j : Nat) : Int)) (fun _ _ _ _ _ h => h) (fun j x F' Ha Hb D Z hj ex fd hd nD hy hz => ?_) (fun D ys F15 H15 nD r15 fD hlen hR => ?_)
            · obtain ⟨rfl, rfl⟩ := hy
              have ex0 : SExt st F' Hb F' Hb := by
                obtain ⟨s, hs, ok⟩ := ex.st
                exact SExt.refl ex.ext.fh hs ok
              walk_at "rd"
              refine ⟨rfl, ?_⟩
              walk_at "rd"
              have htf := ex.fh _ _ (ex.ext.ff _ _ (s12 _ _ f11))
              have htp : SqT K Hb tp ((tk.map fun (x : Nat) => (x : Int)).map V.int) := tpo_sq htf
              refine ⟨⟨tp, ob, _, rfl, htf, obd⟩, ?_⟩
              walk_at "rd"
              refine ⟨tp, _, _, rfl, rfl, htp, ?_, ?_⟩
              · rw [Int.zero_add]
                refine List.mem_map.mpr ⟨j, ?_, rfl⟩
                rw [perm.mem_iff, List.mem_range]
                omega
              · rw [Int.zero_add, idx_map]
                exact hz _ _ _ ex0 rfl
            · have hys : ys = ((backT size tk).map fun (x : Nat) => (x : Int)).map V.int := by
                refine List.ext_getElem? fun i => ?_
                cases hv : ys[i]? with
                | none =>
                  have : ys.length ≤ i := List.getElem?_eq_none_iff.mp hv
                  rw [List.getElem?_eq_none (by simp [backT]; omega)]
                | some v =>
                  have hi : i < ys.length := (List.getElem?_eq_some_iff.mp hv).1
                  have hi2 : i < size := by omega
                  rw [hR i v hv]
                  simp [backT, hi2]
              subst hys
              have t15 := r15.keep tne t14
              have ft15 := r15.fr tne (by rw [t14]; simp) ft12
              have r015 := r14.trans r15
              walk_at "rd"
              refine s_tupleF (.inl (.inl (r15.fh _ _ fD))) fun bp ob2 ob2d nb => ?_
              have r16 := r015.new (o := tpo ob2 (backT size tk)) nb
              have t16 : (upd H15 bp (tpo ob2 (backT size tk))) lt = some (.lst (acc ++ [.ref gp])) := rH_new nb t15
              have s16 : Same F15 (upd F15 bp (tpo ob2 (backT size tk))) := same_upd (sub_none r015.fh nb)
              have f16 : (upd F15 bp (tpo ob2 (backT size tk))) bp = some (tpo ob2 (backT size tk)) := upd_same
              have ft16 : (upd F15 bp (tpo ob2 (backT size tk))) lt = none := by
                rw [upd_ne]
                · exact ft15
                · intro z; rw [← z, t15] at nb; cases nb
              generalize upd H15 bp (tpo ob2 (backT size tk)) = H16 at *
              generalize upd F15 bp (tpo ob2 (backT size tk)) = F16 at *
              walk_at "rd"
              refine ⟨tyV_lst t16, ?_⟩
              walk_at "rd"
              refine ⟨by show 3 ≤ sizeLine; decide, fun g1 ng1 => ?_⟩
              have r17 := r16.new (o := .tup [.int one, .int other, .ref tp]) ng1
              have t17 := rH_new (o := .tup [.int one, .int other, .ref tp]) ng1 t16
              have s17 : Same F16 (upd F16 g1 (.tup [.int one, .int other, .ref tp])) := same_upd (sub_none r16.fh ng1)
              have f17 : (upd F16 g1 (.tup [.int one, .int other, .ref tp])) g1 = some (.tup [.int one, .int other, .ref tp]) := upd_same
              have ft17 : (upd F16 g1 (.tup [.int one, .int other, .ref tp])) lt = none := by
                rw [upd_ne]
                · exact ft16
                · intro z; rw [← z, t16] at ng1; cases ng1
              generalize upd H16 g1 (.tup [.int one, .int other, .ref tp]) = H17 at *
              generalize upd F16 g1 (.tup [.int one, .int other, .ref tp]) = F17 at *
              walk_at "rd"
              refine ⟨by show 3 ≤ sizeLine; decide, fun g2 ng2 => ?_⟩
              have r18 := r17.new (o := .tup [.int other, .int one, .ref bp]) ng2
              have t18 := rH_new (o := .tup [.int other, .int one, .ref bp]) ng2 t17
              have s18 : Same F17 (upd F17 g2 (.tup [.int other, .int one, .ref bp])) := same_upd (sub_none r17.fh ng2)
              have f18 : (upd F17 g2 (.tup [.int other, .int one, .ref bp])) g2 = some (.tup [.int other, .int one, .ref bp]) := upd_same
              have ft18 : (upd F17 g2 (.tup [.int other, .int one, .ref bp])) lt = none := by
                rw [upd_ne]
                · exact ft17
                · intro z; rw [← z, t17] at ng2; cases ng2
              generalize upd H17 g2 (.tup [.int other, .int one, .ref bp]) = H18 at *
              generalize upd F17 g2 (.tup [.int other, .int one, .ref bp]) = F18 at *
              walk_at "rd"
              refine ⟨by show 2 ≤ sizeLine; decide, fun lp nlp => ?_⟩
              have r19 := r18.mut (o := .lst [.ref g1, .ref g2]) nlp
              have t19 := rH_new (o := .lst [.ref g1, .ref g2]) nlp t18
              have h19 : (upd H18 lp (.lst [.ref g1, .ref g2])) lp = some (.lst [.ref g1, .ref g2]) := upd_same
              have lpne : lp ≠ st := r18.ne nlp
              generalize upd H18 lp (.lst [.ref g1, .ref g2]) = H19 at *
              walk_at "rd"
              refine draw r19 (small_b (by decide) (by decide)) fun d9 H20 a9 b9 r20 k20 => ?_
              have t20 := k20 _ _ tne t19
              have h20 := k20 _ _ lpne h19
              have sA : Same F12 F18 := ((r15.ext.ff.trans s16).trans s17).trans s18
              have dg1 := gmk (K := K) (s18 _ _ f17) (sA _ _ (s12 _ _ f11)) obd
              have dg2 := gmk (K := K) f18 (s18 _ _ (s17 _ _ f16)) ob2d
              have fin : ∀ v, (∃ g, GOk many size g ∧ GP K F18 v g) → ∃ y9 y10 y11 y12 y13 y14 Fx acc', [some (.ref st), some (.int pl), some (.int pc), some (.int many), some (.int size), some (.int kd), some (.int (1 + d3)), some (.ref lh), some (.ref lt), some (V.int (0 + (i : Int))), some (V.int (one : Int)), some (V.int (other : Int)), some (V.ref ll), some (V.ref tp), some (V.ref bp), none] = [some (.ref st), some (.int pl), some (.int pc), some (.int many), some (.int size), some (.int kd), some (.int (1 + d3)), some (.ref lh), some (.ref lt), y9, y10, y11, y12, y13, y14, none] ∧ SExt st F H Fx (upd H20 lt (.lst ((acc ++ [.ref gp]) ++ [v]))) ∧ Same F5 Fx ∧ Fx lt = none ∧ (upd H20 lt (.lst ((acc ++ [.ref gp]) ++ [v]))) lt = some (.lst acc') ∧ i + 1 ≤ acc'.length ∧ acc'.length ≤ 2 * (i + 1) ∧ ∀ v ∈ acc', ∃ g, GOk many size g ∧ GP K Fx v g := fun v hv =>
                ⟨_, _, _, _, _, _, F18, _, rfl, r20.chg tne ntH ft18, sF.trans sA, ft18, upd_same, by simp; omega, by simp; omega, fun u hu => by
                  rcases List.mem_append.mp hu with hu | hu
                  · obtain ⟨g, h1, h2⟩ := hacc2 u hu
                    exact ⟨g, h1, h2.mono sA⟩
                  · rw [List.mem_singleton.mp hu]
                    exact hv⟩
              have d9' : d9 = 0 ∨ d9 = 1 := by omega
              rcases d9' with rfl | rfl
              · refine s_ixL (.inl (.inl h20)) rfl ?_
                walk_at "rd"
                refine s_app t20 (by simp; omega) ?_
                exact fin _ ⟨_, ⟨o1, o2, o3, perm⟩, dg1⟩
              · refine s_ixL (.inl (.inl h20)) rfl ?_
                walk_at "rd"
                refine s_app t20 (by simp; omega) ?_
                exact fin _ ⟨_, ⟨o2, o1, Ne.symm o3, back_perm perm⟩, dg2⟩
          · walk_at "rd"
            exact ⟨_, _, _, _, _, _, F12, _, rfl, r14, sF, ft12, t14, by simp; omega, by simp; omega, hacc2⟩
      · rintro σ Hx ⟨y9, y10, y11, y12, y13, y14, Fx, acc, rfl, rx, sx, fx, hx, l1, l2, hacc⟩
        walk_at "rd"
        refine .inl ⟨lt, _, rfl, .inl (.inl hx), fun sl nsl => ?_⟩
        rw [cut6]
        have r21 := rx.new (o := .lst (acc.take 6)) nsl
        have s21 : Same Fx (upd Fx sl (.lst (acc.take 6))) := same_upd (sub_none rx.fh nsl)
        have f21 : (upd Fx sl (.lst (acc.take 6))) sl = some (.lst (acc.take 6)) := upd_same
        obtain ⟨gs, hgs, gok, gtx⟩ := gs_of (K := K) (F := Fx) (m := many) (n := size) (acc.take 6) fun v hv => hacc v (List.mem_of_mem_take hv)
        have glen : gs.length = (acc.take 6).length := by
          have := dpAll_len hgs
          rw [List.length_map] at this
          exact this.symm
        generalize upd Hx sl (.lst (acc.take 6)) = H21 at *
        generalize upd Fx sl (.lst (acc.take 6)) = F21 at *
        have bok : BOk ⟨hard, size, gs⟩ := by
          refine ⟨⟨?_, ?_⟩, hh9, ⟨?_, ?_⟩, ⟨?_, ?_⟩, fun g hg => ?_⟩
          · show 2 ≤ hard.length; omega
          · show hard.length ≤ 4; omega
          · show 1 ≤ size; omega
          · show size ≤ 3; omega
          · show 1 ≤ gs.length
            rw [glen, List.length_take]
            have : (turns : Int).toNat = turns := by simp
            omega
          · show gs.length ≤ 6
            rw [glen, List.length_take]
            omega
          · have := gok g hg
            show g.1 < hard.length ∧ g.2.1 < hard.length ∧ _
            rw [hardlen]
            exact this
        walk_at "rd"
        refine ⟨lh, sl, ⟨hard, size, gs⟩, F21, rfl, r21.fh, bok, sqL_mono (sx.trans s21) (.inl (.inl fh)),   .lst (.inl (.inl f21)) (dpAll_mono s21 hgs), ⟨_, .inl (.inl f21), gtx.mono s21⟩, fun m F' H' e' hm => ?_⟩
        exact q m _ F' H' bok (by show hard.length ≤ pl; omega) (by show size ≤ pc; omega) (r21.pure e') hm
end
end G

namespace G
open PySem PySem.Spec PyProof.Rows L2
local macro_rules | `(tactic| walk_at "lk") => `(tactic| first | assumption | exact rT_at | exact rL_at | exact upd_same | (refine sqT_mono ?_ (by assumption); assumption) | (refine sqL_mono ?_ (by assumption); assumption) | (refine rT_new (by assumption) ?_; walk_at "lk") | (refine rL_new (by assumption) ?_; walk_at "lk") | (refine rH_new (by assumption) ?_; walk_at "lk") | (refine rD_new (by assumption) ?_; walk_at "lk") | (refine dp_mono ?_ (by assumption); assumption))
local macro_rules | `(tactic| walk_at "r1") => `(tactic| first | ((with_reducible show tVar _ _ _ _); refine s_var rfl ?_) | with_reducible refine s_c ?_ | with_reducible refine s_op ?_ | with_reducible refine s_un ?_ | with_reducible refine s_neg ?_ | with_reducible refine s_test ?_ | with_reducible refine s_B ?_ | with_reducible refine s_bl ?_ | with_reducible refine s_not ?_ | with_reducible refine s_yes ?_ | with_reducible refine s_and ?_ | with_reducible refine s_or ?_ | with_reducible refine s_notV ?_ | with_reducible refine s_andV ?_ | with_reducible refine s_orV ?_ | with_reducible refine s_if ?_ | with_reducible refine s_cT ?_ | with_reducible refine s_cF ?_ | with_reducible refine s_nT ?_ | with_reducible refine s_nF ?_ | with_reducible refine s_addI ?_ | with_reducible refine s_eqI ?_ | with_reducible refine s_neI ?_ | with_reducible refine s_eqB ?_ | with_reducible refine s_neB ?_ | with_reducible refine s_I0 ?_ | with_reducible refine s_non ?_ | with_reducible refine s_int ?_ | with_reducible refine s_chain ?_ | with_reducible refine s_cons ?_ | with_reducible refine s_nil ?_ | with_reducible refine s_call ?_ | with_reducible refine s_cb ?_ | with_reducible refine s_meth ?_ | with_reducible refine s_make ?_ | with_reducible refine s_tup ?_ | with_reducible refine s_lst ?_ | with_reducible refine s_bm ?_ | with_reducible refine s_bm0 ?_ | with_reducible refine s_bmT ?_ | with_reducible refine s_fld ?_ | with_reducible refine s_dget ?_ | with_reducible refine s_sl ?_ | with_reducible refine s_part ?_ | with_reducible refine s_nopart ?_ | with_reducible refine s_seq ?_ | with_reducible refine s_next ?_ | with_reducible refine s_asg ?_ | with_reducible refine s_gn ?_ | with_reducible refine s_gc ?_ | with_reducible refine s_g0 ?_ | with_reducible refine s_gs ?_ | with_reducible refine s_ret ?_ | with_reducible refine s_ifS ?_ | with_reducible refine s_drop ?_ | with_reducible refine s_augS ?_ | ((with_reducible show tAug _ _ _ _ _ _); refine s_aug rfl ?_) | with_reducible refine s_ipI ?_ | with_reducible refine s_for ?_ | with_reducible refine s_iseq ?_ | with_reducible refine s_rng1 ?_ | with_reducible refine s_izip ?_ | with_reducible refine s_lc ?_ | with_reducible refine s_lc2 ?_ | with_reducible refine s_lstRg ?_ | with_reducible refine s_rg1 ?_ | with_reducible refine s_sfld ?_ | with_reducible refine s_ienum ?_ | with_reducible refine s_disp ?_ | with_reducible refine s_pc ?_ | with_reducible refine s_pn ?_)
local macro_rules | `(tactic| walk_at "rd") => `(tactic| repeat walk_at "r1")

section
variable {P : Program} {w : World} {K : PySem.W.Frag} {mg : Str → Option Value} {base : Heap} {C : Addr}
abbrev s__law_program : Stmt := topS 23
abbrev n__law_program : List Str := ["_law_model"]
def spProgram (K : PySem.W.Frag) (C : Addr) : Sp := fun vs H Q _ => ∃ m B F, vs = [.ref m] ∧ Same F H ∧ BOk B ∧ ModelAt K F m B ∧ ∀ b F' H', Ext F H F' H' → BenchAt K C F' b B → Q (.ref b) H'
abbrev s__law_stand : Stmt := topS 24
abbrev n__law_stand : List Str := ["_law_state", "_law_model", "_law_most", "_law_many", "_law_k"]
def spStand (K : PySem.W.Frag) : Sp := fun vs H Q _ => ∃ st s F m B, ∃ most : Int, vs = [.ref st, .ref m, .int most] ∧ 0 ≤ most ∧ most < 2 ^ 200 ∧ H st = some (.lst s) ∧ StOk s ∧ Same F (del H st) ∧ BOk B ∧ ModelAt K F m B ∧
  ∀ p (hs : List Int) F' H', SExt st F H F' H' → F' p = some (.tup (hs.map V.int)) → hs.length = B.heavy.length → (∀ h ∈ hs, -most ≤ h ∧ h ≤ most) → Q (.ref p) H'
def spLGrains (K : PySem.W.Frag) : Sp := fun vs H Q _ => ∃ m B s hs p, ∃ u v : Nat, vs = [.ref m, .ref s, .ref p] ∧ BOk B ∧ ModelAt K H m B ∧ SqT K H s (hs.map V.int) ∧ hs.length = B.heavy.length ∧ SqT K H p [.int u, .int v] ∧ u < B.heavy.length ∧ v < B.heavy.length ∧ Q (.int (grain B.heavy hs (u, v))) H
/-- the law's own bench, a stand, a grinding's number -/
structure LA (K : PySem.W.Frag) (H : Hp) (m s : Addr) (B : BD) (hs : List Int) (r : List (Nat × Nat)) (k : Nat) : Prop where
  ok : BOk B
  model : ModelAt K H m B
  stand : SqT K H s (hs.map V.int)
  len : hs.length = B.heavy.length
  row : B.meets[k]? = some r
theorem LA.mono {H H' : Hp} {b s : Addr} {B : BD} {hs : List Int} {r : List (Nat × Nat)} {k : Nat} (e : Same H H') (h : LA K H b s B hs r k) : LA K H' b s B hs r k := ⟨h.ok, h.model.mono e, sqT_mono e h.stand, h.len, h.row⟩
theorem LA.mem {H : Hp} {b s : Addr} {B : BD} {hs : List Int} {r : List (Nat × Nat)} {k : Nat} (h : LA K H b s B hs r k) : r ∈ B.meets := List.mem_of_getElem? h.row
def spLGround (K : PySem.W.Frag) : Sp := fun vs H Q _ => ∃ m B s hs r k, vs = [.ref m, .ref s, .int (k : Nat)] ∧ LA K H m s B hs r k ∧
  ∀ H' p p1 p2, Same H H' → H p = none → H p1 = none → H p2 = none → H' p = some (.tup [.ref p1, .ref p2]) → H' p1 = some (.tup ((after B.heavy hs r).map V.int)) → H' p2 = some (.tup ((dust B.heavy hs r).map V.int)) → Q (.ref p) H'
end
end G

namespace G.Q
open PySem PySem.Spec PyProof.Rows L2
local macro_rules | `(tactic| walk_at "ds") => `(tactic| skip)
local macro_rules | `(tactic| walk_at "ds") => `(tactic| dsimp only [List.set, wipeR, snd_cons, snd_nil])
local macro_rules | `(tactic| walk_at "d1") => `(tactic| ((first | with_reducible refine key_str ?_ | with_reducible refine ⟨_, rfl, ?_⟩ | with_reducible refine ⟨_, _, rfl, ?_⟩ | ((with_reducible show List.length _ ≤ 1000 ∧ _); refine len_ok (by rfl) ?_) | ((with_reducible show if D.isN _ = true then _ else _); first | refine s_nnT (by rfl) ?_ | refine s_nnF (by rfl) ?_) | ((with_reducible show if (!D.isN _) = true then _ else _); first | refine s_mnT (by rfl) ?_ | refine s_mnF (by rfl) ?_) | with_reducible refine s_cT ?_ | with_reducible refine s_cF ?_ | with_reducible refine s_nT ?_ | with_reducible refine s_nF ?_); walk_at "ds"))
local macro_rules | `(tactic| walk_at "d1") => `(tactic| ((with_reducible show WPs ..); (first | with_reducible refine wps_cons ?_ | with_reducible refine wps_nil ?_)))
local macro_rules | `(tactic| walk_at "d1") => `(tactic| ((with_reducible show WI ..); (with_reducible refine wi_rng1 ?_)))
local macro_rules | `(tactic| walk_at "d1") => `(tactic| ((with_reducible show WV ..); (with_reducible refine WI.wv ?_)))
local macro_rules | `(tactic| walk_at "d1") => `(tactic| ((with_reducible show WP ..); (first | with_reducible refine wp_no ?_ | with_reducible refine wp_some ?_)))
local macro_rules | `(tactic| walk_at "d1") => `(tactic| ((with_reducible show WOT ..); (first | with_reducible refine wot_new ?_ | with_reducible refine wot_disp1 ?_)))
local macro_rules | `(tactic| walk_at "d1") => `(tactic| ((with_reducible show WOK ..); (first | with_reducible refine wok_new ?_ | with_reducible refine wok_disp1 ?_)))
local macro_rules | `(tactic| walk_at "d1") => `(tactic| ((with_reducible show WD ..); (first | with_reducible refine wd_tup ?_ | with_reducible refine wd_lst ?_)))
local macro_rules | `(tactic| walk_at "d1") => `(tactic| ((with_reducible show WAD ..); (first | with_reducible refine wad_cons ?_ | with_reducible refine wad_nil ?_)))
local macro_rules | `(tactic| walk_at "d1") => `(tactic| ((with_reducible show DIn ..); (first | with_reducible refine din_I ?_ | with_reducible refine din_S ?_ | with_reducible refine din_T ?_)))
local macro_rules | `(tactic| walk_at "d1") => `(tactic| ((with_reducible show DGt ..); (first | with_reducible refine dgp_hard ?_ | with_reducible refine dgp_wide ?_ | with_reducible refine dgp_rows ?_ | with_reducible refine dgp_pairs ?_ | with_reducible refine dgp_many ?_ | with_reducible refine dg_hard ?_ | with_reducible refine dg_places ?_ | with_reducible refine dg_told ?_ | with_reducible refine dg_heavy ?_ | with_reducible refine dg_meets ?_)))
local macro_rules | `(tactic| walk_at "d1") => `(tactic| ((with_reducible show OU ..); (with_reducible refine ou_neg ?_)))
local macro_rules | `(tactic| walk_at "d1") => `(tactic| ((with_reducible show WAB ..); (first | with_reducible refine wab_cons ?_ | with_reducible refine wab_nil ?_)))
local macro_rules | `(tactic| walk_at "d1") => `(tactic| ((with_reducible show CRO ..); (first | with_reducible refine cr_listL ?_ | with_reducible refine cr_listT ?_ | with_reducible refine cr_listS ?_)))
local macro_rules | `(tactic| walk_at "d1") => `(tactic| ((with_reducible show WO ..); (first | with_reducible refine wo_lst ?_ | ((with_reducible show WO _ (tOp rMulS (tLst _) _) _ _); refine wo_rep ?_) | with_reducible refine wo_op ?_ | with_reducible refine wo_cb ?_ | with_reducible refine wo_rev ?_)))
local macro_rules | `(tactic| walk_at "d1") => `(tactic| ((with_reducible show CR ..); (first | with_reducible refine cr_lenDK ?_ | with_reducible refine cr_lenDT ?_ | with_reducible refine cr_lenL ?_ | with_reducible refine cr_lenT ?_ | with_reducible refine cr_lenS ?_ | with_reducible refine cr_lenX ?_ | with_reducible refine cr_tupX ?_ | with_reducible refine cr_sumS ?_ | with_reducible refine cr_sumLi ?_ | with_reducible refine cr_sumTi ?_ | with_reducible refine cr_allB ?_ | with_reducible refine cr_anyB ?_ | with_reducible refine cr_absI ?_ | with_reducible refine cr_int_i ?_ | with_reducible refine cr_int_b ?_ | with_reducible refine CRO.cr (cr_listL ?_) | with_reducible refine CRO.cr (cr_listT ?_) | with_reducible refine CRO.cr (cr_listS ?_) | with_reducible refine cr_tupLi ?_ | with_reducible refine cr_tupS ?_ | with_reducible refine cr_tupL ?_ | with_reducible refine cr_tupT ?_)))
local macro_rules | `(tactic| walk_at "d1") => `(tactic| ((with_reducible show WB ..); (first | ((with_reducible show WB _ (tVar _) _ _); first | refine wb_own rfl ?_ | refine wb_ownK rfl ?_ | refine wb_ownT rfl ?_ | refine wb_lkT rfl (by assumption) ?_ | refine wb_wl rfl ?_) | with_reducible refine WE.wb ?_)))
local macro_rules | `(tactic| walk_at "d1") => `(tactic| ((with_reducible show WGs ..); (first | with_reducible refine wgs_cons ?_ | with_reducible refine wgs_nil ?_ | with_reducible refine wgs_consM ?_ | with_reducible refine wgs_nilM ?_); walk_at "ds"))
local macro_rules | `(tactic| walk_at "d1") => `(tactic| ((with_reducible show WT ..); (first | with_reducible refine wt_test ?_ | with_reducible refine wt_B ?_ | with_reducible refine wt_not ?_ | with_reducible refine wt_and ?_ | with_reducible refine wt_or ?_ | with_reducible refine wt_yes ?_)))
local macro_rules | `(tactic| walk_at "d1") => `(tactic| ((with_reducible show OP ..); (first | with_reducible refine op_addSI ?_ | with_reducible refine op_I0i ?_ | with_reducible refine op_I0b ?_ | with_reducible refine op_eqII ?_ | with_reducible refine op_neII ?_ | with_reducible refine op_eqBB ?_ | with_reducible refine op_neBB ?_ | with_reducible refine op_eqSS ?_ | with_reducible refine op_neSS ?_ | with_reducible refine op_isNn ?_ | with_reducible refine op_notNn ?_ | with_reducible refine op_ip ?_ | ((with_reducible show OP _ (rIx _) (D.tup _) (D.int _) _); refine op_ixT (by rfl) ?_) | ((with_reducible show OP _ (rIx _) (D.lst _) (D.int _) _); refine op_ixL (by rfl) ?_))))
local macro_rules | `(tactic| walk_at "d1") => `(tactic| ((with_reducible show WG ..); (first | with_reducible refine wg_name (by first | trivial | decide) ?_ | with_reducible refine wg_tup rfl ?_ | with_reducible refine wg_stn rfl ?_ | with_reducible refine wg_lst rfl ?_); walk_at "ds"))
local macro_rules | `(tactic| walk_at "d1") => `(tactic| ((with_reducible show WA ..); (first | with_reducible refine wa_cons ?_ | with_reducible refine wa_nil ?_)))
local macro_rules | `(tactic| walk_at "d1") => `(tactic| ((with_reducible show WS ..); (first | with_reducible refine ws_seq ?_ | with_reducible refine ws_next ?_ | with_reducible refine ws_ret ?_ | with_reducible refine ws_retN ?_ | with_reducible refine ws_if ?_ | ((with_reducible show WS _ (tDrop (tBM _ "list" _ (tVar _) _)) _ _ _ _ _); refine ws_mt rfl ?_) | ((with_reducible show WS _ (tDrop (tBM0 _ "list" _ (tVar _))) _ _ _ _ _); refine ws_mt0 rfl ?_) | ((with_reducible show WS _ (tAsg (tBM _ "list" _ (tVar _) _) (gName _)) _ _ _ _ _); refine ws_mtS rfl ?_) | ((with_reducible show WS _ (tAsg (tBM0 _ "list" _ (tVar _)) (gName _)) _ _ _ _ _); refine ws_mt0S rfl ?_) | ((with_reducible show WS _ (tAsgO (tDisp _) _) _ _ _ _ _); refine ws_setOwnK ?_) | ((with_reducible show WS _ (tAsgO tDNewK _) _ _ _ _ _); refine ws_setOwnK ?_) | ((with_reducible show WS _ (tAsgO (tDc _ _ _ _ _ _) _) _ _ _ _ _); refine ws_setOwnK ?_) | ((with_reducible show WS _ (tAsgO tDNewT _) _ _ _ _ _); refine ws_setOwnT ?_) | ((with_reducible show WS _ (tAsgO (tDispT1 _ _) _) _ _ _ _ _); refine ws_setOwnT ?_) | with_reducible refine ws_setOwn ?_ | ((with_reducible show WS _ (tAsg _ (gSub (tVar _) _ rSetL)) _ _ _ _ _); first | refine ws_setItem rfl ?_ | refine ws_setWl rfl ?_) | ((with_reducible show WS _ (tAugS (tVar _) _ _ _ _ _) _ _ _ _ _); refine ws_augItem rfl ?_) | ((with_reducible show WS _ (sDPut (tVar _) _ _) _ _ _ _ _); first | refine ws_dput rfl ?_ | refine ws_dputT rfl ?_) | ((with_reducible show WS _ (tDrop (tBM _ "dict" rUpd (tVar _) _)) _ _ _ _ _); refine ws_upd rfl ?_) | ((with_reducible show WS _ (tAsg (tCall (spDS _ _ _) _ _ _) (gName _)) _ _ _ _ _); refine ws_asgS ?_) | with_reducible refine ws_asg ?_ | with_reducible refine ws_drop ?_ | ((with_reducible show WS _ (tAug _ _ _) _ _ _ _ _); refine ws_aug rfl ?_) | with_reducible refine ws_par ?_ | with_reducible refine ws_break ?_ | with_reducible refine ws_cont ?_); walk_at "ds"))
local macro_rules | `(tactic| walk_at "d1") => `(tactic| ((with_reducible show WE ..); (first | ((with_reducible show WE _ (tVar _) _ _); refine we_var rfl ?_) | with_reducible refine we_op ?_ | with_reducible refine we_call ?_ | with_reducible refine we_int ?_ | with_reducible refine we_str ?_ | with_reducible refine we_bl ?_ | with_reducible refine we_non ?_ | with_reducible refine we_isi ?_ | with_reducible refine we_notV ?_ | with_reducible refine we_andV ?_ | with_reducible refine we_orV ?_ | with_reducible refine we_if ?_ | with_reducible refine we_chain ?_ | with_reducible refine we_un ?_ | with_reducible refine we_meth (by decide) ?_ | with_reducible refine we_tupK2 ?_ | with_reducible refine we_tup ?_ | with_reducible refine WO.we (wo_lst ?_) | with_reducible refine we_cb ?_ | ((with_reducible show WE _ (tFld _ _ "hard") _ _); refine we_hard (by assumption) ?_) | ((with_reducible show WE _ (tFld _ _ "heavy") _ _); refine we_heavy (by assumption) ?_) | ((with_reducible show WE _ (tFld _ _ "places") _ _); refine we_places (by assumption) ?_) | ((with_reducible show WE _ (tFld _ _ "told") _ _); refine we_told (by assumption) ?_) | ((with_reducible show WE _ (tFld _ _ "meets") _ _); refine we_meets (by assumption) ?_) | with_reducible refine we_din ?_ | with_reducible refine we_dnotin ?_ | ((with_reducible show WE _ (tDGet (tVar _) _) _ _); refine we_dgetL (by assumption) rfl ?_) | with_reducible refine we_dget ?_ | with_reducible refine we_idx ?_ | with_reducible refine WO.we (wo_rev ?_))))
local macro_rules | `(tactic| walk_at "dz") => `(tactic| skip)
local macro_rules | `(tactic| walk_at "dz") => `(tactic| (dsimp only [List.set, wipeR, snd_cons, snd_nil]; repeat walk_at "d1"))
local macro_rules | `(tactic| walk_at "dw") => `(tactic| (walk_at "ds"; (repeat walk_at "d1"); walk_at "dz"))
local macro_rules | `(tactic| walk_at "c1") => `(tactic| (first | ((with_reducible show Wl _ _ → _); intro _) | ((with_reducible show ∀ _ : HO, Wl _ _ → _); intro _ _)))
local macro_rules | `(tactic| walk_at "c1") => `(tactic| ((with_reducible show CI ..); (with_reducible refine c_rng1 ?_)))
local macro_rules | `(tactic| walk_at "c1") => `(tactic| ((with_reducible show CT ..); (with_reducible refine c_test ?_)))
local macro_rules | `(tactic| walk_at "c1") => `(tactic| ((with_reducible show CA ..); (first | with_reducible refine ca_cons ?_ | with_reducible refine ca_nil rfl (by assumption) ?_)))
local macro_rules | `(tactic| walk_at "c1") => `(tactic| ((with_reducible show CE ..); (first | with_reducible refine c_call rfl ?_ | with_reducible refine c_op ?_ | ((with_reducible show CE _ _ _ (tVar _) _ _); refine CE.of rfl (by assumption) ?_) | ((with_reducible show CE _ _ _ (tC _) _ _); refine CE.of rfl (by assumption) ?_) | with_reducible refine c_lst ?_ | with_reducible refine c_tup ?_)))
local macro_rules | `(tactic| walk_at "cd") => `(tactic| (walk_at "d1"))
local macro_rules | `(tactic| walk_at "cd") => `(tactic| (walk_at "c1"; walk_at "ds"))
local macro_rules | `(tactic| walk_at "cz") => `(tactic| skip)
local macro_rules | `(tactic| walk_at "cz") => `(tactic| (dsimp only [List.set, wipeR, snd_cons, snd_nil]; repeat walk_at "cd"))
local macro_rules | `(tactic| walk_at "cw") => `(tactic| (walk_at "ds"; (repeat walk_at "cd"); walk_at "cz"))

theorem all_isIntD (ns : List Int) : (ns.map D.int).all isIntD = true := by
  rw [List.all_map]
  exact List.all_eq_true.mpr fun _ _ => rfl
section
variable {P : Program} {w : World} {K : PySem.W.Frag} {mg : Str → Option Value} {base : Heap} {C : Addr}
def cDone : Ct := fun ds k => ∃ B hs r, ∃ n : Nat, ds = [.bench B, tI hs, .int n] ∧ BOk B ∧ hs.length = B.heavy.length ∧ B.meets[n]? = some r ∧ k (.tup [tI (after B.heavy hs r), tI (dust B.heavy hs r)])
def cTakesOff : Ct := fun ds k => ∃ B hs r, ∃ n : Nat, ds = [.bench B, tI hs, .int n] ∧ BOk B ∧ hs.length = B.heavy.length ∧ B.meets[n]? = some r ∧ k (.bl (takesOff B.heavy hs r))
def cTaking : Ct := fun ds k => ∃ B hs, ds = [.bench B, tI hs] ∧ BOk B ∧ hs.length = B.heavy.length ∧ k (lI (taking B hs))
/-- is it a stand: a tuple of things of known kinds, or no tuple -/
def cIsStand : Ct := fun ds k => ∃ B x, ds = [.bench B, x] ∧ BOk B ∧ ((∃ j l, isSq x = some (j, l) ∧ x.ty = some "tuple" ∧ l.length ≤ 1000 ∧ (∀ d ∈ l, d.ty.isSome = true) ∧ k (.bl (decide (l.length = B.heavy.length) && l.all isIntD))) ∨ (x.ty.isSome = true ∧ x.ty ≠ some "tuple" ∧ k (.bl false)))
def cSureStand : Ct := fun ds k => ∃ B hs, ds = [.bench B, tI hs] ∧ BOk B ∧ hs.length = B.heavy.length ∧ k .non
def cSureNumber : Ct := fun ds k => ∃ B, ∃ n : Nat, ds = [.bench B, .int n] ∧ BOk B ∧ n < B.told.length ∧ k .non
def cSureRow : Ct := fun ds k => ∃ B ks, ds = [.bench B, lI (natL ks)] ∧ BOk B ∧ (∀ n ∈ ks, n < B.told.length) ∧ k .non
def dustsD (l : List (List Int)) : D := .lst (l.map tI)
def cRows : Ct := fun ds k => ∃ B hs ks, ds = [.bench B, tI hs, lI (natL ks)] ∧ BOk B ∧ hs.length = B.heavy.length ∧ (∀ n ∈ ks, n < B.meets.length) ∧ ks.length ≤ 99999 ∧ k (.tup [tI (runH B.heavy B.meets hs ks), .lst ((runD B.heavy B.meets hs ks).map tI)])
def cIsRest : Ct := fun ds k => ∃ B hs, ds = [.bench B, tI hs] ∧ BOk B ∧ hs.length = B.heavy.length ∧ k (.bl (decide (taking B hs = [])))
end
end G.Q

namespace G
open PySem PySem.Spec PyProof.Rows L2
/-! ### weights and how they fall -/
def wt (w hs : List Int) : Int := (List.zipWith (fun a h => a * h * h) w hs).sum
def fallP (w hs : List Int) (p : Nat × Nat) (g : Int) : Int := w.getD p.1 0 * w.getD p.2 0 * g * (2 * (hs.getD p.1 0 + hs.getD p.2 0) - (w.getD p.1 0 + w.getD p.2 0) * g)
def fallR (w hs : List Int) (r : List (Nat × Nat)) : Int := (r.map fun p => fallP w hs p (grain w hs p)).sum
def leP (w : List Int) (p : Nat × Nat) : Int := w.getD p.1 0 * w.getD p.2 0 * (w.getD p.1 0 + w.getD p.2 0)
def leastL (B : BD) : List Int := B.meets.flatten.map (leP B.heavy)
def fallS (w hs : List Int) : List (Nat × Nat) → List Int → Int
  | p :: r, g :: gs => fallP w hs p g + fallS w hs r gs
  | _, _ => 0
theorem BOk.w1 {B : BD} (ok : BOk B) {r : List (Nat × Nat)} (hr : r ∈ B.meets) : ∀ p ∈ r, 1 ≤ B.heavy.getD p.1 0 ∧ 1 ≤ B.heavy.getD p.2 0 := fun p hp =>
  let ⟨a, b⟩ := ok.row hr hp
  ⟨(ok.w9 a).1, (ok.w9 b).1⟩
end G

namespace G.Q
open PySem PySem.Spec PyProof.Rows L2
local macro_rules | `(tactic| walk_at "ds") => `(tactic| skip)
local macro_rules | `(tactic| walk_at "ds") => `(tactic| dsimp only [List.set, wipeR, snd_cons, snd_nil])
local macro_rules | `(tactic| walk_at "d1") => `(tactic| ((first | with_reducible refine key_str ?_ | with_reducible refine ⟨_, rfl, ?_⟩ | with_reducible refine ⟨_, _, rfl, ?_⟩ | ((with_reducible show List.length _ ≤ 1000 ∧ _); refine len_ok (by rfl) ?_) | ((with_reducible show if D.isN _ = true then _ else _); first | refine s_nnT (by rfl) ?_ | refine s_nnF (by rfl) ?_) | ((with_reducible show if (!D.isN _) = true then _ else _); first | refine s_mnT (by rfl) ?_ | refine s_mnF (by rfl) ?_) | with_reducible refine s_cT ?_ | with_reducible refine s_cF ?_ | with_reducible refine s_nT ?_ | with_reducible refine s_nF ?_); walk_at "ds"))
local macro_rules | `(tactic| walk_at "d1") => `(tactic| ((with_reducible show WPs ..); (first | with_reducible refine wps_cons ?_ | with_reducible refine wps_nil ?_)))
local macro_rules | `(tactic| walk_at "d1") => `(tactic| ((with_reducible show WI ..); (with_reducible refine wi_rng1 ?_)))
local macro_rules | `(tactic| walk_at "d1") => `(tactic| ((with_reducible show WV ..); (with_reducible refine WI.wv ?_)))
local macro_rules | `(tactic| walk_at "d1") => `(tactic| ((with_reducible show WP ..); (first | with_reducible refine wp_no ?_ | with_reducible refine wp_some ?_)))
local macro_rules | `(tactic| walk_at "d1") => `(tactic| ((with_reducible show WOT ..); (first | with_reducible refine wot_new ?_ | with_reducible refine wot_disp1 ?_)))
local macro_rules | `(tactic| walk_at "d1") => `(tactic| ((with_reducible show WOK ..); (first | with_reducible refine wok_new ?_ | with_reducible refine wok_disp1 ?_)))
local macro_rules | `(tactic| walk_at "d1") => `(tactic| ((with_reducible show WD ..); (first | with_reducible refine wd_tup ?_ | with_reducible refine wd_lst ?_)))
local macro_rules | `(tactic| walk_at "d1") => `(tactic| ((with_reducible show WAD ..); (first | with_reducible refine wad_cons ?_ | with_reducible refine wad_nil ?_)))
local macro_rules | `(tactic| walk_at "d1") => `(tactic| ((with_reducible show DIn ..); (first | with_reducible refine din_I ?_ | with_reducible refine din_S ?_ | with_reducible refine din_T ?_)))
local macro_rules | `(tactic| walk_at "d1") => `(tactic| ((with_reducible show DGt ..); (first | with_reducible refine dgp_hard ?_ | with_reducible refine dgp_wide ?_ | with_reducible refine dgp_rows ?_ | with_reducible refine dgp_pairs ?_ | with_reducible refine dgp_many ?_ | with_reducible refine dg_hard ?_ | with_reducible refine dg_places ?_ | with_reducible refine dg_told ?_ | with_reducible refine dg_heavy ?_ | with_reducible refine dg_meets ?_)))
local macro_rules | `(tactic| walk_at "d1") => `(tactic| ((with_reducible show OU ..); (with_reducible refine ou_neg ?_)))
local macro_rules | `(tactic| walk_at "d1") => `(tactic| ((with_reducible show WAB ..); (first | with_reducible refine wab_cons ?_ | with_reducible refine wab_nil ?_)))
local macro_rules | `(tactic| walk_at "d1") => `(tactic| ((with_reducible show CRO ..); (first | with_reducible refine cr_listL ?_ | with_reducible refine cr_listT ?_ | with_reducible refine cr_listS ?_)))
local macro_rules | `(tactic| walk_at "d1") => `(tactic| ((with_reducible show WO ..); (first | with_reducible refine wo_lst ?_ | ((with_reducible show WO _ (tOp rMulS (tLst _) _) _ _); refine wo_rep ?_) | with_reducible refine wo_op ?_ | with_reducible refine wo_cb ?_ | with_reducible refine wo_rev ?_)))
local macro_rules | `(tactic| walk_at "d1") => `(tactic| ((with_reducible show CR ..); (first | with_reducible refine cr_lenDK ?_ | with_reducible refine cr_lenDT ?_ | with_reducible refine cr_lenL ?_ | with_reducible refine cr_lenT ?_ | with_reducible refine cr_lenS ?_ | with_reducible refine cr_lenX ?_ | with_reducible refine cr_tupX ?_ | with_reducible refine cr_sumS ?_ | with_reducible refine cr_sumLi ?_ | with_reducible refine cr_sumTi ?_ | with_reducible refine cr_allB ?_ | with_reducible refine cr_anyB ?_ | with_reducible refine cr_absI ?_ | with_reducible refine cr_int_i ?_ | with_reducible refine cr_int_b ?_ | with_reducible refine CRO.cr (cr_listL ?_) | with_reducible refine CRO.cr (cr_listT ?_) | with_reducible refine CRO.cr (cr_listS ?_) | with_reducible refine cr_tupLi ?_ | with_reducible refine cr_tupS ?_ | with_reducible refine cr_tupL ?_ | with_reducible refine cr_tupT ?_)))
local macro_rules | `(tactic| walk_at "d1") => `(tactic| ((with_reducible show WB ..); (first | ((with_reducible show WB _ (tVar _) _ _); first | refine wb_own rfl ?_ | refine wb_ownK rfl ?_ | refine wb_ownT rfl ?_ | refine wb_lkT rfl (by assumption) ?_ | refine wb_wl rfl ?_) | with_reducible refine WE.wb ?_)))
local macro_rules | `(tactic| walk_at "d1") => `(tactic| ((with_reducible show WGs ..); (first | with_reducible refine wgs_cons ?_ | with_reducible refine wgs_nil ?_ | with_reducible refine wgs_consM ?_ | with_reducible refine wgs_nilM ?_); walk_at "ds"))
local macro_rules | `(tactic| walk_at "d1") => `(tactic| ((with_reducible show WT ..); (first | with_reducible refine wt_test ?_ | with_reducible refine wt_B ?_ | with_reducible refine wt_not ?_ | with_reducible refine wt_and ?_ | with_reducible refine wt_or ?_ | with_reducible refine wt_yes ?_)))
local macro_rules | `(tactic| walk_at "d1") => `(tactic| ((with_reducible show OP ..); (first | with_reducible refine op_addSI ?_ | with_reducible refine op_I0i ?_ | with_reducible refine op_I0b ?_ | with_reducible refine op_eqII ?_ | with_reducible refine op_neII ?_ | with_reducible refine op_eqBB ?_ | with_reducible refine op_neBB ?_ | with_reducible refine op_eqSS ?_ | with_reducible refine op_neSS ?_ | with_reducible refine op_isNn ?_ | with_reducible refine op_notNn ?_ | with_reducible refine op_ip ?_ | ((with_reducible show OP _ (rIx _) (D.tup _) (D.int _) _); refine op_ixT (by rfl) ?_) | ((with_reducible show OP _ (rIx _) (D.lst _) (D.int _) _); refine op_ixL (by rfl) ?_))))
local macro_rules | `(tactic| walk_at "d1") => `(tactic| ((with_reducible show WG ..); (first | with_reducible refine wg_name (by first | trivial | decide) ?_ | with_reducible refine wg_tup rfl ?_ | with_reducible refine wg_stn rfl ?_ | with_reducible refine wg_lst rfl ?_); walk_at "ds"))
local macro_rules | `(tactic| walk_at "d1") => `(tactic| ((with_reducible show WA ..); (first | with_reducible refine wa_cons ?_ | with_reducible refine wa_nil ?_)))
local macro_rules | `(tactic| walk_at "d1") => `(tactic| ((with_reducible show WS ..); (first | with_reducible refine ws_seq ?_ | with_reducible refine ws_next ?_ | with_reducible refine ws_ret ?_ | with_reducible refine ws_retN ?_ | with_reducible refine ws_if ?_ | ((with_reducible show WS _ (tDrop (tBM _ "list" _ (tVar _) _)) _ _ _ _ _); refine ws_mt rfl ?_) | ((with_reducible show WS _ (tDrop (tBM0 _ "list" _ (tVar _))) _ _ _ _ _); refine ws_mt0 rfl ?_) | ((with_reducible show WS _ (tAsg (tBM _ "list" _ (tVar _) _) (gName _)) _ _ _ _ _); refine ws_mtS rfl ?_) | ((with_reducible show WS _ (tAsg (tBM0 _ "list" _ (tVar _)) (gName _)) _ _ _ _ _); refine ws_mt0S rfl ?_) | ((with_reducible show WS _ (tAsgO (tDisp _) _) _ _ _ _ _); refine ws_setOwnK ?_) | ((with_reducible show WS _ (tAsgO tDNewK _) _ _ _ _ _); refine ws_setOwnK ?_) | ((with_reducible show WS _ (tAsgO (tDc _ _ _ _ _ _) _) _ _ _ _ _); refine ws_setOwnK ?_) | ((with_reducible show WS _ (tAsgO tDNewT _) _ _ _ _ _); refine ws_setOwnT ?_) | ((with_reducible show WS _ (tAsgO (tDispT1 _ _) _) _ _ _ _ _); refine ws_setOwnT ?_) | with_reducible refine ws_setOwn ?_ | ((with_reducible show WS _ (tAsg _ (gSub (tVar _) _ rSetL)) _ _ _ _ _); first | refine ws_setItem rfl ?_ | refine ws_setWl rfl ?_) | ((with_reducible show WS _ (tAugS (tVar _) _ _ _ _ _) _ _ _ _ _); refine ws_augItem rfl ?_) | ((with_reducible show WS _ (sDPut (tVar _) _ _) _ _ _ _ _); first | refine ws_dput rfl ?_ | refine ws_dputT rfl ?_) | ((with_reducible show WS _ (tDrop (tBM _ "dict" rUpd (tVar _) _)) _ _ _ _ _); refine ws_upd rfl ?_) | ((with_reducible show WS _ (tAsg (tCall (spDS _ _ _) _ _ _) (gName _)) _ _ _ _ _); refine ws_asgS ?_) | with_reducible refine ws_asg ?_ | with_reducible refine ws_drop ?_ | ((with_reducible show WS _ (tAug _ _ _) _ _ _ _ _); refine ws_aug rfl ?_) | with_reducible refine ws_par ?_ | with_reducible refine ws_break ?_ | with_reducible refine ws_cont ?_); walk_at "ds"))
local macro_rules | `(tactic| walk_at "d1") => `(tactic| ((with_reducible show WE ..); (first | ((with_reducible show WE _ (tVar _) _ _); refine we_var rfl ?_) | with_reducible refine we_op ?_ | with_reducible refine we_call ?_ | with_reducible refine we_int ?_ | with_reducible refine we_str ?_ | with_reducible refine we_bl ?_ | with_reducible refine we_non ?_ | with_reducible refine we_isi ?_ | with_reducible refine we_notV ?_ | with_reducible refine we_andV ?_ | with_reducible refine we_orV ?_ | with_reducible refine we_if ?_ | with_reducible refine we_chain ?_ | with_reducible refine we_un ?_ | with_reducible refine we_meth (by decide) ?_ | with_reducible refine we_tupK2 ?_ | with_reducible refine we_tup ?_ | with_reducible refine WO.we (wo_lst ?_) | with_reducible refine we_cb ?_ | ((with_reducible show WE _ (tFld _ _ "hard") _ _); refine we_hard (by assumption) ?_) | ((with_reducible show WE _ (tFld _ _ "heavy") _ _); refine we_heavy (by assumption) ?_) | ((with_reducible show WE _ (tFld _ _ "places") _ _); refine we_places (by assumption) ?_) | ((with_reducible show WE _ (tFld _ _ "told") _ _); refine we_told (by assumption) ?_) | ((with_reducible show WE _ (tFld _ _ "meets") _ _); refine we_meets (by assumption) ?_) | with_reducible refine we_din ?_ | with_reducible refine we_dnotin ?_ | ((with_reducible show WE _ (tDGet (tVar _) _) _ _); refine we_dgetL (by assumption) rfl ?_) | with_reducible refine we_dget ?_ | with_reducible refine we_idx ?_ | with_reducible refine WO.we (wo_rev ?_))))
local macro_rules | `(tactic| walk_at "dz") => `(tactic| skip)
local macro_rules | `(tactic| walk_at "dz") => `(tactic| (dsimp only [List.set, wipeR, snd_cons, snd_nil]; repeat walk_at "d1"))
local macro_rules | `(tactic| walk_at "dw") => `(tactic| (walk_at "ds"; (repeat walk_at "d1"); walk_at "dz"))
local macro_rules | `(tactic| walk_at "c1") => `(tactic| (first | ((with_reducible show Wl _ _ → _); intro _) | ((with_reducible show ∀ _ : HO, Wl _ _ → _); intro _ _)))
local macro_rules | `(tactic| walk_at "c1") => `(tactic| ((with_reducible show CI ..); (with_reducible refine c_rng1 ?_)))
local macro_rules | `(tactic| walk_at "c1") => `(tactic| ((with_reducible show CT ..); (with_reducible refine c_test ?_)))
local macro_rules | `(tactic| walk_at "c1") => `(tactic| ((with_reducible show CA ..); (first | with_reducible refine ca_cons ?_ | with_reducible refine ca_nil rfl (by assumption) ?_)))
local macro_rules | `(tactic| walk_at "c1") => `(tactic| ((with_reducible show CE ..); (first | with_reducible refine c_call rfl ?_ | with_reducible refine c_op ?_ | ((with_reducible show CE _ _ _ (tVar _) _ _); refine CE.of rfl (by assumption) ?_) | ((with_reducible show CE _ _ _ (tC _) _ _); refine CE.of rfl (by assumption) ?_) | with_reducible refine c_lst ?_ | with_reducible refine c_tup ?_)))
local macro_rules | `(tactic| walk_at "cd") => `(tactic| (walk_at "d1"))
local macro_rules | `(tactic| walk_at "cd") => `(tactic| (walk_at "c1"; walk_at "ds"))
local macro_rules | `(tactic| walk_at "cz") => `(tactic| skip)
local macro_rules | `(tactic| walk_at "cz") => `(tactic| (dsimp only [List.set, wipeR, snd_cons, snd_nil]; repeat walk_at "cd"))
local macro_rules | `(tactic| walk_at "cw") => `(tactic| (walk_at "ds"; (repeat walk_at "cd"); walk_at "cz"))

/-- heights whose weight is no giant -/
def Sm (B : BD) (hs : List Int) : Prop := wt B.heavy hs < 2 ^ 1000
theorem w9 {B : BD} (ok : BOk B) {i : Nat} (h : i < B.heavy.length) : 1 ≤ B.heavy.getD i 0 ∧ B.heavy.getD i 0 ≤ 9 := ok.heavy _ (getD_mem h)
/-- the least of all meetings' falls -/
def IsLeast (B : BD) (m : Int) : Prop := m ∈ leastL B ∧ ∀ y ∈ leastL B, m ≤ y
theorem IsLeast.eq {B : BD} {m n : Int} (a : IsLeast B m) (b : IsLeast B n) : m = n := Int.le_antisymm (a.2 n b.1) (b.2 m a.1)
section
variable {P : Program} {w : World} {K : PySem.W.Frag} {mg : Str → Option Value} {base : Heap} {C : Addr}
abbrev pairsD (ps : List (Nat × Nat)) : D := .lst (ps.map pDD)
def cMeetings : Ct := fun ds k => ∃ B, ds = [.bench B] ∧ BOk B ∧ k (pairsD B.meets.flatten)
abbrev s_Bench_meetings : Stmt := inClass (topS 17) 8
abbrev n_Bench_meetings : List Str := ["self", "pairs", "pair"]
def cWeight : Ct := fun ds k => ∃ B hs, ds = [.bench B, tI hs] ∧ BOk B ∧ hs.length = B.heavy.length ∧ Sm B hs ∧ k (.int (wt B.heavy hs))
def cFallAt : Ct := fun ds k => ∃ B hs, ∃ (p : Nat × Nat) (g : Int), ds = [.bench B, tI hs, pDD p, .int g] ∧ BOk B ∧ hs.length = B.heavy.length ∧ Sm B hs ∧ p.1 < B.heavy.length ∧ p.2 < B.heavy.length ∧ g.natAbs ≤ 2 ^ 501 ∧ k (.int (fallP B.heavy hs p g))
/-- what falls at each grinding of a row -/
def runF (w : List Int) (ms : List (List (Nat × Nat))) : List Int → List Nat → List Int
  | _, [] => []
  | hs, k :: ks => fallR w hs (ms.getD k []) :: runF w ms (after w hs (ms.getD k [])) ks
def cFalls : Ct := fun ds k => ∃ B hs ks, ds = [.bench B, tI hs, lI (natL ks)] ∧ BOk B ∧ hs.length = B.heavy.length ∧ Sm B hs ∧ (∀ n ∈ ks, n < B.meets.length) ∧ ks.length ≤ 99999 ∧ k (lI (runF B.heavy B.meets hs ks))
def cLeast : Ct := fun ds k => ∃ B, ds = [.bench B] ∧ BOk B ∧ ∀ m, IsLeast B m → k (.int m)
def cBound : Ct := fun ds k => ∃ B hs, ds = [.bench B, tI hs] ∧ BOk B ∧ hs.length = B.heavy.length ∧ Sm B hs ∧ ∀ m, IsLeast B m → k (.int (wt B.heavy hs / m))
end
end G.Q

namespace G.Q
open PySem PySem.Spec PyProof.Rows L2
local macro_rules | `(tactic| walk_at "ds") => `(tactic| skip)
local macro_rules | `(tactic| walk_at "ds") => `(tactic| dsimp only [List.set, wipeR, snd_cons, snd_nil])
local macro_rules | `(tactic| walk_at "d1") => `(tactic| ((first | with_reducible refine key_str ?_ | with_reducible refine ⟨_, rfl, ?_⟩ | with_reducible refine ⟨_, _, rfl, ?_⟩ | ((with_reducible show List.length _ ≤ 1000 ∧ _); refine len_ok (by rfl) ?_) | ((with_reducible show if D.isN _ = true then _ else _); first | refine s_nnT (by rfl) ?_ | refine s_nnF (by rfl) ?_) | ((with_reducible show if (!D.isN _) = true then _ else _); first | refine s_mnT (by rfl) ?_ | refine s_mnF (by rfl) ?_) | with_reducible refine s_cT ?_ | with_reducible refine s_cF ?_ | with_reducible refine s_nT ?_ | with_reducible refine s_nF ?_); walk_at "ds"))
local macro_rules | `(tactic| walk_at "d1") => `(tactic| ((with_reducible show WPs ..); (first | with_reducible refine wps_cons ?_ | with_reducible refine wps_nil ?_)))
local macro_rules | `(tactic| walk_at "d1") => `(tactic| ((with_reducible show WI ..); (with_reducible refine wi_rng1 ?_)))
local macro_rules | `(tactic| walk_at "d1") => `(tactic| ((with_reducible show WV ..); (with_reducible refine WI.wv ?_)))
local macro_rules | `(tactic| walk_at "d1") => `(tactic| ((with_reducible show WP ..); (first | with_reducible refine wp_no ?_ | with_reducible refine wp_some ?_)))
local macro_rules | `(tactic| walk_at "d1") => `(tactic| ((with_reducible show WOT ..); (first | with_reducible refine wot_new ?_ | with_reducible refine wot_disp1 ?_)))
local macro_rules | `(tactic| walk_at "d1") => `(tactic| ((with_reducible show WOK ..); (first | with_reducible refine wok_new ?_ | with_reducible refine wok_disp1 ?_)))
local macro_rules | `(tactic| walk_at "d1") => `(tactic| ((with_reducible show WD ..); (first | with_reducible refine wd_tup ?_ | with_reducible refine wd_lst ?_)))
local macro_rules | `(tactic| walk_at "d1") => `(tactic| ((with_reducible show WAD ..); (first | with_reducible refine wad_cons ?_ | with_reducible refine wad_nil ?_)))
local macro_rules | `(tactic| walk_at "d1") => `(tactic| ((with_reducible show DIn ..); (first | with_reducible refine din_I ?_ | with_reducible refine din_S ?_ | with_reducible refine din_T ?_)))
local macro_rules | `(tactic| walk_at "d1") => `(tactic| ((with_reducible show DGt ..); (first | with_reducible refine dgp_hard ?_ | with_reducible refine dgp_wide ?_ | with_reducible refine dgp_rows ?_ | with_reducible refine dgp_pairs ?_ | with_reducible refine dgp_many ?_ | with_reducible refine dg_hard ?_ | with_reducible refine dg_places ?_ | with_reducible refine dg_told ?_ | with_reducible refine dg_heavy ?_ | with_reducible refine dg_meets ?_)))
local macro_rules | `(tactic| walk_at "d1") => `(tactic| ((with_reducible show OU ..); (with_reducible refine ou_neg ?_)))
local macro_rules | `(tactic| walk_at "d1") => `(tactic| ((with_reducible show WAB ..); (first | with_reducible refine wab_cons ?_ | with_reducible refine wab_nil ?_)))
local macro_rules | `(tactic| walk_at "d1") => `(tactic| ((with_reducible show CRO ..); (first | with_reducible refine cr_listL ?_ | with_reducible refine cr_listT ?_ | with_reducible refine cr_listS ?_)))
local macro_rules | `(tactic| walk_at "d1") => `(tactic| ((with_reducible show WO ..); (first | with_reducible refine wo_lst ?_ | ((with_reducible show WO _ (tOp rMulS (tLst _) _) _ _); refine wo_rep ?_) | with_reducible refine wo_op ?_ | with_reducible refine wo_cb ?_ | with_reducible refine wo_rev ?_)))
local macro_rules | `(tactic| walk_at "d1") => `(tactic| ((with_reducible show CR ..); (first | with_reducible refine cr_lenDK ?_ | with_reducible refine cr_lenDT ?_ | with_reducible refine cr_lenL ?_ | with_reducible refine cr_lenT ?_ | with_reducible refine cr_lenS ?_ | with_reducible refine cr_lenX ?_ | with_reducible refine cr_tupX ?_ | with_reducible refine cr_sumS ?_ | with_reducible refine cr_sumLi ?_ | with_reducible refine cr_sumTi ?_ | with_reducible refine cr_allB ?_ | with_reducible refine cr_anyB ?_ | with_reducible refine cr_absI ?_ | with_reducible refine cr_int_i ?_ | with_reducible refine cr_int_b ?_ | with_reducible refine CRO.cr (cr_listL ?_) | with_reducible refine CRO.cr (cr_listT ?_) | with_reducible refine CRO.cr (cr_listS ?_) | with_reducible refine cr_tupLi ?_ | with_reducible refine cr_tupS ?_ | with_reducible refine cr_tupL ?_ | with_reducible refine cr_tupT ?_)))
local macro_rules | `(tactic| walk_at "d1") => `(tactic| ((with_reducible show WB ..); (first | ((with_reducible show WB _ (tVar _) _ _); first | refine wb_own rfl ?_ | refine wb_ownK rfl ?_ | refine wb_ownT rfl ?_ | refine wb_lkT rfl (by assumption) ?_ | refine wb_wl rfl ?_) | with_reducible refine WE.wb ?_)))
local macro_rules | `(tactic| walk_at "d1") => `(tactic| ((with_reducible show WGs ..); (first | with_reducible refine wgs_cons ?_ | with_reducible refine wgs_nil ?_ | with_reducible refine wgs_consM ?_ | with_reducible refine wgs_nilM ?_); walk_at "ds"))
local macro_rules | `(tactic| walk_at "d1") => `(tactic| ((with_reducible show WT ..); (first | with_reducible refine wt_test ?_ | with_reducible refine wt_B ?_ | with_reducible refine wt_not ?_ | with_reducible refine wt_and ?_ | with_reducible refine wt_or ?_ | with_reducible refine wt_yes ?_)))
local macro_rules | `(tactic| walk_at "d1") => `(tactic| ((with_reducible show OP ..); (first | with_reducible refine op_addSI ?_ | with_reducible refine op_I0i ?_ | with_reducible refine op_I0b ?_ | with_reducible refine op_eqII ?_ | with_reducible refine op_neII ?_ | with_reducible refine op_eqBB ?_ | with_reducible refine op_neBB ?_ | with_reducible refine op_eqSS ?_ | with_reducible refine op_neSS ?_ | with_reducible refine op_isNn ?_ | with_reducible refine op_notNn ?_ | with_reducible refine op_ip ?_ | ((with_reducible show OP _ (rIx _) (D.tup _) (D.int _) _); refine op_ixT (by rfl) ?_) | ((with_reducible show OP _ (rIx _) (D.lst _) (D.int _) _); refine op_ixL (by rfl) ?_))))
local macro_rules | `(tactic| walk_at "d1") => `(tactic| ((with_reducible show WG ..); (first | with_reducible refine wg_name (by first | trivial | decide) ?_ | with_reducible refine wg_tup rfl ?_ | with_reducible refine wg_stn rfl ?_ | with_reducible refine wg_lst rfl ?_); walk_at "ds"))
local macro_rules | `(tactic| walk_at "d1") => `(tactic| ((with_reducible show WA ..); (first | with_reducible refine wa_cons ?_ | with_reducible refine wa_nil ?_)))
local macro_rules | `(tactic| walk_at "d1") => `(tactic| ((with_reducible show WS ..); (first | with_reducible refine ws_seq ?_ | with_reducible refine ws_next ?_ | with_reducible refine ws_ret ?_ | with_reducible refine ws_retN ?_ | with_reducible refine ws_if ?_ | ((with_reducible show WS _ (tDrop (tBM _ "list" _ (tVar _) _)) _ _ _ _ _); refine ws_mt rfl ?_) | ((with_reducible show WS _ (tDrop (tBM0 _ "list" _ (tVar _))) _ _ _ _ _); refine ws_mt0 rfl ?_) | ((with_reducible show WS _ (tAsg (tBM _ "list" _ (tVar _) _) (gName _)) _ _ _ _ _); refine ws_mtS rfl ?_) | ((with_reducible show WS _ (tAsg (tBM0 _ "list" _ (tVar _)) (gName _)) _ _ _ _ _); refine ws_mt0S rfl ?_) | ((with_reducible show WS _ (tAsgO (tDisp _) _) _ _ _ _ _); refine ws_setOwnK ?_) | ((with_reducible show WS _ (tAsgO tDNewK _) _ _ _ _ _); refine ws_setOwnK ?_) | ((with_reducible show WS _ (tAsgO (tDc _ _ _ _ _ _) _) _ _ _ _ _); refine ws_setOwnK ?_) | ((with_reducible show WS _ (tAsgO tDNewT _) _ _ _ _ _); refine ws_setOwnT ?_) | ((with_reducible show WS _ (tAsgO (tDispT1 _ _) _) _ _ _ _ _); refine ws_setOwnT ?_) | with_reducible refine ws_setOwn ?_ | ((with_reducible show WS _ (tAsg _ (gSub (tVar _) _ rSetL)) _ _ _ _ _); first | refine ws_setItem rfl ?_ | refine ws_setWl rfl ?_) | ((with_reducible show WS _ (tAugS (tVar _) _ _ _ _ _) _ _ _ _ _); refine ws_augItem rfl ?_) | ((with_reducible show WS _ (sDPut (tVar _) _ _) _ _ _ _ _); first | refine ws_dput rfl ?_ | refine ws_dputT rfl ?_) | ((with_reducible show WS _ (tDrop (tBM _ "dict" rUpd (tVar _) _)) _ _ _ _ _); refine ws_upd rfl ?_) | ((with_reducible show WS _ (tAsg (tCall (spDS _ _ _) _ _ _) (gName _)) _ _ _ _ _); refine ws_asgS ?_) | with_reducible refine ws_asg ?_ | with_reducible refine ws_drop ?_ | ((with_reducible show WS _ (tAug _ _ _) _ _ _ _ _); refine ws_aug rfl ?_) | with_reducible refine ws_par ?_ | with_reducible refine ws_break ?_ | with_reducible refine ws_cont ?_); walk_at "ds"))
local macro_rules | `(tactic| walk_at "d1") => `(tactic| ((with_reducible show WE ..); (first | ((with_reducible show WE _ (tVar _) _ _); refine we_var rfl ?_) | with_reducible refine we_op ?_ | with_reducible refine we_call ?_ | with_reducible refine we_int ?_ | with_reducible refine we_str ?_ | with_reducible refine we_bl ?_ | with_reducible refine we_non ?_ | with_reducible refine we_isi ?_ | with_reducible refine we_notV ?_ | with_reducible refine we_andV ?_ | with_reducible refine we_orV ?_ | with_reducible refine we_if ?_ | with_reducible refine we_chain ?_ | with_reducible refine we_un ?_ | with_reducible refine we_meth (by decide) ?_ | with_reducible refine we_tupK2 ?_ | with_reducible refine we_tup ?_ | with_reducible refine WO.we (wo_lst ?_) | with_reducible refine we_cb ?_ | ((with_reducible show WE _ (tFld _ _ "hard") _ _); refine we_hard (by assumption) ?_) | ((with_reducible show WE _ (tFld _ _ "heavy") _ _); refine we_heavy (by assumption) ?_) | ((with_reducible show WE _ (tFld _ _ "places") _ _); refine we_places (by assumption) ?_) | ((with_reducible show WE _ (tFld _ _ "told") _ _); refine we_told (by assumption) ?_) | ((with_reducible show WE _ (tFld _ _ "meets") _ _); refine we_meets (by assumption) ?_) | with_reducible refine we_din ?_ | with_reducible refine we_dnotin ?_ | ((with_reducible show WE _ (tDGet (tVar _) _) _ _); refine we_dgetL (by assumption) rfl ?_) | with_reducible refine we_dget ?_ | with_reducible refine we_idx ?_ | with_reducible refine WO.we (wo_rev ?_))))
local macro_rules | `(tactic| walk_at "dz") => `(tactic| skip)
local macro_rules | `(tactic| walk_at "dz") => `(tactic| (dsimp only [List.set, wipeR, snd_cons, snd_nil]; repeat walk_at "d1"))
local macro_rules | `(tactic| walk_at "dw") => `(tactic| (walk_at "ds"; (repeat walk_at "d1"); walk_at "dz"))
local macro_rules | `(tactic| walk_at "c1") => `(tactic| (first | ((with_reducible show Wl _ _ → _); intro _) | ((with_reducible show ∀ _ : HO, Wl _ _ → _); intro _ _)))
local macro_rules | `(tactic| walk_at "c1") => `(tactic| ((with_reducible show CI ..); (with_reducible refine c_rng1 ?_)))
local macro_rules | `(tactic| walk_at "c1") => `(tactic| ((with_reducible show CT ..); (with_reducible refine c_test ?_)))
local macro_rules | `(tactic| walk_at "c1") => `(tactic| ((with_reducible show CA ..); (first | with_reducible refine ca_cons ?_ | with_reducible refine ca_nil rfl (by assumption) ?_)))
local macro_rules | `(tactic| walk_at "c1") => `(tactic| ((with_reducible show CE ..); (first | with_reducible refine c_call rfl ?_ | with_reducible refine c_op ?_ | ((with_reducible show CE _ _ _ (tVar _) _ _); refine CE.of rfl (by assumption) ?_) | ((with_reducible show CE _ _ _ (tC _) _ _); refine CE.of rfl (by assumption) ?_) | with_reducible refine c_lst ?_ | with_reducible refine c_tup ?_)))
local macro_rules | `(tactic| walk_at "cd") => `(tactic| (walk_at "d1"))
local macro_rules | `(tactic| walk_at "cd") => `(tactic| (walk_at "c1"; walk_at "ds"))
local macro_rules | `(tactic| walk_at "cz") => `(tactic| skip)
local macro_rules | `(tactic| walk_at "cz") => `(tactic| (dsimp only [List.set, wipeR, snd_cons, snd_nil]; repeat walk_at "cd"))
local macro_rules | `(tactic| walk_at "cw") => `(tactic| (walk_at "ds"; (repeat walk_at "cd"); walk_at "cz"))

section
variable {P : Program} {w : World} {K : PySem.W.Frag} {mg : Str → Option Value} {base : Heap} {C : Addr}
def cDigit : Ct := fun ds k => ∃ b : Int, ds = [.st, .int b] ∧ (∀ n, CDivW n b) ∧ ∀ n, 0 ≤ n → n < b → k (.int n)
theorem dig_to {x : Str} {ps : List Str} {n : Nat} (D : Def P w K mg base n x ps (spDigit K)) : Def P w K mg base n x ps (spD K C cDigit) := by
  refine D.to fun vs H Q E h => ?_
  obtain ⟨st, F, ds, k, g, r, ⟨b, rfl, hb, hk⟩, q⟩ := h
  cases r with | cons r1 r => cases r with | cons r2 r =>
  cases r
  cases r2
  cases r1 with | st e =>
  subst e
  exact draw (K := K) (gd_sext g) hb fun d H' h1 h2 e _ => q _ _ F H' (sext_xe g e) (.int d) (hk d h1 h2)
def cBench : Ct := fun ds k => ∃ pl pc : Nat, ds = [.st, .int pl, .int pc] ∧ 2 ≤ pl ∧ pl ≤ 4 ∧ 1 ≤ pc ∧ pc ≤ 3 ∧ ∀ B, BOk B → B.hard.length ≤ pl → B.places ≤ pc → k (modelD B)
theorem bench_to {x : Str} {ps : List Str} {n : Nat} (D : Def P w K mg base n x ps (spBench K)) : Def P w K mg base n x ps (spD K C cBench) := by
  refine D.to fun vs H Q E h => ?_
  obtain ⟨st, F, ds, k, g, r, ⟨pl, pc, rfl, h1, h2, h3, h4, hk⟩, q⟩ := h
  cases r with | cons r1 r => cases r with | cons r2 r => cases r with | cons r3 r =>
  cases r
  cases r2
  cases r3
  cases r1 with | st e =>
  subst e
  obtain ⟨s, hs, ok⟩ := g.ok.ls _ rfl
  exact ⟨_, s, F, pl, pc, rfl, h1, h2, h3, h4, hs, ok, g.fh.trans noT_sub, fun m B F' H' b1 b2 b3 e mo => q _ _ F' H' (sext_xe g e) (model_R mo) (hk B b1 b2 b3)⟩
def cProgram : Ct := fun ds k => ∃ B, ds = [modelD B] ∧ BOk B ∧ k (.bench B)
def cMade : Ct := fun ds k => ∃ B, ds = [lI B.hard, .int B.places, toldX B] ∧ BOk B ∧ k (modelD B)
def cStand : Ct := fun ds k => ∃ B, ∃ most : Int, ds = [.st, modelD B, .int most] ∧ 0 ≤ most ∧ most < 2 ^ 200 ∧ BOk B ∧ ∀ hs : List Int, hs.length = B.heavy.length → (∀ h ∈ hs, -most ≤ h ∧ h ≤ most) → k (tI hs)
theorem small_d {b : Int} (h1 : 1 ≤ b) (h2 : b ≤ 1000000000) : ∀ n, CDivW n b := fun n => wide_div (b := 40) (by omega) (by omega) (by decide) (by decide)
/-! ### the law's own grinding -/
end
end G.Q

namespace G.Q
open PySem PySem.Spec PyProof.Rows L2
local macro_rules | `(tactic| walk_at "ds") => `(tactic| skip)
local macro_rules | `(tactic| walk_at "ds") => `(tactic| dsimp only [List.set, wipeR, snd_cons, snd_nil])
local macro_rules | `(tactic| walk_at "d1") => `(tactic| ((first | with_reducible refine key_str ?_ | with_reducible refine ⟨_, rfl, ?_⟩ | with_reducible refine ⟨_, _, rfl, ?_⟩ | ((with_reducible show List.length _ ≤ 1000 ∧ _); refine len_ok (by rfl) ?_) | ((with_reducible show if D.isN _ = true then _ else _); first | refine s_nnT (by rfl) ?_ | refine s_nnF (by rfl) ?_) | ((with_reducible show if (!D.isN _) = true then _ else _); first | refine s_mnT (by rfl) ?_ | refine s_mnF (by rfl) ?_) | with_reducible refine s_cT ?_ | with_reducible refine s_cF ?_ | with_reducible refine s_nT ?_ | with_reducible refine s_nF ?_); walk_at "ds"))
local macro_rules | `(tactic| walk_at "d1") => `(tactic| ((with_reducible show WPs ..); (first | with_reducible refine wps_cons ?_ | with_reducible refine wps_nil ?_)))
local macro_rules | `(tactic| walk_at "d1") => `(tactic| ((with_reducible show WI ..); (with_reducible refine wi_rng1 ?_)))
local macro_rules | `(tactic| walk_at "d1") => `(tactic| ((with_reducible show WV ..); (with_reducible refine WI.wv ?_)))
local macro_rules | `(tactic| walk_at "d1") => `(tactic| ((with_reducible show WP ..); (first | with_reducible refine wp_no ?_ | with_reducible refine wp_some ?_)))
local macro_rules | `(tactic| walk_at "d1") => `(tactic| ((with_reducible show WOT ..); (first | with_reducible refine wot_new ?_ | with_reducible refine wot_disp1 ?_)))
local macro_rules | `(tactic| walk_at "d1") => `(tactic| ((with_reducible show WOK ..); (first | with_reducible refine wok_new ?_ | with_reducible refine wok_disp1 ?_)))
local macro_rules | `(tactic| walk_at "d1") => `(tactic| ((with_reducible show WD ..); (first | with_reducible refine wd_tup ?_ | with_reducible refine wd_lst ?_)))
local macro_rules | `(tactic| walk_at "d1") => `(tactic| ((with_reducible show WAD ..); (first | with_reducible refine wad_cons ?_ | with_reducible refine wad_nil ?_)))
local macro_rules | `(tactic| walk_at "d1") => `(tactic| ((with_reducible show DIn ..); (first | with_reducible refine din_I ?_ | with_reducible refine din_S ?_ | with_reducible refine din_T ?_)))
local macro_rules | `(tactic| walk_at "d1") => `(tactic| ((with_reducible show DGt ..); (first | with_reducible refine dgp_hard ?_ | with_reducible refine dgp_wide ?_ | with_reducible refine dgp_rows ?_ | with_reducible refine dgp_pairs ?_ | with_reducible refine dgp_many ?_ | with_reducible refine dg_hard ?_ | with_reducible refine dg_places ?_ | with_reducible refine dg_told ?_ | with_reducible refine dg_heavy ?_ | with_reducible refine dg_meets ?_)))
local macro_rules | `(tactic| walk_at "d1") => `(tactic| ((with_reducible show OU ..); (with_reducible refine ou_neg ?_)))
local macro_rules | `(tactic| walk_at "d1") => `(tactic| ((with_reducible show WAB ..); (first | with_reducible refine wab_cons ?_ | with_reducible refine wab_nil ?_)))
local macro_rules | `(tactic| walk_at "d1") => `(tactic| ((with_reducible show CRO ..); (first | with_reducible refine cr_listL ?_ | with_reducible refine cr_listT ?_ | with_reducible refine cr_listS ?_)))
local macro_rules | `(tactic| walk_at "d1") => `(tactic| ((with_reducible show WO ..); (first | with_reducible refine wo_lst ?_ | ((with_reducible show WO _ (tOp rMulS (tLst _) _) _ _); refine wo_rep ?_) | with_reducible refine wo_op ?_ | with_reducible refine wo_cb ?_ | with_reducible refine wo_rev ?_)))
local macro_rules | `(tactic| walk_at "d1") => `(tactic| ((with_reducible show CR ..); (first | with_reducible refine cr_lenDK ?_ | with_reducible refine cr_lenDT ?_ | with_reducible refine cr_lenL ?_ | with_reducible refine cr_lenT ?_ | with_reducible refine cr_lenS ?_ | with_reducible refine cr_lenX ?_ | with_reducible refine cr_tupX ?_ | with_reducible refine cr_sumS ?_ | with_reducible refine cr_sumLi ?_ | with_reducible refine cr_sumTi ?_ | with_reducible refine cr_allB ?_ | with_reducible refine cr_anyB ?_ | with_reducible refine cr_absI ?_ | with_reducible refine cr_int_i ?_ | with_reducible refine cr_int_b ?_ | with_reducible refine CRO.cr (cr_listL ?_) | with_reducible refine CRO.cr (cr_listT ?_) | with_reducible refine CRO.cr (cr_listS ?_) | with_reducible refine cr_tupLi ?_ | with_reducible refine cr_tupS ?_ | with_reducible refine cr_tupL ?_ | with_reducible refine cr_tupT ?_)))
local macro_rules | `(tactic| walk_at "d1") => `(tactic| ((with_reducible show WB ..); (first | ((with_reducible show WB _ (tVar _) _ _); first | refine wb_own rfl ?_ | refine wb_ownK rfl ?_ | refine wb_ownT rfl ?_ | refine wb_lkT rfl (by assumption) ?_ | refine wb_wl rfl ?_) | with_reducible refine WE.wb ?_)))
local macro_rules | `(tactic| walk_at "d1") => `(tactic| ((with_reducible show WGs ..); (first | with_reducible refine wgs_cons ?_ | with_reducible refine wgs_nil ?_ | with_reducible refine wgs_consM ?_ | with_reducible refine wgs_nilM ?_); walk_at "ds"))
local macro_rules | `(tactic| walk_at "d1") => `(tactic| ((with_reducible show WT ..); (first | with_reducible refine wt_test ?_ | with_reducible refine wt_B ?_ | with_reducible refine wt_not ?_ | with_reducible refine wt_and ?_ | with_reducible refine wt_or ?_ | with_reducible refine wt_yes ?_)))
local macro_rules | `(tactic| walk_at "d1") => `(tactic| ((with_reducible show OP ..); (first | with_reducible refine op_addSI ?_ | with_reducible refine op_I0i ?_ | with_reducible refine op_I0b ?_ | with_reducible refine op_eqII ?_ | with_reducible refine op_neII ?_ | with_reducible refine op_eqBB ?_ | with_reducible refine op_neBB ?_ | with_reducible refine op_eqSS ?_ | with_reducible refine op_neSS ?_ | with_reducible refine op_isNn ?_ | with_reducible refine op_notNn ?_ | with_reducible refine op_ip ?_ | ((with_reducible show OP _ (rIx _) (D.tup _) (D.int _) _); refine op_ixT (by rfl) ?_) | ((with_reducible show OP _ (rIx _) (D.lst _) (D.int _) _); refine op_ixL (by rfl) ?_))))
local macro_rules | `(tactic| walk_at "d1") => `(tactic| ((with_reducible show WG ..); (first | with_reducible refine wg_name (by first | trivial | decide) ?_ | with_reducible refine wg_tup rfl ?_ | with_reducible refine wg_stn rfl ?_ | with_reducible refine wg_lst rfl ?_); walk_at "ds"))
local macro_rules | `(tactic| walk_at "d1") => `(tactic| ((with_reducible show WA ..); (first | with_reducible refine wa_cons ?_ | with_reducible refine wa_nil ?_)))
local macro_rules | `(tactic| walk_at "d1") => `(tactic| ((with_reducible show WS ..); (first | with_reducible refine ws_seq ?_ | with_reducible refine ws_next ?_ | with_reducible refine ws_ret ?_ | with_reducible refine ws_retN ?_ | with_reducible refine ws_if ?_ | ((with_reducible show WS _ (tDrop (tBM _ "list" _ (tVar _) _)) _ _ _ _ _); refine ws_mt rfl ?_) | ((with_reducible show WS _ (tDrop (tBM0 _ "list" _ (tVar _))) _ _ _ _ _); refine ws_mt0 rfl ?_) | ((with_reducible show WS _ (tAsg (tBM _ "list" _ (tVar _) _) (gName _)) _ _ _ _ _); refine ws_mtS rfl ?_) | ((with_reducible show WS _ (tAsg (tBM0 _ "list" _ (tVar _)) (gName _)) _ _ _ _ _); refine ws_mt0S rfl ?_) | ((with_reducible show WS _ (tAsgO (tDisp _) _) _ _ _ _ _); refine ws_setOwnK ?_) | ((with_reducible show WS _ (tAsgO tDNewK _) _ _ _ _ _); refine ws_setOwnK ?_) | ((with_reducible show WS _ (tAsgO (tDc _ _ _ _ _ _) _) _ _ _ _ _); refine ws_setOwnK ?_) | ((with_reducible show WS _ (tAsgO tDNewT _) _ _ _ _ _); refine ws_setOwnT ?_) | ((with_reducible show WS _ (tAsgO (tDispT1 _ _) _) _ _ _ _ _); refine ws_setOwnT ?_) | with_reducible refine ws_setOwn ?_ | ((with_reducible show WS _ (tAsg _ (gSub (tVar _) _ rSetL)) _ _ _ _ _); first | refine ws_setItem rfl ?_ | refine ws_setWl rfl ?_) | ((with_reducible show WS _ (tAugS (tVar _) _ _ _ _ _) _ _ _ _ _); refine ws_augItem rfl ?_) | ((with_reducible show WS _ (sDPut (tVar _) _ _) _ _ _ _ _); first | refine ws_dput rfl ?_ | refine ws_dputT rfl ?_) | ((with_reducible show WS _ (tDrop (tBM _ "dict" rUpd (tVar _) _)) _ _ _ _ _); refine ws_upd rfl ?_) | ((with_reducible show WS _ (tAsg (tCall (spDS _ _ _) _ _ _) (gName _)) _ _ _ _ _); refine ws_asgS ?_) | with_reducible refine ws_asg ?_ | with_reducible refine ws_drop ?_ | ((with_reducible show WS _ (tAug _ _ _) _ _ _ _ _); refine ws_aug rfl ?_) | with_reducible refine ws_par ?_ | with_reducible refine ws_break ?_ | with_reducible refine ws_cont ?_); walk_at "ds"))
local macro_rules | `(tactic| walk_at "d1") => `(tactic| ((with_reducible show WE ..); (first | ((with_reducible show WE _ (tVar _) _ _); refine we_var rfl ?_) | with_reducible refine we_op ?_ | with_reducible refine we_call ?_ | with_reducible refine we_int ?_ | with_reducible refine we_str ?_ | with_reducible refine we_bl ?_ | with_reducible refine we_non ?_ | with_reducible refine we_isi ?_ | with_reducible refine we_notV ?_ | with_reducible refine we_andV ?_ | with_reducible refine we_orV ?_ | with_reducible refine we_if ?_ | with_reducible refine we_chain ?_ | with_reducible refine we_un ?_ | with_reducible refine we_meth (by decide) ?_ | with_reducible refine we_tupK2 ?_ | with_reducible refine we_tup ?_ | with_reducible refine WO.we (wo_lst ?_) | with_reducible refine we_cb ?_ | ((with_reducible show WE _ (tFld _ _ "hard") _ _); refine we_hard (by assumption) ?_) | ((with_reducible show WE _ (tFld _ _ "heavy") _ _); refine we_heavy (by assumption) ?_) | ((with_reducible show WE _ (tFld _ _ "places") _ _); refine we_places (by assumption) ?_) | ((with_reducible show WE _ (tFld _ _ "told") _ _); refine we_told (by assumption) ?_) | ((with_reducible show WE _ (tFld _ _ "meets") _ _); refine we_meets (by assumption) ?_) | with_reducible refine we_din ?_ | with_reducible refine we_dnotin ?_ | ((with_reducible show WE _ (tDGet (tVar _) _) _ _); refine we_dgetL (by assumption) rfl ?_) | with_reducible refine we_dget ?_ | with_reducible refine we_idx ?_ | with_reducible refine WO.we (wo_rev ?_))))
local macro_rules | `(tactic| walk_at "dz") => `(tactic| skip)
local macro_rules | `(tactic| walk_at "dz") => `(tactic| (dsimp only [List.set, wipeR, snd_cons, snd_nil]; repeat walk_at "d1"))
local macro_rules | `(tactic| walk_at "dw") => `(tactic| (walk_at "ds"; (repeat walk_at "d1"); walk_at "dz"))
local macro_rules | `(tactic| walk_at "c1") => `(tactic| (first | ((with_reducible show Wl _ _ → _); intro _) | ((with_reducible show ∀ _ : HO, Wl _ _ → _); intro _ _)))
local macro_rules | `(tactic| walk_at "c1") => `(tactic| ((with_reducible show CI ..); (with_reducible refine c_rng1 ?_)))
local macro_rules | `(tactic| walk_at "c1") => `(tactic| ((with_reducible show CT ..); (with_reducible refine c_test ?_)))
local macro_rules | `(tactic| walk_at "c1") => `(tactic| ((with_reducible show CA ..); (first | with_reducible refine ca_cons ?_ | with_reducible refine ca_nil rfl (by assumption) ?_)))
local macro_rules | `(tactic| walk_at "c1") => `(tactic| ((with_reducible show CE ..); (first | with_reducible refine c_call rfl ?_ | with_reducible refine c_op ?_ | ((with_reducible show CE _ _ _ (tVar _) _ _); refine CE.of rfl (by assumption) ?_) | ((with_reducible show CE _ _ _ (tC _) _ _); refine CE.of rfl (by assumption) ?_) | with_reducible refine c_lst ?_ | with_reducible refine c_tup ?_)))
local macro_rules | `(tactic| walk_at "cd") => `(tactic| (walk_at "d1"))
local macro_rules | `(tactic| walk_at "cd") => `(tactic| (walk_at "c1"; walk_at "ds"))
local macro_rules | `(tactic| walk_at "cz") => `(tactic| skip)
local macro_rules | `(tactic| walk_at "cz") => `(tactic| (dsimp only [List.set, wipeR, snd_cons, snd_nil]; repeat walk_at "cd"))
local macro_rules | `(tactic| walk_at "cw") => `(tactic| (walk_at "ds"; (repeat walk_at "cd"); walk_at "cz"))

section
variable {P : Program} {w : World} {K : PySem.W.Frag} {mg : Str → Option Value} {base : Heap} {C : Addr}
def cLGrains : Ct := fun ds k => ∃ B hs, ∃ p : Nat × Nat, ds = [modelD B, tI hs, pDD p] ∧ BOk B ∧ hs.length = B.heavy.length ∧ p.1 < B.heavy.length ∧ p.2 < B.heavy.length ∧ k (.int (grain B.heavy hs p))
def cLGround : Ct := fun ds k => ∃ B hs r, ∃ n : Nat, ds = [modelD B, tI hs, .int n] ∧ BOk B ∧ hs.length = B.heavy.length ∧ B.meets[n]? = some r ∧ k (.tup [tI (after B.heavy hs r), tI (dust B.heavy hs r)])
def cLTaking : Ct := fun ds k => ∃ B hs, ds = [modelD B, tI hs] ∧ BOk B ∧ hs.length = B.heavy.length ∧ k (lI (taking B hs))
def cLRan : Ct := fun ds k => ∃ B hs ks, ds = [modelD B, tI hs, lI (natL ks)] ∧ BOk B ∧ hs.length = B.heavy.length ∧ (∀ n ∈ ks, n < B.meets.length) ∧ ks.length ≤ 99999 ∧ k (.tup [tI (runH B.heavy B.meets hs ks), .lst ((runD B.heavy B.meets hs ks).map tI)])
end
end G.Q

namespace G
open PySem PySem.Spec PyProof.Rows L2
def spLaw (K : PySem.W.Frag) : Sp := fun vs H Q _ => ∃ (a : Addr) (ns : List Int), vs = [.ref a] ∧ SqL K H a (ns.map V.int) ∧ ns.length ≤ 63 ∧ LamX.Tabs (tabsOf K) H ∧ ∀ H', Q (.bl true) H'
end G
namespace G.Q
open PySem PySem.Spec PyProof.Rows L2
section
variable {P : Program} {w : World} {K : PySem.W.Frag} {mg : Str → Option Value} {base : Heap} {C : Addr}
theorem law_okD {st : Stmt} {N : List Str} {m : Nat} {f : Addr} {fd : FuncData} (F : Fun K "law" "law" st f fd) (S : FnScope N ["_law_script"] (defScope st))
    (hb : ∀ (cdv : Value) (A : Around) (outer : List Env) (s : Shared) (H : Hp) (E : XK) (ns : List Int), Room m (A.deeper (envOfC "law" (defScope st) s.heap.objs.size f cdv)) → ns.length ≤ 63 →
      ∃ t, PSs (cxOf CX0 P w K mg base N "law" (defScope st) f cdv A outer s H E).nox (defBody st) t ∧ WS ⟨K, C, none, noT H, H⟩ t (startR N [lI ns]) (fun _ => D.non = .bl true) (rtD fun d => d = .bl true) (fun _ => False) (fun _ => False)) : FnOk P w K mg base CX0 (m + 1) f fd ["_law_script"] (spLaw K) := by
  refine F.ok (k := m) S (fun vs H Q E h => ?_) (fun cdv A outer s H vs Q E hr h => ?_)
  · obtain ⟨a, ns, rfl, _⟩ := h
    rfl
  · obtain ⟨a, ns, rfl, hS, hlen, hT, q⟩ := h
    obtain ⟨t, h1, h2⟩ := hb cdv A outer s H E ns hr hlen
    refine ⟨t, h1, ws_start (st := none) (k := fun d => d = .bl true) ⟨Same.refl _, fun _ z => (nomatch z), hT⟩ (.cons (.lst (sqL_noT hS) (RA.ofInts ns)) .nil) (fun v d F' H' x r z => ?_) h2⟩
    subst z
    cases r
    exact q H'
/-- a turn of a law's own loop: a new state for the draws -/
theorem ws_state {M : Cm} {ρ : Rho} {nx : Rho → Prop} {rt : Sl → Rho → Prop} {bk ct : Rho → Prop} {rest : TS} {i j : Nat} {c : Int} (hst : M.st = none) (hj : ρ[j]? = some (some (.d (.int c)))) (hi : i < ρ.length) (hn : nx (List.replicate ρ.length none))
    (h : ∀ p F H, WS ⟨M.K, M.C, some p, F, H⟩ rest ((List.replicate ρ.length none).set i (some (.d .st))) (fun ρ' => ρ'.length = ρ.length) (fun _ _ => False) (fun _ => False) (fun _ => False)) : WS M (tSeq (tAsg (tLst (tCons (tVar j) tNil)) (gName i)) rest) ρ nx rt bk ct := fun σ F H E e f1 f2 f3 f4 => by
  obtain ⟨v, h1, r⟩ := e.each j _ hj
  cases (show RB M F H v (.int c) from .inl r).int
  refine ⟨_, h1, ?_⟩
  refine ⟨by show 1 ≤ sizeLine; decide, fun p np => ?_⟩
  have g : Gd M.K none F H := hst ▸ e.gd
  have dlH : ∀ a o, H a = some o → del (upd H p (.lst [.int c])) p a = some o := fun a o ha => by
    have ne : a ≠ p := fun z => by rw [z, np] at ha; cases ha
    rw [del_ne ne, upd_ne ne]
    exact ha
  have gd' : Gd M.K (some p) F (upd H p (.lst [.int c])) := g.enter (same_upd np) np upd_same (.inl ⟨c, rfl⟩)
  have il : i < σ.length := by rw [e.len]; exact hi
  have slot : ∀ (k : Nat) s, ((List.replicate ρ.length none).set i (some (Sl.d .st)))[k]? = some (some s) → k = i ∧ s = .d .st := fun k s hk => by
    by_cases z : i = k
    · subst z
      rw [List.getElem?_set_self (by rw [List.length_replicate]; exact hi)] at hk
      cases hk
      exact ⟨rfl, rfl⟩
    · rw [List.getElem?_set_ne z] at hk
      have := List.eq_of_mem_replicate (List.mem_of_getElem? hk)
      cases this
  have fr : Fr ⟨M.K, M.C, some p, F, upd H p (.lst [.int c])⟩ ((List.replicate ρ.length none).set i (some (.d .st))) (σ.set i (some (.ref p))) F (upd H p (.lst [.int c])) := by
    refine ⟨XE.refl gd', by simp [e.len], fun k s hk => ?_, fun a b s t _ ha _ ma _ => ?_⟩
    · obtain ⟨rfl, rfl⟩ := slot k s hk
      exact ⟨.ref p, List.getElem?_set_self il, R.st rfl⟩
    · obtain ⟨_, rfl⟩ := slot a s ha
      cases ma
  refine h p F _ _ F _ E fr (fun ρ' σ' F' H' s e' hl => f1 (List.replicate ρ.length none) σ' F' H' s ?_ hn) (fun _ _ _ _ _ _ _ _ z => z.elim) (fun _ _ _ _ _ _ z => z.elim) (fun _ _ _ _ _ _ z => z.elim)
  have no : ∀ (k : Nat) (s : Sl), (List.replicate ρ.length (none : Option Sl))[k]? ≠ some (some s) := fun k s hk => by
    have := List.eq_of_mem_replicate (List.mem_of_getElem? hk)
    cases this
  refine ⟨?_, by rw [e'.len, hl, List.length_replicate], fun k s hk => absurd hk (no k s), fun a b s t _ ha => absurd ha (no a s)⟩
  have x0 : XE M.K none M.F0 M.H0 F H := hst ▸ e.x
  have x1 : XE M.K none F H F' H' := XE.leave (same_upd np) np e'.x
  show XE M.K M.st M.F0 M.H0 F' H'
  rw [hst]
  exact x0.trans x1
end
end G.Q

namespace G
open PySem PySem.Spec PyProof.Rows L2
/-! ### t * 1 is t -/
theorem tuple_mul1 (l : Addr) (items : Array Value) (n : Nat) (dd : Option Addr) (sl : Array (Option Value)) (u : Tok) :
    Meets (Builtin.«tuple.__mul__» ⟨[.ref l, .int 1 u], []⟩) (fun _ R s => s.heap.get? l = some { cls := .type "tuple", dict := dd, data := .seq items n, slots := sl } ∧ R (.ok (.ret (Value.ref l))) s) :=
  .of_wp fun prog w A R s h => by
    obtain ⟨hp, g, d, tk, os⟩ := s
    obtain ⟨hl, h⟩ := h
    have f1 := AutoSeq1.idx_int
    have c1 : (items.isEmpty || (1 : Int) == 1) = true := by simp
    wp_walk using wpAny_loadPart' hl
    repeat (first
      | (refine wpAny_ite_false (decide_eq_false (by decide)) ?_; wp_walk using wpAny_loadPart' hl)
      | (refine wpAny_ite_true (decide_eq_true c1) ?_; wp_walk using wpAny_loadPart' hl))
    exact ⟨_, rfl, h⟩
def rRep1 (K : PySem.W.Frag) : R2 := fun x y H Q => ∃ l xs, x = .ref l ∧ y = .int 1 ∧ SqT K H l xs ∧ Q (.ref l) H
theorem op_rep1 {X : Cx} : OpR X (binaryOp .Mult) (rRep1 X.K) := by
  intro pins s σ H x y v u Q I rx ry h
  obtain ⟨l, xs, rfl, rfl, hT, q⟩ := h
  cases rx
  obtain ⟨t, rfl⟩ := ry
  obtain ⟨its, r, ⟨⟨cls, dd, data, sl⟩, ho, hc, n, hd⟩, hs⟩ := I.tuple hT
  simp only at hc hd
  subst hc hd
  exact wpAny_binaryOp_repeat_ref (T := "tuple") (U := "int") (by decide) ⟨_, ho, rfl⟩ (fun s' => typeIs_int s' 1 t) noFill_tuple_mul F.fills_int_mul F.slot_int_rmul repeat_tuple F.slot_int_index.lookup
    (call_meets F.slot_int_rmul (typeIs_int s 1 t) F.entry_int_rmul (F.args_int_rmul_2 _ _) (int_rmul_tuple 1 t l its.toArray n dd sl)
      ⟨ho, rfl, ⟨_, ho, rfl⟩, call_meets F.slot_tuple_mul ⟨_, ho, rfl⟩ F.entry_tuple_mul (F.args_tuple_mul_2 _ _) (tuple_mul1 l its.toArray n dd sl t) ⟨ho, ⟨.ref l, H, I, rfl, q⟩⟩⟩)
theorem k_repT {X : Cx} {K : PySem.W.Frag} (h : X.K = K) : OpR X (binaryOp .Mult) (fun x y H Q => rRepT K x y H Q ∨ rRep1 K x y H Q) := by
  subst h
  exact op_or op_repT op_rep1
end G

namespace G.Q
open PySem PySem.Spec PyProof.Rows L2
local macro_rules | `(tactic| walk_at "ds") => `(tactic| skip)
local macro_rules | `(tactic| walk_at "ds") => `(tactic| dsimp only [List.set, wipeR, snd_cons, snd_nil])
local macro_rules | `(tactic| walk_at "d1") => `(tactic| ((first | with_reducible refine key_str ?_ | with_reducible refine ⟨_, rfl, ?_⟩ | with_reducible refine ⟨_, _, rfl, ?_⟩ | ((with_reducible show List.length _ ≤ 1000 ∧ _); refine len_ok (by rfl) ?_) | ((with_reducible show if D.isN _ = true then _ else _); first | refine s_nnT (by rfl) ?_ | refine s_nnF (by rfl) ?_) | ((with_reducible show if (!D.isN _) = true then _ else _); first | refine s_mnT (by rfl) ?_ | refine s_mnF (by rfl) ?_) | with_reducible refine s_cT ?_ | with_reducible refine s_cF ?_ | with_reducible refine s_nT ?_ | with_reducible refine s_nF ?_); walk_at "ds"))
local macro_rules | `(tactic| walk_at "d1") => `(tactic| ((with_reducible show WPs ..); (first | with_reducible refine wps_cons ?_ | with_reducible refine wps_nil ?_)))
local macro_rules | `(tactic| walk_at "d1") => `(tactic| ((with_reducible show WI ..); (with_reducible refine wi_rng1 ?_)))
local macro_rules | `(tactic| walk_at "d1") => `(tactic| ((with_reducible show WV ..); (with_reducible refine WI.wv ?_)))
local macro_rules | `(tactic| walk_at "d1") => `(tactic| ((with_reducible show WP ..); (first | with_reducible refine wp_no ?_ | with_reducible refine wp_some ?_)))
local macro_rules | `(tactic| walk_at "d1") => `(tactic| ((with_reducible show WOT ..); (first | with_reducible refine wot_new ?_ | with_reducible refine wot_disp1 ?_)))
local macro_rules | `(tactic| walk_at "d1") => `(tactic| ((with_reducible show WOK ..); (first | with_reducible refine wok_new ?_ | with_reducible refine wok_disp1 ?_)))
local macro_rules | `(tactic| walk_at "d1") => `(tactic| ((with_reducible show WD ..); (first | with_reducible refine wd_tup ?_ | with_reducible refine wd_lst ?_)))
local macro_rules | `(tactic| walk_at "d1") => `(tactic| ((with_reducible show WAD ..); (first | with_reducible refine wad_cons ?_ | with_reducible refine wad_nil ?_)))
local macro_rules | `(tactic| walk_at "d1") => `(tactic| ((with_reducible show DIn ..); (first | with_reducible refine din_I ?_ | with_reducible refine din_S ?_ | with_reducible refine din_T ?_)))
local macro_rules | `(tactic| walk_at "d1") => `(tactic| ((with_reducible show DGt ..); (first | with_reducible refine dgp_hard ?_ | with_reducible refine dgp_wide ?_ | with_reducible refine dgp_rows ?_ | with_reducible refine dgp_pairs ?_ | with_reducible refine dgp_many ?_ | with_reducible refine dg_hard ?_ | with_reducible refine dg_places ?_ | with_reducible refine dg_told ?_ | with_reducible refine dg_heavy ?_ | with_reducible refine dg_meets ?_)))
local macro_rules | `(tactic| walk_at "d1") => `(tactic| ((with_reducible show OU ..); (with_reducible refine ou_neg ?_)))
local macro_rules | `(tactic| walk_at "d1") => `(tactic| ((with_reducible show WAB ..); (first | with_reducible refine wab_cons ?_ | with_reducible refine wab_nil ?_)))
local macro_rules | `(tactic| walk_at "d1") => `(tactic| ((with_reducible show CRO ..); (first | with_reducible refine cr_listL ?_ | with_reducible refine cr_listT ?_ | with_reducible refine cr_listS ?_)))
local macro_rules | `(tactic| walk_at "d1") => `(tactic| ((with_reducible show WO ..); (first | with_reducible refine wo_lst ?_ | ((with_reducible show WO _ (tOp rMulS (tLst _) _) _ _); refine wo_rep ?_) | with_reducible refine wo_op ?_ | with_reducible refine wo_cb ?_ | with_reducible refine wo_rev ?_)))
local macro_rules | `(tactic| walk_at "d1") => `(tactic| ((with_reducible show CR ..); (first | with_reducible refine cr_lenDK ?_ | with_reducible refine cr_lenDT ?_ | with_reducible refine cr_lenL ?_ | with_reducible refine cr_lenT ?_ | with_reducible refine cr_lenS ?_ | with_reducible refine cr_lenX ?_ | with_reducible refine cr_tupX ?_ | with_reducible refine cr_sumS ?_ | with_reducible refine cr_sumLi ?_ | with_reducible refine cr_sumTi ?_ | with_reducible refine cr_allB ?_ | with_reducible refine cr_anyB ?_ | with_reducible refine cr_absI ?_ | with_reducible refine cr_int_i ?_ | with_reducible refine cr_int_b ?_ | with_reducible refine CRO.cr (cr_listL ?_) | with_reducible refine CRO.cr (cr_listT ?_) | with_reducible refine CRO.cr (cr_listS ?_) | with_reducible refine cr_tupLi ?_ | with_reducible refine cr_tupS ?_ | with_reducible refine cr_tupL ?_ | with_reducible refine cr_tupT ?_)))
local macro_rules | `(tactic| walk_at "d1") => `(tactic| ((with_reducible show WB ..); (first | ((with_reducible show WB _ (tVar _) _ _); first | refine wb_own rfl ?_ | refine wb_ownK rfl ?_ | refine wb_ownT rfl ?_ | refine wb_lkT rfl (by assumption) ?_ | refine wb_wl rfl ?_) | with_reducible refine WE.wb ?_)))
local macro_rules | `(tactic| walk_at "d1") => `(tactic| ((with_reducible show WGs ..); (first | with_reducible refine wgs_cons ?_ | with_reducible refine wgs_nil ?_ | with_reducible refine wgs_consM ?_ | with_reducible refine wgs_nilM ?_); walk_at "ds"))
local macro_rules | `(tactic| walk_at "d1") => `(tactic| ((with_reducible show WT ..); (first | with_reducible refine wt_test ?_ | with_reducible refine wt_B ?_ | with_reducible refine wt_not ?_ | with_reducible refine wt_and ?_ | with_reducible refine wt_or ?_ | with_reducible refine wt_yes ?_)))
local macro_rules | `(tactic| walk_at "d1") => `(tactic| ((with_reducible show OP ..); (first | with_reducible refine op_addSI ?_ | with_reducible refine op_I0i ?_ | with_reducible refine op_I0b ?_ | with_reducible refine op_eqII ?_ | with_reducible refine op_neII ?_ | with_reducible refine op_eqBB ?_ | with_reducible refine op_neBB ?_ | with_reducible refine op_eqSS ?_ | with_reducible refine op_neSS ?_ | with_reducible refine op_isNn ?_ | with_reducible refine op_notNn ?_ | with_reducible refine op_ip ?_ | ((with_reducible show OP _ (rIx _) (D.tup _) (D.int _) _); refine op_ixT (by rfl) ?_) | ((with_reducible show OP _ (rIx _) (D.lst _) (D.int _) _); refine op_ixL (by rfl) ?_))))
local macro_rules | `(tactic| walk_at "d1") => `(tactic| ((with_reducible show WG ..); (first | with_reducible refine wg_name (by first | trivial | decide) ?_ | with_reducible refine wg_tup rfl ?_ | with_reducible refine wg_stn rfl ?_ | with_reducible refine wg_lst rfl ?_); walk_at "ds"))
local macro_rules | `(tactic| walk_at "d1") => `(tactic| ((with_reducible show WA ..); (first | with_reducible refine wa_cons ?_ | with_reducible refine wa_nil ?_)))
local macro_rules | `(tactic| walk_at "d1") => `(tactic| ((with_reducible show WS ..); (first | with_reducible refine ws_seq ?_ | with_reducible refine ws_next ?_ | with_reducible refine ws_ret ?_ | with_reducible refine ws_retN ?_ | with_reducible refine ws_if ?_ | ((with_reducible show WS _ (tDrop (tBM _ "list" _ (tVar _) _)) _ _ _ _ _); refine ws_mt rfl ?_) | ((with_reducible show WS _ (tDrop (tBM0 _ "list" _ (tVar _))) _ _ _ _ _); refine ws_mt0 rfl ?_) | ((with_reducible show WS _ (tAsg (tBM _ "list" _ (tVar _) _) (gName _)) _ _ _ _ _); refine ws_mtS rfl ?_) | ((with_reducible show WS _ (tAsg (tBM0 _ "list" _ (tVar _)) (gName _)) _ _ _ _ _); refine ws_mt0S rfl ?_) | ((with_reducible show WS _ (tAsgO (tDisp _) _) _ _ _ _ _); refine ws_setOwnK ?_) | ((with_reducible show WS _ (tAsgO tDNewK _) _ _ _ _ _); refine ws_setOwnK ?_) | ((with_reducible show WS _ (tAsgO (tDc _ _ _ _ _ _) _) _ _ _ _ _); refine ws_setOwnK ?_) | ((with_reducible show WS _ (tAsgO tDNewT _) _ _ _ _ _); refine ws_setOwnT ?_) | ((with_reducible show WS _ (tAsgO (tDispT1 _ _) _) _ _ _ _ _); refine ws_setOwnT ?_) | with_reducible refine ws_setOwn ?_ | ((with_reducible show WS _ (tAsg _ (gSub (tVar _) _ rSetL)) _ _ _ _ _); first | refine ws_setItem rfl ?_ | refine ws_setWl rfl ?_) | ((with_reducible show WS _ (tAugS (tVar _) _ _ _ _ _) _ _ _ _ _); refine ws_augItem rfl ?_) | ((with_reducible show WS _ (sDPut (tVar _) _ _) _ _ _ _ _); first | refine ws_dput rfl ?_ | refine ws_dputT rfl ?_) | ((with_reducible show WS _ (tDrop (tBM _ "dict" rUpd (tVar _) _)) _ _ _ _ _); refine ws_upd rfl ?_) | ((with_reducible show WS _ (tAsg (tCall (spDS _ _ _) _ _ _) (gName _)) _ _ _ _ _); refine ws_asgS ?_) | with_reducible refine ws_asg ?_ | with_reducible refine ws_drop ?_ | ((with_reducible show WS _ (tAug _ _ _) _ _ _ _ _); refine ws_aug rfl ?_) | with_reducible refine ws_par ?_ | with_reducible refine ws_break ?_ | with_reducible refine ws_cont ?_); walk_at "ds"))
local macro_rules | `(tactic| walk_at "d1") => `(tactic| ((with_reducible show WE ..); (first | ((with_reducible show WE _ (tVar _) _ _); refine we_var rfl ?_) | with_reducible refine we_op ?_ | with_reducible refine we_call ?_ | with_reducible refine we_int ?_ | with_reducible refine we_str ?_ | with_reducible refine we_bl ?_ | with_reducible refine we_non ?_ | with_reducible refine we_isi ?_ | with_reducible refine we_notV ?_ | with_reducible refine we_andV ?_ | with_reducible refine we_orV ?_ | with_reducible refine we_if ?_ | with_reducible refine we_chain ?_ | with_reducible refine we_un ?_ | with_reducible refine we_meth (by decide) ?_ | with_reducible refine we_tupK2 ?_ | with_reducible refine we_tup ?_ | with_reducible refine WO.we (wo_lst ?_) | with_reducible refine we_cb ?_ | ((with_reducible show WE _ (tFld _ _ "hard") _ _); refine we_hard (by assumption) ?_) | ((with_reducible show WE _ (tFld _ _ "heavy") _ _); refine we_heavy (by assumption) ?_) | ((with_reducible show WE _ (tFld _ _ "places") _ _); refine we_places (by assumption) ?_) | ((with_reducible show WE _ (tFld _ _ "told") _ _); refine we_told (by assumption) ?_) | ((with_reducible show WE _ (tFld _ _ "meets") _ _); refine we_meets (by assumption) ?_) | with_reducible refine we_din ?_ | with_reducible refine we_dnotin ?_ | ((with_reducible show WE _ (tDGet (tVar _) _) _ _); refine we_dgetL (by assumption) rfl ?_) | with_reducible refine we_dget ?_ | with_reducible refine we_idx ?_ | with_reducible refine WO.we (wo_rev ?_))))
local macro_rules | `(tactic| walk_at "dz") => `(tactic| skip)
local macro_rules | `(tactic| walk_at "dz") => `(tactic| (dsimp only [List.set, wipeR, snd_cons, snd_nil]; repeat walk_at "d1"))
local macro_rules | `(tactic| walk_at "dw") => `(tactic| (walk_at "ds"; (repeat walk_at "d1"); walk_at "dz"))
local macro_rules | `(tactic| walk_at "c1") => `(tactic| (first | ((with_reducible show Wl _ _ → _); intro _) | ((with_reducible show ∀ _ : HO, Wl _ _ → _); intro _ _)))
local macro_rules | `(tactic| walk_at "c1") => `(tactic| ((with_reducible show CI ..); (with_reducible refine c_rng1 ?_)))
local macro_rules | `(tactic| walk_at "c1") => `(tactic| ((with_reducible show CT ..); (with_reducible refine c_test ?_)))
local macro_rules | `(tactic| walk_at "c1") => `(tactic| ((with_reducible show CA ..); (first | with_reducible refine ca_cons ?_ | with_reducible refine ca_nil rfl (by assumption) ?_)))
local macro_rules | `(tactic| walk_at "c1") => `(tactic| ((with_reducible show CE ..); (first | with_reducible refine c_call rfl ?_ | with_reducible refine c_op ?_ | ((with_reducible show CE _ _ _ (tVar _) _ _); refine CE.of rfl (by assumption) ?_) | ((with_reducible show CE _ _ _ (tC _) _ _); refine CE.of rfl (by assumption) ?_) | with_reducible refine c_lst ?_ | with_reducible refine c_tup ?_)))
local macro_rules | `(tactic| walk_at "cd") => `(tactic| (walk_at "d1"))
local macro_rules | `(tactic| walk_at "cd") => `(tactic| (walk_at "c1"; walk_at "ds"))
local macro_rules | `(tactic| walk_at "cz") => `(tactic| skip)
local macro_rules | `(tactic| walk_at "cz") => `(tactic| (dsimp only [List.set, wipeR, snd_cons, snd_nil]; repeat walk_at "cd"))
local macro_rules | `(tactic| walk_at "cw") => `(tactic| (walk_at "ds"; (repeat walk_at "cd"); walk_at "cz"))

/-! ## tuples cut, put together, so many times; max and min of two -/
def rMx2 : List V → Hp → VK → Prop := fun xs H Q => ∃ i j, xs = [.int i, .int j] ∧ Q (.int (if j > i then j else i)) H
def rMn2 : List V → Hp → VK → Prop := fun xs H Q => ∃ i j, xs = [.int i, .int j] ∧ Q (.int (if j < i then j else i)) H
theorem cr_mx2 {X : Cx} (hc : X.calm = true) : CallR X (.builtin "max") rMx2 := call_max2 hc
theorem cr_mn2 {X : Cx} (hc : X.calm = true) : CallR X (.builtin "min") rMn2 := call_min2 hc
theorem bb_max : bootBuiltins "max" = some (.builtin "max") := by decide +kernel
theorem k_slA {X : Cx} {K : PySem.W.Frag} (h : X.K = K) : SlR X (rSlA K) := by subst h; exact sl_tupA
abbrev rRepU (K : PySem.W.Frag) : R2 := fun x y H Q => rRepT K x y H Q ∨ rRep1 K x y H Q
theorem rep_one {α : Type} (x : α) (n : Nat) : (List.replicate n [x]).flatten = List.replicate n x := by
  induction n with
  | zero => rfl
  | succ n ih =>
    rw [List.replicate_succ, List.flatten_cons, ih, List.replicate_succ]
    rfl
section
variable {M : Cm} {ρ : Rho} {k : D → Prop} {ka : List D → Prop} {te : TE}
theorem cr_mx2D {i j : Int} (q : k (.int (if j > i then j else i))) : CR M rMx2 [.int i, .int j] k := fun F H vs Q g rr f => by
  obtain ⟨a, b, rfl, r1, r2⟩ := rbs2 rr
  cases r1.int
  cases r2.int
  exact ⟨i, j, rfl, f _ _ F H (XE.refl g) (.int _) q⟩
theorem cr_mn2D {i j : Int} (q : k (.int (if j < i then j else i))) : CR M rMn2 [.int i, .int j] k := fun F H vs Q g rr f => by
  obtain ⟨a, b, rfl, r1, r2⟩ := rbs2 rr
  cases r1.int
  cases r2.int
  exact ⟨i, j, rfl, f _ _ F H (XE.refl g) (.int _) q⟩
theorem RB.anyT {F H : Hp} {v : V} {x : D} {l : List D} (h : RB M F H v x) (e : tupOf x = some l) : RB M F H v (.tup l) := by
  cases x with
  | tup m => cases e; exact h
  | stn m => cases e; exact h.stnT
  | ixt m =>
    cases e
    obtain ⟨p, ob, rfl, h1, _⟩ := h.ixt
    exact .inl (.tup (.inl (.inr ⟨_, h1⟩)) (RA.ofInts m))
  | _ => cases e
theorem op_anyL {r : R2} {x e : D} {l : List D} (z : tupOf x = some l) (h : OP M r (.tup l) e k) : OP M r x e k := fun F H x y Q g rx ry f => h F H x y Q g (RB.anyT rx z) ry f
theorem cro_listA {x : D} {l : List D} (z : tupOf x = some l) (q : ka l) : CRO M (rListOf M.K) [x] ka := fun F H vs Q g rr f => by
  obtain ⟨v, rfl, r⟩ := rbs1 rr
  exact cr_listT q F H [v] Q g (.cons (RB.anyT r z) .nil) f
theorem op_repT1 {x : D} {n : Nat} (h1 : 1 ≤ n) (h2 : n ≤ 1000) (q : k (.tup (List.replicate n x))) : OP M (rRepU M.K) (.tup [x]) (.int (n : Int)) k := fun F H u y Q g rx ry f => by
  obtain ⟨p, us, rfl, a, b⟩ := rx.tup
  cases ry.int
  cases b with | @cons v _ _ _ r b =>
  cases b
  by_cases z : n = 1
  · subst z
    exact .inr ⟨p, _, rfl, rfl, sqT_mono g.sub a, f _ _ F H (XE.refl g) (.tup a (.cons r .nil)) q⟩
  · refine .inl ⟨p, n, _, rfl, rfl, sqT_mono g.sub a, by simp, by omega, by omega, by simp, fun t nt => ?_⟩
    rw [Int.toNat_natCast, rep_one]
    have x2 : XM M F H (upd F t (.tup (List.replicate n v))) (upd H t (.tup (List.replicate n v))) := (XE.refl g).new nt
    refine f _ _ _ _ x2 (.tup (.inl (.inl upd_same)) (RA.of (by simp) fun i w d hw hd => ?_)) q
    cases (List.eq_of_mem_replicate (List.mem_of_getElem? hw))
    cases (List.eq_of_mem_replicate (List.mem_of_getElem? hd))
    exact R.mono x2.ff r
/-- t[lo:hi] -/
theorem we_slA {tl th : TO} (h : WB M te ρ fun d => ∃ l, tupOf d = some l ∧ WP M tl ρ fun lo => WP M th ρ fun hi => k (.tup (cutD l lo hi))) : WE M (tSl (rSlA M.K) te tl th) ρ k := fun σ F H Q e f =>
  h σ F H _ e fun x d F1 H1 x1 r1 ⟨l, e1, h1⟩ => h1 σ F1 H1 _ (e.step x1) fun lo F2 H2 x2 h2 => h2 σ F2 H2 _ (e.step (x1.trans x2)) fun hi F3 H3 x3 h3 => by
    have x03 := (x1.trans x2).trans x3
    obtain ⟨p, us, rfl, h4, h5⟩ := (RB.anyT (r1.step (x2.trans x3)) e1).tup
    refine ⟨p, us, rfl, sqT_mono x03.gd.sub h4, fun hw => ?_, fun hw p' np => f _ _ _ _ (x03.new np) (.tup (.inl (.inl upd_same)) (h5.cut.mono (same_upd (sub_none x03.gd.sub np)))) h3⟩
    rw [h5.len] at hw
    have : cutD l lo hi = l := by
      unfold cutD
      rw [hw.1, hw.2, List.drop_zero, Nat.sub_zero, List.take_length]
    have h3 : k (.tup (cutD l lo hi)) := h3
    rw [this] at h3
    exact f _ _ F3 H3 x03 (.tup h4 h5) h3
end
end G.Q

namespace G.Q
open PySem PySem.Spec PyProof.Rows L2
local macro_rules | `(tactic| walk_at "ds") => `(tactic| skip)
local macro_rules | `(tactic| walk_at "ds") => `(tactic| dsimp only [List.set, wipeR, snd_cons, snd_nil])
local macro_rules | `(tactic| walk_at "d1") => `(tactic| ((first | with_reducible refine key_str ?_ | with_reducible refine ⟨_, rfl, ?_⟩ | with_reducible refine ⟨_, _, rfl, ?_⟩ | ((with_reducible show List.length _ ≤ 1000 ∧ _); refine len_ok (by rfl) ?_) | ((with_reducible show if D.isN _ = true then _ else _); first | refine s_nnT (by rfl) ?_ | refine s_nnF (by rfl) ?_) | ((with_reducible show if (!D.isN _) = true then _ else _); first | refine s_mnT (by rfl) ?_ | refine s_mnF (by rfl) ?_) | with_reducible refine s_cT ?_ | with_reducible refine s_cF ?_ | with_reducible refine s_nT ?_ | with_reducible refine s_nF ?_); walk_at "ds"))
local macro_rules | `(tactic| walk_at "d1") => `(tactic| ((with_reducible show WPs ..); (first | with_reducible refine wps_cons ?_ | with_reducible refine wps_nil ?_)))
local macro_rules | `(tactic| walk_at "d1") => `(tactic| ((with_reducible show WI ..); (with_reducible refine wi_rng1 ?_)))
local macro_rules | `(tactic| walk_at "d1") => `(tactic| ((with_reducible show WV ..); (with_reducible refine WI.wv ?_)))
local macro_rules | `(tactic| walk_at "d1") => `(tactic| ((with_reducible show WP ..); (first | with_reducible refine wp_no ?_ | with_reducible refine wp_some ?_)))
local macro_rules | `(tactic| walk_at "d1") => `(tactic| ((with_reducible show WOT ..); (first | with_reducible refine wot_new ?_ | with_reducible refine wot_disp1 ?_)))
local macro_rules | `(tactic| walk_at "d1") => `(tactic| ((with_reducible show WOK ..); (first | with_reducible refine wok_new ?_ | with_reducible refine wok_disp1 ?_)))
local macro_rules | `(tactic| walk_at "d1") => `(tactic| ((with_reducible show WD ..); (first | with_reducible refine wd_tup ?_ | with_reducible refine wd_lst ?_)))
local macro_rules | `(tactic| walk_at "d1") => `(tactic| ((with_reducible show WAD ..); (first | with_reducible refine wad_cons ?_ | with_reducible refine wad_nil ?_)))
local macro_rules | `(tactic| walk_at "d1") => `(tactic| ((with_reducible show DIn ..); (first | with_reducible refine din_I ?_ | with_reducible refine din_S ?_ | with_reducible refine din_T ?_)))
local macro_rules | `(tactic| walk_at "d1") => `(tactic| ((with_reducible show DGt ..); (first | with_reducible refine dgp_hard ?_ | with_reducible refine dgp_wide ?_ | with_reducible refine dgp_rows ?_ | with_reducible refine dgp_pairs ?_ | with_reducible refine dgp_many ?_ | with_reducible refine dg_hard ?_ | with_reducible refine dg_places ?_ | with_reducible refine dg_told ?_ | with_reducible refine dg_heavy ?_ | with_reducible refine dg_meets ?_)))
local macro_rules | `(tactic| walk_at "d1") => `(tactic| ((with_reducible show OU ..); (with_reducible refine ou_neg ?_)))
local macro_rules | `(tactic| walk_at "d1") => `(tactic| ((with_reducible show WAB ..); (first | with_reducible refine wab_cons ?_ | with_reducible refine wab_nil ?_)))
local macro_rules | `(tactic| walk_at "d1") => `(tactic| ((with_reducible show CRO ..); (first | with_reducible refine cr_listL ?_ | with_reducible refine cr_listT ?_ | with_reducible refine cr_listS ?_)))
local macro_rules | `(tactic| walk_at "d1") => `(tactic| ((with_reducible show WO ..); (first | with_reducible refine wo_lst ?_ | ((with_reducible show WO _ (tOp rMulS (tLst _) _) _ _); refine wo_rep ?_) | with_reducible refine wo_op ?_ | with_reducible refine wo_cb ?_ | with_reducible refine wo_rev ?_)))
local macro_rules | `(tactic| walk_at "d1") => `(tactic| ((with_reducible show CR ..); (first | with_reducible refine cr_lenDK ?_ | with_reducible refine cr_lenDT ?_ | with_reducible refine cr_lenL ?_ | with_reducible refine cr_lenT ?_ | with_reducible refine cr_lenS ?_ | with_reducible refine cr_lenX ?_ | with_reducible refine cr_tupX ?_ | with_reducible refine cr_sumS ?_ | with_reducible refine cr_sumLi ?_ | with_reducible refine cr_sumTi ?_ | with_reducible refine cr_allB ?_ | with_reducible refine cr_anyB ?_ | with_reducible refine cr_absI ?_ | with_reducible refine cr_int_i ?_ | with_reducible refine cr_int_b ?_ | with_reducible refine CRO.cr (cr_listL ?_) | with_reducible refine CRO.cr (cr_listT ?_) | with_reducible refine CRO.cr (cr_listS ?_) | with_reducible refine cr_tupLi ?_ | with_reducible refine cr_tupS ?_ | with_reducible refine cr_tupL ?_ | with_reducible refine cr_tupT ?_)))
local macro_rules | `(tactic| walk_at "d1") => `(tactic| ((with_reducible show WB ..); (first | ((with_reducible show WB _ (tVar _) _ _); first | refine wb_own rfl ?_ | refine wb_ownK rfl ?_ | refine wb_ownT rfl ?_ | refine wb_lkT rfl (by assumption) ?_ | refine wb_wl rfl ?_) | with_reducible refine WE.wb ?_)))
local macro_rules | `(tactic| walk_at "d1") => `(tactic| ((with_reducible show WGs ..); (first | with_reducible refine wgs_cons ?_ | with_reducible refine wgs_nil ?_ | with_reducible refine wgs_consM ?_ | with_reducible refine wgs_nilM ?_); walk_at "ds"))
local macro_rules | `(tactic| walk_at "d1") => `(tactic| ((with_reducible show WT ..); (first | with_reducible refine wt_test ?_ | with_reducible refine wt_B ?_ | with_reducible refine wt_not ?_ | with_reducible refine wt_and ?_ | with_reducible refine wt_or ?_ | with_reducible refine wt_yes ?_)))
local macro_rules | `(tactic| walk_at "d1") => `(tactic| ((with_reducible show OP ..); (first | with_reducible refine op_addSI ?_ | with_reducible refine op_I0i ?_ | with_reducible refine op_I0b ?_ | with_reducible refine op_eqII ?_ | with_reducible refine op_neII ?_ | with_reducible refine op_eqBB ?_ | with_reducible refine op_neBB ?_ | with_reducible refine op_eqSS ?_ | with_reducible refine op_neSS ?_ | with_reducible refine op_isNn ?_ | with_reducible refine op_notNn ?_ | with_reducible refine op_ip ?_ | ((with_reducible show OP _ (rIx _) (D.tup _) (D.int _) _); refine op_ixT (by rfl) ?_) | ((with_reducible show OP _ (rIx _) (D.lst _) (D.int _) _); refine op_ixL (by rfl) ?_))))
local macro_rules | `(tactic| walk_at "d1") => `(tactic| ((with_reducible show WG ..); (first | with_reducible refine wg_name (by first | trivial | decide) ?_ | with_reducible refine wg_tup rfl ?_ | with_reducible refine wg_stn rfl ?_ | with_reducible refine wg_lst rfl ?_); walk_at "ds"))
local macro_rules | `(tactic| walk_at "d1") => `(tactic| ((with_reducible show WA ..); (first | with_reducible refine wa_cons ?_ | with_reducible refine wa_nil ?_)))
local macro_rules | `(tactic| walk_at "d1") => `(tactic| ((with_reducible show WS ..); (first | with_reducible refine ws_seq ?_ | with_reducible refine ws_next ?_ | with_reducible refine ws_ret ?_ | with_reducible refine ws_retN ?_ | with_reducible refine ws_if ?_ | ((with_reducible show WS _ (tDrop (tBM _ "list" _ (tVar _) _)) _ _ _ _ _); refine ws_mt rfl ?_) | ((with_reducible show WS _ (tDrop (tBM0 _ "list" _ (tVar _))) _ _ _ _ _); refine ws_mt0 rfl ?_) | ((with_reducible show WS _ (tAsg (tBM _ "list" _ (tVar _) _) (gName _)) _ _ _ _ _); refine ws_mtS rfl ?_) | ((with_reducible show WS _ (tAsg (tBM0 _ "list" _ (tVar _)) (gName _)) _ _ _ _ _); refine ws_mt0S rfl ?_) | ((with_reducible show WS _ (tAsgO (tDisp _) _) _ _ _ _ _); refine ws_setOwnK ?_) | ((with_reducible show WS _ (tAsgO tDNewK _) _ _ _ _ _); refine ws_setOwnK ?_) | ((with_reducible show WS _ (tAsgO (tDc _ _ _ _ _ _) _) _ _ _ _ _); refine ws_setOwnK ?_) | ((with_reducible show WS _ (tAsgO tDNewT _) _ _ _ _ _); refine ws_setOwnT ?_) | ((with_reducible show WS _ (tAsgO (tDispT1 _ _) _) _ _ _ _ _); refine ws_setOwnT ?_) | with_reducible refine ws_setOwn ?_ | ((with_reducible show WS _ (tAsg _ (gSub (tVar _) _ rSetL)) _ _ _ _ _); first | refine ws_setItem rfl ?_ | refine ws_setWl rfl ?_) | ((with_reducible show WS _ (tAugS (tVar _) _ _ _ _ _) _ _ _ _ _); refine ws_augItem rfl ?_) | ((with_reducible show WS _ (sDPut (tVar _) _ _) _ _ _ _ _); first | refine ws_dput rfl ?_ | refine ws_dputT rfl ?_) | ((with_reducible show WS _ (tDrop (tBM _ "dict" rUpd (tVar _) _)) _ _ _ _ _); refine ws_upd rfl ?_) | ((with_reducible show WS _ (tAsg (tCall (spDS _ _ _) _ _ _) (gName _)) _ _ _ _ _); refine ws_asgS ?_) | with_reducible refine ws_asg ?_ | with_reducible refine ws_drop ?_ | ((with_reducible show WS _ (tAug _ _ _) _ _ _ _ _); refine ws_aug rfl ?_) | with_reducible refine ws_par ?_ | with_reducible refine ws_break ?_ | with_reducible refine ws_cont ?_); walk_at "ds"))
local macro_rules | `(tactic| walk_at "d1") => `(tactic| ((with_reducible show WE ..); (first | ((with_reducible show WE _ (tVar _) _ _); refine we_var rfl ?_) | with_reducible refine we_op ?_ | with_reducible refine we_call ?_ | with_reducible refine we_int ?_ | with_reducible refine we_str ?_ | with_reducible refine we_bl ?_ | with_reducible refine we_non ?_ | with_reducible refine we_isi ?_ | with_reducible refine we_notV ?_ | with_reducible refine we_andV ?_ | with_reducible refine we_orV ?_ | with_reducible refine we_if ?_ | with_reducible refine we_chain ?_ | with_reducible refine we_un ?_ | with_reducible refine we_meth (by decide) ?_ | with_reducible refine we_tupK2 ?_ | with_reducible refine we_tup ?_ | with_reducible refine WO.we (wo_lst ?_) | with_reducible refine we_cb ?_ | ((with_reducible show WE _ (tFld _ _ "hard") _ _); refine we_hard (by assumption) ?_) | ((with_reducible show WE _ (tFld _ _ "heavy") _ _); refine we_heavy (by assumption) ?_) | ((with_reducible show WE _ (tFld _ _ "places") _ _); refine we_places (by assumption) ?_) | ((with_reducible show WE _ (tFld _ _ "told") _ _); refine we_told (by assumption) ?_) | ((with_reducible show WE _ (tFld _ _ "meets") _ _); refine we_meets (by assumption) ?_) | with_reducible refine we_din ?_ | with_reducible refine we_dnotin ?_ | ((with_reducible show WE _ (tDGet (tVar _) _) _ _); refine we_dgetL (by assumption) rfl ?_) | with_reducible refine we_dget ?_ | with_reducible refine we_idx ?_ | with_reducible refine WO.we (wo_rev ?_))))
local macro_rules | `(tactic| walk_at "dz") => `(tactic| skip)
local macro_rules | `(tactic| walk_at "dz") => `(tactic| (dsimp only [List.set, wipeR, snd_cons, snd_nil]; repeat walk_at "d1"))
local macro_rules | `(tactic| walk_at "dw") => `(tactic| (walk_at "ds"; (repeat walk_at "d1"); walk_at "dz"))
local macro_rules | `(tactic| walk_at "c1") => `(tactic| (first | ((with_reducible show Wl _ _ → _); intro _) | ((with_reducible show ∀ _ : HO, Wl _ _ → _); intro _ _)))
local macro_rules | `(tactic| walk_at "c1") => `(tactic| ((with_reducible show CI ..); (with_reducible refine c_rng1 ?_)))
local macro_rules | `(tactic| walk_at "c1") => `(tactic| ((with_reducible show CT ..); (with_reducible refine c_test ?_)))
local macro_rules | `(tactic| walk_at "c1") => `(tactic| ((with_reducible show CA ..); (first | with_reducible refine ca_cons ?_ | with_reducible refine ca_nil rfl (by assumption) ?_)))
local macro_rules | `(tactic| walk_at "c1") => `(tactic| ((with_reducible show CE ..); (first | with_reducible refine c_call rfl ?_ | with_reducible refine c_op ?_ | ((with_reducible show CE _ _ _ (tVar _) _ _); refine CE.of rfl (by assumption) ?_) | ((with_reducible show CE _ _ _ (tC _) _ _); refine CE.of rfl (by assumption) ?_) | with_reducible refine c_lst ?_ | with_reducible refine c_tup ?_)))
local macro_rules | `(tactic| walk_at "cd") => `(tactic| (walk_at "d1"))
local macro_rules | `(tactic| walk_at "cd") => `(tactic| (walk_at "c1"; walk_at "ds"))
local macro_rules | `(tactic| walk_at "cz") => `(tactic| skip)
local macro_rules | `(tactic| walk_at "cz") => `(tactic| (dsimp only [List.set, wipeR, snd_cons, snd_nil]; repeat walk_at "cd"))
local macro_rules | `(tactic| walk_at "cw") => `(tactic| (walk_at "ds"; (repeat walk_at "cd"); walk_at "cz"))

/-! ## a grinding that is none -/
theorem at_any {l : List D} {i : Int} (h0 : 0 ≤ i) (h1 : i < l.length) : ∃ x ∈ l, atI l i = some x := by
  obtain ⟨n, rfl⟩ : ∃ n : Nat, i = (n : Int) := ⟨i.toNat, by omega⟩
  have hn : n < l.length := by omega
  refine ⟨l[n], List.getElem_mem hn, ?_⟩
  unfold atI
  rw [ix_int hn]
  exact List.getElem?_eq_getElem hn
theorem op_pick {M : Cm} {k : D → Prop} {l : List D} {i N : Int} (h0 : 0 ≤ i) (h1 : i < N) (hl : (l.length : Int) = N) (q : ∀ x ∈ l, k x) : OP M (rIx M.K) (.lst l) (.int i) k := by
  obtain ⟨x, hx, ha⟩ := at_any h0 (hl ▸ h1)
  exact op_ixL ha (q x hx)
theorem cut_from {l : List D} (k : Nat) : cutD l (some (k : Int)) none = l.drop k := by
  unfold cutD
  rw [HT.sIx_none, HT.sIx_nat]
  rw [List.take_of_length_le (by rw [List.length_drop]; omega)]
  by_cases h : k ≤ l.length
  · rw [Nat.min_eq_left h]
  · rw [Nat.min_eq_right (by omega), List.drop_length, List.drop_eq_nil_of_le (by omega)]
theorem cut_to {l : List D} (k : Nat) : cutD l none (some (k : Int)) = l.take k := by
  unfold cutD
  rw [HT.sIx_none, HT.sIx_nat]
  simp
theorem kd_all {l : List D} (h : ∀ d ∈ l, Ki d) : ∀ d ∈ l, Kd d := fun d hd => (h d hd).1
theorem ki_at {x : D} (h : isSq x = none) (k : Kd x) : Ki x := ⟨k, fun j l e => by rw [h] at e; cases e⟩
theorem ki_int (i : Int) : Ki (.int i) := ki_at rfl rfl
theorem ki_bl (b : Bool) : Ki (.bl b) := ki_at rfl rfl
theorem ki_non : Ki .non := ki_at rfl rfl
theorem ki_tup {l : List D} (h : l.length ≤ 60) (k : ∀ d ∈ l, Kd d) : Ki (.tup l) := ⟨rfl, fun j m e => by cases e; exact ⟨h, k⟩⟩
theorem ki_lst {l : List D} (h : l.length ≤ 60) (k : ∀ d ∈ l, Kd d) : Ki (.lst l) := ⟨rfl, fun j m e => by cases e; exact ⟨h, k⟩⟩
theorem kd_ints (ns : List Int) : ∀ d ∈ ns.map D.int, Kd d := fun d hd => by
  obtain ⟨n, _, rfl⟩ := List.mem_map.mp hd
  rfl
theorem ki_ixt {ns : List Int} (h : ns.length ≤ 60) : Ki (.ixt ns) := ⟨rfl, fun j m e => by cases e; exact ⟨by rw [List.length_map]; exact h, kd_ints ns⟩⟩
theorem kg_at {x : D} (h : isSq x = none) (k : Kd x) : Kg x := ⟨ki_at h k, fun j l e => by rw [h] at e; cases e⟩
theorem kg_tup {l : List D} (h : l.length ≤ 60) (k : ∀ d ∈ l, Ki d) : Kg (.tup l) := ⟨ki_tup h (kd_all k), fun j m e => by cases e; exact k⟩
theorem kg_lst {l : List D} (h : l.length ≤ 60) (k : ∀ d ∈ l, Ki d) : Kg (.lst l) := ⟨ki_lst h (kd_all k), fun j m e => by cases e; exact k⟩
theorem kg_3 {a b c : D} (h1 : Ki a) (h2 : Ki b) (h3 : Ki c) : Kg (.tup [a, b, c]) := kg_tup (by show 3 ≤ 60; decide) fun d hd => by
  simp only [List.mem_cons, List.not_mem_nil, or_false] at hd
  rcases hd with rfl | rfl | rfl <;> assumption
theorem mem_nats {n : Nat} {v : Int} : v ∈ natsI n ↔ 0 ≤ v ∧ v < n := by
  unfold natsI
  constructor
  · intro h
    obtain ⟨k, h1, rfl⟩ := List.mem_map.mp h
    have := List.mem_range.mp h1
    omega
  · rintro ⟨h1, h2⟩
    exact List.mem_map.mpr ⟨v.toNat, List.mem_range.mpr (by omega), by omega⟩
theorem nats_nodup (n : Nat) : (natsI n).Nodup := by
  unfold natsI
  exact List.Pairwise.map _ (fun a b h => by omega) List.nodup_range
/-- no turn -/
theorem turn_len {x : D} {l : List D} {n : Nat} (e : tupOf x = some l) (h : l.length ≠ n) : turnB x n = false := by
  unfold turnB
  rw [e]
  show (decide (l.length = n) && _ && _) = false
  rw [decide_eq_false h]
  rfl
theorem turn_kind {x : D} {l : List D} {n : Nat} (e : tupOf x = some l) (h : l.all isIntD = false) : turnB x n = false := by
  unfold turnB
  rw [e]
  show (_ && l.all isIntD && _) = false
  rw [h, Bool.and_false]
  rfl
theorem turn_perm {x : D} {l : List D} {n : Nat} (e : tupOf x = some l) (h : ¬ (intsOf l).Perm (natsI n)) : turnB x n = false := by
  unfold turnB
  rw [e]
  show (_ && decide _) = false
  rw [decide_eq_false h, Bool.and_false]
theorem grind_turn {a b c : D} {m n : Nat} (h : turnB c n = false) : grindB (.tup [a, b, c]) m n = false := by
  show (_ && turnB c n) = false
  rw [h, Bool.and_false]
theorem grind_1 {a b c : D} {m n : Nat} (h : wholeD a (some 0) (some ((m : Int) - 1)) = false) : grindB (.tup [a, b, c]) m n = false := by
  show (wholeD a (some 0) (some ((m : Int) - 1)) && _ && _ && _) = false
  rw [h]
  rfl
theorem grind_2 {a b c : D} {m n : Nat} (h : wholeD b (some 0) (some ((m : Int) - 1)) = false) : grindB (.tup [a, b, c]) m n = false := by
  show (_ && wholeD b (some 0) (some ((m : Int) - 1)) && _ && _) = false
  rw [h, Bool.and_false]
  rfl
theorem grind_eq {a b c : D} {m n : Nat} (h : intOf a = intOf b) : grindB (.tup [a, b, c]) m n = false := by
  show (_ && decide (intOf a ≠ intOf b) && _) = false
  rw [decide_eq_false (fun z => z h), Bool.and_false]
  rfl
theorem whole_no {i lo hi : Int} (h : i < lo ∨ hi < i) : wholeD (.int i) (some lo) (some hi) = false := by
  show (decide (lo ≤ i) && decide (i ≤ hi)) = false
  rcases h with h | h
  · rw [decide_eq_false (by omega)]
    rfl
  · rw [decide_eq_false (show ¬ i ≤ hi by omega), Bool.and_false]
section
variable {P : Program} {w : World} {K : PySem.W.Frag} {mg : Str → Option Value} {base : Heap} {C : Addr}
def cBadG : Ct := fun ds k => ∃ B, ds = [.st, modelD B] ∧ BOk B ∧ ∀ d, Kg d → grindB d B.hard.length B.places = false → k d
abbrev s__law_bad_grinding : Stmt := topS 26
abbrev n__law_bad_grinding : List Str := ["_law_state", "_law_model", "_law_many", "_law_size", "_law_one", "_law_other", "_law_turn", "_law_some"]
theorem sc__law_bad_grinding : FnScope ["_law_state", "_law_model", "_law_many", "_law_size", "_law_one", "_law_other", "_law_turn", "_law_some"] ["_law_state", "_law_model"] (defScope s__law_bad_grinding) := ⟨rfl, rfl, rfl, by decide +kernel, rfl, by decide +kernel, by decide +kernel⟩
theorem ok_bad_grinding (B0 : Blt mg) (b_max : mg "max" = none) (d__law_digit : Def P w K mg base 1 "_law_digit" ["_law_state", "_law_base"] (spD K C cDigit)) (F : FunAt K mg "_law_bad_grinding" s__law_bad_grinding ["_law_state", "_law_model"]) : Def P w K mg base 2 "_law_bad_grinding" ["_law_state", "_law_model"] (spD K C cBadG) := by
  refine F.defD (n := 1) sc__law_bad_grinding (fun ds k h => by obtain ⟨_, rfl, _⟩ := h; rfl) fun f cdv A outer s H E sa F ds k hr h => ?_
  obtain ⟨B1, rfl, ok, q⟩ := h
  have B := B0
  have p1 := ok.plates
  have p2 := ok.places
  have p3 := ok.told
  obtain ⟨g, gs, eg⟩ : ∃ g gs, B1.told = g :: gs := by
    cases h : B1.told with
    | nil => rw [h] at p3; simp at p3
    | cons g gs => exact ⟨g, gs, rfl⟩
  have ein := ok.each g (by rw [eg]; exact List.mem_cons_self)
  have tl : g.2.2.length = B1.places := by rw [ein.2.2.2.length_eq, List.length_range]
  refine ⟨_, (pss_cons (ps_par (by rfl) sc__law_bad_grinding.nd (i := 2) (j := 3) rfl rfl (by decide) rfl rfl (pa_cons (pe_callB (k_len (K := K) rfl) (by rfl) B.len bb_len (pa_cons (pe_dget (hu_of hr) (pv 1) pe_str (fun _ _ => rfl)) pa_nil)) (pa_cons (pe_dget (hu_of hr) (pv 1) pe_str (fun _ _ => rfl)) pa_nil)) (by rfl)) (pss_cons (ps_asg (pe_ix (k_ix (K := K) rfl) (pe_dget (hu_of hr) (pv 1) pe_str (fun _ _ => rfl)) pe_int (fun _ _ => rfl)) (k_tup (K := K) (n := 3) rfl rfl (pgs_cons (pg_name (i := 4) sc__law_bad_grinding.nd rfl (Or.inl rfl)) (pgs_cons (pg_name (i := 5) sc__law_bad_grinding.nd rfl (Or.inl rfl)) (pgs_cons (pg_name (i := 6) sc__law_bad_grinding.nd rfl (Or.inl rfl)) pgs_nil))))) (pss_cons (ps_set (i := 7) sc__law_bad_grinding.nd rfl (Or.inl rfl) (pe_lst (pa_cons pe_non (pa_cons (pe_tup pa_nil) (pa_cons (pe_tup (pa_cons (pv 4) (pa_cons (pv 5) pa_nil))) (pa_cons (pe_tup (pa_cons (pv 4) (pa_cons (pv 5) (pa_cons (pv 6) (pa_cons pe_int pa_nil))))) (pa_cons (pe_lst (pa_cons (pv 4) (pa_cons (pv 5) (pa_cons (pv 6) pa_nil)))) (pa_cons (pe_tup (pa_cons (pv 4) (pa_cons (pv 4) (pa_cons (pv 6) pa_nil)))) (pa_cons (pe_tup (pa_cons (pv 2) (pa_cons (pv 5) (pa_cons (pv 6) pa_nil)))) pa_nil))))))))) (pss_cons (ps_set (i := 7) sc__law_bad_grinding.nd rfl (Or.inl rfl) (pe_op (k_addS (K := K) rfl) (pv 7) (pe_lst (pa_cons (pe_tup (pa_cons (pe_un un_neg pe_int) (pa_cons (pv 5) (pa_cons (pv 6) pa_nil)))) (pa_cons (pe_tup (pa_cons (pv 4) (pa_cons (pv 2) (pa_cons (pv 6) pa_nil)))) (pa_cons (pe_tup (pa_cons pe_bl (pa_cons pe_int (pa_cons (pv 6) pa_nil)))) (pa_cons (pe_tup (pa_cons (pv 4) (pa_cons (pv 5) (pa_cons (pe_callTy (k_list (K := K) rfl) (by rfl) B.list bb_list (pa_cons (pv 6) pa_nil)) pa_nil)))) (pa_cons (pe_tup (pa_cons (pv 4) (pa_cons (pv 5) (pa_cons pe_non pa_nil)))) pa_nil)))))))) (pss_cons (ps_set (i := 7) sc__law_bad_grinding.nd rfl (Or.inl rfl) (pe_op (k_addS (K := K) rfl) (pv 7) (pe_lst (pa_cons (pe_tup (pa_cons (pv 4) (pa_cons (pv 5) (pa_cons (pe_slice (k_slA rfl) (pv 6) (po_some pe_int) po_none) pa_nil)))) (pa_cons (pe_tup (pa_cons (pv 4) (pa_cons (pv 5) (pa_cons (pe_op (k_addS (K := K) rfl) (pv 6) (pe_tup (pa_cons (pv 3) pa_nil))) pa_nil)))) (pa_cons (pe_tup (pa_cons (pv 4) (pa_cons (pv 5) (pa_cons (pe_op (k_repT rfl) (pe_tup (pa_cons (pv 3) pa_nil)) (pv 3)) pa_nil)))) (pa_cons pe_str pa_nil))))))) (pss_cons (ps_set (i := 7) sc__law_bad_grinding.nd rfl (Or.inl rfl) (pe_op (k_addS (K := K) rfl) (pv 7) (pe_lst (pa_cons (pe_tup (pa_cons (pv 4) (pa_cons (pv 5) (pa_cons (pe_slice (k_slA rfl) (pe_tup (pa_cons pe_bl (pa_cons pe_int (pa_cons pe_int pa_nil)))) po_none (po_some (pv 3))) pa_nil)))) (pa_cons (pe_tup (pa_cons (pv 4) (pa_cons (pv 5) (pa_cons (pe_slice (k_slA rfl) (pe_tup (pa_cons pe_int (pa_cons pe_bl (pa_cons pe_int pa_nil)))) po_none (po_some (pe_callB (cr_mx2 rfl) (by rfl) b_max bb_max (pa_cons pe_int (pa_cons (pv 3) pa_nil))))) pa_nil)))) pa_nil))))) (pss_one (ps_ret (pe_ix (k_ix (K := K) rfl) (pv 7) (pe_d d__law_digit (hr.mono (by decide)) (by rfl) (pa_cons (pv 0) (pa_cons pe_int pa_nil))) (fun _ _ => rfl)))))))))), ?_⟩; refine start_eqR (ρ' := [some (.d (.st)), some (.d (modelD B1)), none, none, none, none, none, none]) rfl ?_
  walk_at "dw"
  refine op_ixL (at_mapD (i := 0) (x := g) (by rw [eg]; rfl)) ?_
  walk_at "dw"
  refine CRO.cr (cro_listA (x := .ixt (g.2.2.map fun (x : Nat) => (x : Int))) rfl ?_)
  walk_at "dw"
  refine op_cat (by simp) ?_
  walk_at "dw"
  refine we_slA ?_
  walk_at "dw"
  refine op_anyL rfl (op_catT (by simp [tl]; omega) ?_)
  walk_at "dw"
  refine op_repT1 p2.1 (by omega) ?_
  walk_at "dw"
  refine op_cat (by simp) ?_
  walk_at "dw"
  refine we_slA ?_
  walk_at "dw"
  refine we_slA ?_
  walk_at "dw"
  refine cr_mx2D ?_
  walk_at "dw"
  refine op_cat (by simp) ?_
  walk_at "dw"
  refine ⟨_, rfl, small_d (by decide) (by decide), fun i h0 h1 => ?_⟩
  walk_at "dw"
  refine op_pick h0 h1 (by simp) fun x hx => ?_
  suffices h : Kg x ∧ grindB x B1.hard.length B1.places = false from q x h.1 h.2
  have kt : (g.2.2.map fun (x : Nat) => (x : Int)).length ≤ 60 := by rw [List.length_map]; omega
  have kx := ki_ixt kt
  have ht : (g.2.2.map fun (x : Nat) => (x : Int)).Perm (natsI B1.places) := ein.2.2.2.map _
  have lt : (g.2.2.map fun (x : Nat) => (x : Int)).length = B1.places := by rw [List.length_map]; exact tl
  have lm : (B1.hard.map D.int).length = B1.hard.length := List.length_map ..
  rw [lm] at hx
  generalize (g.2.2.map fun (x : Nat) => (x : Int)) = tn at *
  have n1 := p2.1
  have n3 := p2.2
  simp only [List.mem_append, List.mem_cons, List.not_mem_nil, or_false] at hx
  rcases hx with ((((rfl | rfl | rfl | rfl | rfl | rfl | rfl) | (rfl | rfl | rfl | rfl | rfl)) | (rfl | rfl | rfl | rfl)) | (rfl | rfl))
  · exact ⟨kg_at rfl rfl, rfl⟩
  · exact ⟨kg_tup (by decide) (fun _ h => by cases h), rfl⟩
  · exact ⟨kg_tup (by simp) (fun d hd => by
      simp only [List.mem_cons, List.not_mem_nil, or_false] at hd
      rcases hd with rfl | rfl <;> exact ki_int _), rfl⟩
  · exact ⟨kg_tup (by simp) (fun d hd => by
      simp only [List.mem_cons, List.not_mem_nil, or_false] at hd
      rcases hd with rfl | rfl | rfl | rfl <;> first | exact kx | exact ki_int _), rfl⟩
  · exact ⟨kg_lst (by simp) (fun d hd => by
      simp only [List.mem_cons, List.not_mem_nil, or_false] at hd
      rcases hd with rfl | rfl | rfl <;> first | exact kx | exact ki_int _), rfl⟩
  · exact ⟨kg_3 (ki_int _) (ki_int _) kx, grind_eq rfl⟩
  · exact ⟨kg_3 (ki_int _) (ki_int _) kx, grind_1 (whole_no (by omega))⟩
  · exact ⟨kg_3 (ki_int _) (ki_int _) kx, grind_1 (whole_no (by omega))⟩
  · exact ⟨kg_3 (ki_int _) (ki_int _) kx, grind_2 (whole_no (by omega))⟩
  · exact ⟨kg_3 (ki_bl _) (ki_int _) kx, grind_1 rfl⟩
  · exact ⟨kg_3 (ki_int _) (ki_int _) (ki_lst (by rw [List.length_map]; exact kt) (kd_ints _)), grind_turn rfl⟩
  · exact ⟨kg_3 (ki_int _) (ki_int _) ki_non, grind_turn rfl⟩
  · rw [show cutD (tn.map D.int) (some 1) none = (tn.map D.int).drop 1 from cut_from 1]
    exact ⟨kg_3 (ki_int _) (ki_int _) (ki_tup (by rw [List.length_drop, List.length_map]; omega) fun d hd => kd_ints _ d (List.mem_of_mem_drop hd)), grind_turn (turn_len rfl (by rw [List.length_drop, List.length_map]; omega))⟩
  · exact ⟨kg_3 (ki_int _) (ki_int _) (ki_tup (by simp; omega) fun d hd => by
      rcases List.mem_append.mp hd with h | h
      · exact kd_ints _ d h
      · cases List.mem_singleton.mp h
        rfl), grind_turn (turn_len rfl (by simp; omega))⟩
  · refine ⟨kg_3 (ki_int _) (ki_int _) (ki_tup (by rw [List.length_replicate]; omega) fun d hd => by
      cases List.eq_of_mem_replicate hd
      rfl), grind_turn (turn_perm rfl fun h => ?_)⟩
    have : (B1.places : Int) ∈ intsOf (List.replicate B1.places (D.int (B1.places : Int))) := by
      refine List.mem_map.mpr ⟨.int (B1.places : Int), List.mem_replicate.mpr ⟨by omega, rfl⟩, rfl⟩
    have := mem_nats.mp (h.mem_iff.mp this)
    omega
  · exact ⟨kg_at rfl rfl, rfl⟩
  · rw [cut_to]
    have n123 : B1.places = 1 ∨ B1.places = 2 ∨ B1.places = 3 := by omega
    refine ⟨kg_3 (ki_int _) (ki_int _) (ki_tup (by rw [List.length_take]; simp; omega) fun d hd => ?_), grind_turn (turn_kind rfl ?_)⟩
    · have := List.mem_of_mem_take hd
      simp only [List.mem_cons, List.not_mem_nil, or_false] at this
      rcases this with rfl | rfl | rfl <;> rfl
    · rcases n123 with h | h | h <;> rw [h] <;> rfl
  · have n23 : (if (B1.places : Int) > 2 then (B1.places : Int) else 2) = ((2 : Nat) : Int) ∨ (if (B1.places : Int) > 2 then (B1.places : Int) else 2) = ((3 : Nat) : Int) := by
      split <;> omega
    refine ⟨kg_3 (ki_int _) (ki_int _) ?_, grind_turn (turn_kind rfl ?_)⟩
    · rcases n23 with h | h <;> rw [h, cut_to] <;> refine ki_tup (by simp) fun d hd => ?_
      all_goals
        have := List.mem_of_mem_take hd
        simp only [List.mem_cons, List.not_mem_nil, or_false] at this
        rcases this with rfl | rfl | rfl <;> rfl
    · rcases n23 with h | h <;> rw [h, cut_to] <;> rfl
end
end G.Q

namespace G.Q
open PySem PySem.Spec PyProof.Rows L2
local macro_rules | `(tactic| walk_at "ds") => `(tactic| skip)
local macro_rules | `(tactic| walk_at "ds") => `(tactic| dsimp only [List.set, wipeR, snd_cons, snd_nil])
local macro_rules | `(tactic| walk_at "d1") => `(tactic| ((first | with_reducible refine key_str ?_ | with_reducible refine ⟨_, rfl, ?_⟩ | with_reducible refine ⟨_, _, rfl, ?_⟩ | ((with_reducible show List.length _ ≤ 1000 ∧ _); refine len_ok (by rfl) ?_) | ((with_reducible show if D.isN _ = true then _ else _); first | refine s_nnT (by rfl) ?_ | refine s_nnF (by rfl) ?_) | ((with_reducible show if (!D.isN _) = true then _ else _); first | refine s_mnT (by rfl) ?_ | refine s_mnF (by rfl) ?_) | with_reducible refine s_cT ?_ | with_reducible refine s_cF ?_ | with_reducible refine s_nT ?_ | with_reducible refine s_nF ?_); walk_at "ds"))
local macro_rules | `(tactic| walk_at "d1") => `(tactic| ((with_reducible show WPs ..); (first | with_reducible refine wps_cons ?_ | with_reducible refine wps_nil ?_)))
local macro_rules | `(tactic| walk_at "d1") => `(tactic| ((with_reducible show WI ..); (with_reducible refine wi_rng1 ?_)))
local macro_rules | `(tactic| walk_at "d1") => `(tactic| ((with_reducible show WV ..); (with_reducible refine WI.wv ?_)))
local macro_rules | `(tactic| walk_at "d1") => `(tactic| ((with_reducible show WP ..); (first | with_reducible refine wp_no ?_ | with_reducible refine wp_some ?_)))
local macro_rules | `(tactic| walk_at "d1") => `(tactic| ((with_reducible show WOT ..); (first | with_reducible refine wot_new ?_ | with_reducible refine wot_disp1 ?_)))
local macro_rules | `(tactic| walk_at "d1") => `(tactic| ((with_reducible show WOK ..); (first | with_reducible refine wok_new ?_ | with_reducible refine wok_disp1 ?_)))
local macro_rules | `(tactic| walk_at "d1") => `(tactic| ((with_reducible show WD ..); (first | with_reducible refine wd_tup ?_ | with_reducible refine wd_lst ?_)))
local macro_rules | `(tactic| walk_at "d1") => `(tactic| ((with_reducible show WAD ..); (first | with_reducible refine wad_cons ?_ | with_reducible refine wad_nil ?_)))
local macro_rules | `(tactic| walk_at "d1") => `(tactic| ((with_reducible show DIn ..); (first | with_reducible refine din_I ?_ | with_reducible refine din_S ?_ | with_reducible refine din_T ?_)))
local macro_rules | `(tactic| walk_at "d1") => `(tactic| ((with_reducible show DGt ..); (first | with_reducible refine dgp_hard ?_ | with_reducible refine dgp_wide ?_ | with_reducible refine dgp_rows ?_ | with_reducible refine dgp_pairs ?_ | with_reducible refine dgp_many ?_ | with_reducible refine dg_hard ?_ | with_reducible refine dg_places ?_ | with_reducible refine dg_told ?_ | with_reducible refine dg_heavy ?_ | with_reducible refine dg_meets ?_)))
local macro_rules | `(tactic| walk_at "d1") => `(tactic| ((with_reducible show OU ..); (with_reducible refine ou_neg ?_)))
local macro_rules | `(tactic| walk_at "d1") => `(tactic| ((with_reducible show WAB ..); (first | with_reducible refine wab_cons ?_ | with_reducible refine wab_nil ?_)))
local macro_rules | `(tactic| walk_at "d1") => `(tactic| ((with_reducible show CRO ..); (first | with_reducible refine cr_listL ?_ | with_reducible refine cr_listT ?_ | with_reducible refine cr_listS ?_)))
local macro_rules | `(tactic| walk_at "d1") => `(tactic| ((with_reducible show WO ..); (first | with_reducible refine wo_lst ?_ | ((with_reducible show WO _ (tOp rMulS (tLst _) _) _ _); refine wo_rep ?_) | with_reducible refine wo_op ?_ | with_reducible refine wo_cb ?_ | with_reducible refine wo_rev ?_)))
local macro_rules | `(tactic| walk_at "d1") => `(tactic| ((with_reducible show CR ..); (first | with_reducible refine cr_lenDK ?_ | with_reducible refine cr_lenDT ?_ | with_reducible refine cr_lenL ?_ | with_reducible refine cr_lenT ?_ | with_reducible refine cr_lenS ?_ | with_reducible refine cr_lenX ?_ | with_reducible refine cr_tupX ?_ | with_reducible refine cr_sumS ?_ | with_reducible refine cr_sumLi ?_ | with_reducible refine cr_sumTi ?_ | with_reducible refine cr_allB ?_ | with_reducible refine cr_anyB ?_ | with_reducible refine cr_absI ?_ | with_reducible refine cr_int_i ?_ | with_reducible refine cr_int_b ?_ | with_reducible refine CRO.cr (cr_listL ?_) | with_reducible refine CRO.cr (cr_listT ?_) | with_reducible refine CRO.cr (cr_listS ?_) | with_reducible refine cr_tupLi ?_ | with_reducible refine cr_tupS ?_ | with_reducible refine cr_tupL ?_ | with_reducible refine cr_tupT ?_)))
local macro_rules | `(tactic| walk_at "d1") => `(tactic| ((with_reducible show WB ..); (first | ((with_reducible show WB _ (tVar _) _ _); first | refine wb_own rfl ?_ | refine wb_ownK rfl ?_ | refine wb_ownT rfl ?_ | refine wb_lkT rfl (by assumption) ?_ | refine wb_wl rfl ?_) | with_reducible refine WE.wb ?_)))
local macro_rules | `(tactic| walk_at "d1") => `(tactic| ((with_reducible show WGs ..); (first | with_reducible refine wgs_cons ?_ | with_reducible refine wgs_nil ?_ | with_reducible refine wgs_consM ?_ | with_reducible refine wgs_nilM ?_); walk_at "ds"))
local macro_rules | `(tactic| walk_at "d1") => `(tactic| ((with_reducible show WT ..); (first | with_reducible refine wt_test ?_ | with_reducible refine wt_B ?_ | with_reducible refine wt_not ?_ | with_reducible refine wt_and ?_ | with_reducible refine wt_or ?_ | with_reducible refine wt_yes ?_)))
local macro_rules | `(tactic| walk_at "d1") => `(tactic| ((with_reducible show OP ..); (first | with_reducible refine op_addSI ?_ | with_reducible refine op_I0i ?_ | with_reducible refine op_I0b ?_ | with_reducible refine op_eqII ?_ | with_reducible refine op_neII ?_ | with_reducible refine op_eqBB ?_ | with_reducible refine op_neBB ?_ | with_reducible refine op_eqSS ?_ | with_reducible refine op_neSS ?_ | with_reducible refine op_isNn ?_ | with_reducible refine op_notNn ?_ | with_reducible refine op_ip ?_ | ((with_reducible show OP _ (rIx _) (D.tup _) (D.int _) _); refine op_ixT (by rfl) ?_) | ((with_reducible show OP _ (rIx _) (D.lst _) (D.int _) _); refine op_ixL (by rfl) ?_))))
local macro_rules | `(tactic| walk_at "d1") => `(tactic| ((with_reducible show WG ..); (first | with_reducible refine wg_name (by first | trivial | decide) ?_ | with_reducible refine wg_tup rfl ?_ | with_reducible refine wg_stn rfl ?_ | with_reducible refine wg_lst rfl ?_); walk_at "ds"))
local macro_rules | `(tactic| walk_at "d1") => `(tactic| ((with_reducible show WA ..); (first | with_reducible refine wa_cons ?_ | with_reducible refine wa_nil ?_)))
local macro_rules | `(tactic| walk_at "d1") => `(tactic| ((with_reducible show WS ..); (first | with_reducible refine ws_seq ?_ | with_reducible refine ws_next ?_ | with_reducible refine ws_ret ?_ | with_reducible refine ws_retN ?_ | with_reducible refine ws_if ?_ | ((with_reducible show WS _ (tDrop (tBM _ "list" _ (tVar _) _)) _ _ _ _ _); refine ws_mt rfl ?_) | ((with_reducible show WS _ (tDrop (tBM0 _ "list" _ (tVar _))) _ _ _ _ _); refine ws_mt0 rfl ?_) | ((with_reducible show WS _ (tAsg (tBM _ "list" _ (tVar _) _) (gName _)) _ _ _ _ _); refine ws_mtS rfl ?_) | ((with_reducible show WS _ (tAsg (tBM0 _ "list" _ (tVar _)) (gName _)) _ _ _ _ _); refine ws_mt0S rfl ?_) | ((with_reducible show WS _ (tAsgO (tDisp _) _) _ _ _ _ _); refine ws_setOwnK ?_) | ((with_reducible show WS _ (tAsgO tDNewK _) _ _ _ _ _); refine ws_setOwnK ?_) | ((with_reducible show WS _ (tAsgO (tDc _ _ _ _ _ _) _) _ _ _ _ _); refine ws_setOwnK ?_) | ((with_reducible show WS _ (tAsgO tDNewT _) _ _ _ _ _); refine ws_setOwnT ?_) | ((with_reducible show WS _ (tAsgO (tDispT1 _ _) _) _ _ _ _ _); refine ws_setOwnT ?_) | with_reducible refine ws_setOwn ?_ | ((with_reducible show WS _ (tAsg _ (gSub (tVar _) _ rSetL)) _ _ _ _ _); first | refine ws_setItem rfl ?_ | refine ws_setWl rfl ?_) | ((with_reducible show WS _ (tAugS (tVar _) _ _ _ _ _) _ _ _ _ _); refine ws_augItem rfl ?_) | ((with_reducible show WS _ (sDPut (tVar _) _ _) _ _ _ _ _); first | refine ws_dput rfl ?_ | refine ws_dputT rfl ?_) | ((with_reducible show WS _ (tDrop (tBM _ "dict" rUpd (tVar _) _)) _ _ _ _ _); refine ws_upd rfl ?_) | ((with_reducible show WS _ (tAsg (tCall (spDS _ _ _) _ _ _) (gName _)) _ _ _ _ _); refine ws_asgS ?_) | with_reducible refine ws_asg ?_ | with_reducible refine ws_drop ?_ | ((with_reducible show WS _ (tAug _ _ _) _ _ _ _ _); refine ws_aug rfl ?_) | with_reducible refine ws_par ?_ | with_reducible refine ws_break ?_ | with_reducible refine ws_cont ?_); walk_at "ds"))
local macro_rules | `(tactic| walk_at "d1") => `(tactic| ((with_reducible show WE ..); (first | ((with_reducible show WE _ (tVar _) _ _); refine we_var rfl ?_) | with_reducible refine we_op ?_ | with_reducible refine we_call ?_ | with_reducible refine we_int ?_ | with_reducible refine we_str ?_ | with_reducible refine we_bl ?_ | with_reducible refine we_non ?_ | with_reducible refine we_isi ?_ | with_reducible refine we_notV ?_ | with_reducible refine we_andV ?_ | with_reducible refine we_orV ?_ | with_reducible refine we_if ?_ | with_reducible refine we_chain ?_ | with_reducible refine we_un ?_ | with_reducible refine we_meth (by decide) ?_ | with_reducible refine we_tupK2 ?_ | with_reducible refine we_tup ?_ | with_reducible refine WO.we (wo_lst ?_) | with_reducible refine we_cb ?_ | ((with_reducible show WE _ (tFld _ _ "hard") _ _); refine we_hard (by assumption) ?_) | ((with_reducible show WE _ (tFld _ _ "heavy") _ _); refine we_heavy (by assumption) ?_) | ((with_reducible show WE _ (tFld _ _ "places") _ _); refine we_places (by assumption) ?_) | ((with_reducible show WE _ (tFld _ _ "told") _ _); refine we_told (by assumption) ?_) | ((with_reducible show WE _ (tFld _ _ "meets") _ _); refine we_meets (by assumption) ?_) | with_reducible refine we_din ?_ | with_reducible refine we_dnotin ?_ | ((with_reducible show WE _ (tDGet (tVar _) _) _ _); refine we_dgetL (by assumption) rfl ?_) | with_reducible refine we_dget ?_ | with_reducible refine we_idx ?_ | with_reducible refine WO.we (wo_rev ?_))))
local macro_rules | `(tactic| walk_at "dz") => `(tactic| skip)
local macro_rules | `(tactic| walk_at "dz") => `(tactic| (dsimp only [List.set, wipeR, snd_cons, snd_nil]; repeat walk_at "d1"))
local macro_rules | `(tactic| walk_at "dw") => `(tactic| (walk_at "ds"; (repeat walk_at "d1"); walk_at "dz"))
local macro_rules | `(tactic| walk_at "c1") => `(tactic| (first | ((with_reducible show Wl _ _ → _); intro _) | ((with_reducible show ∀ _ : HO, Wl _ _ → _); intro _ _)))
local macro_rules | `(tactic| walk_at "c1") => `(tactic| ((with_reducible show CI ..); (with_reducible refine c_rng1 ?_)))
local macro_rules | `(tactic| walk_at "c1") => `(tactic| ((with_reducible show CT ..); (with_reducible refine c_test ?_)))
local macro_rules | `(tactic| walk_at "c1") => `(tactic| ((with_reducible show CA ..); (first | with_reducible refine ca_cons ?_ | with_reducible refine ca_nil rfl (by assumption) ?_)))
local macro_rules | `(tactic| walk_at "c1") => `(tactic| ((with_reducible show CE ..); (first | with_reducible refine c_call rfl ?_ | with_reducible refine c_op ?_ | ((with_reducible show CE _ _ _ (tVar _) _ _); refine CE.of rfl (by assumption) ?_) | ((with_reducible show CE _ _ _ (tC _) _ _); refine CE.of rfl (by assumption) ?_) | with_reducible refine c_lst ?_ | with_reducible refine c_tup ?_)))
local macro_rules | `(tactic| walk_at "cd") => `(tactic| (walk_at "d1"))
local macro_rules | `(tactic| walk_at "cd") => `(tactic| (walk_at "c1"; walk_at "ds"))
local macro_rules | `(tactic| walk_at "cz") => `(tactic| skip)
local macro_rules | `(tactic| walk_at "cz") => `(tactic| (dsimp only [List.set, wipeR, snd_cons, snd_nil]; repeat walk_at "cd"))
local macro_rules | `(tactic| walk_at "cw") => `(tactic| (walk_at "ds"; (repeat walk_at "cd"); walk_at "cz"))

/-! ## a turn with one fault -/
theorem ws_imp {M : Cm} {t : TS} {ρ : Rho} {nx nx1 : Rho → Prop} {rt : Sl → Rho → Prop} {bk ct : Rho → Prop} (h : WS M t ρ nx1 rt bk ct) (i : ∀ ρ', nx1 ρ' → nx ρ') : WS M t ρ nx rt bk ct := fun σ F H E e f1 f2 f3 f4 =>
  h σ F H E e (fun ρ' σ' F' H' s e' q => f1 ρ' σ' F' H' s e' (i ρ' q)) f2 f3 f4
def putT (tn : List Int) (p : Nat) (y : D) : List D := (tn.map D.int).take p ++ [y] ++ (tn.map D.int).drop (p + 1)
theorem putT_len {tn : List Int} {p : Nat} {y : D} (h : p < tn.length) : (putT tn p y).length = tn.length := by
  unfold putT
  simp
  omega
theorem putT_int (tn : List Int) (p : Nat) (v : Int) : putT tn p (.int v) = ((tn.take p ++ [v] ++ tn.drop (p + 1)).map D.int) := by
  unfold putT
  simp
theorem ints_map (l : List Int) : intsOf (l.map D.int) = l := by
  unfold intsOf
  rw [List.map_map]
  exact List.map_id _
theorem put_kind {tn : List Int} {p n : Nat} {y : D} (h : isIntD y = false) : turnB (.tup (putT tn p y)) n = false := by
  refine turn_kind rfl ?_
  unfold putT
  rw [List.all_append, List.all_append]
  show (_ && (isIntD y && true) && _) = false
  rw [h]
  simp
theorem put_out {tn : List Int} {p n : Nat} {v : Int} (h : v < 0 ∨ (n : Int) ≤ v) : turnB (.tup (putT tn p (.int v))) n = false := by
  refine turn_perm rfl fun z => ?_
  rw [putT_int, ints_map] at z
  have := mem_nats.mp (z.mem_iff.mp (show v ∈ tn.take p ++ [v] ++ tn.drop (p + 1) by simp))
  omega
theorem put_twice {tn : List Int} {p q n : Nat} {v : Int} (hq : tn[q]? = some v) (ne : q ≠ p) : turnB (.tup (putT tn p (.int v))) n = false := by
  refine turn_perm rfl fun z => ?_
  rw [putT_int, ints_map] at z
  have nd := z.nodup_iff.mpr (nats_nodup n)
  rw [List.append_assoc, List.nodup_append] at nd
  obtain ⟨_, n2, n3⟩ := nd
  obtain ⟨hl, he⟩ := List.getElem?_eq_some_iff.mp hq
  by_cases h : q < p
  · exact n3 v (List.mem_take_iff_getElem.mpr ⟨q, by omega, he⟩) v (by simp) rfl
  · have m : v ∈ tn.drop (p + 1) := List.mem_drop_iff_getElem.mpr ⟨q - (p + 1), by omega, by rw [← he]; congr 1; omega⟩
    exact (List.nodup_cons.mp n2).1 m
theorem ki_put {tn : List Int} {p : Nat} {y : D} (h : p < tn.length) (h3 : tn.length ≤ 60) (ky : Kd y) : Ki (.tup (putT tn p y)) := by
  refine ki_tup (by rw [putT_len h]; exact h3) fun d hd => ?_
  unfold putT at hd
  rcases List.mem_append.mp hd with hd | hd
  · rcases List.mem_append.mp hd with hd | hd
    · exact kd_ints _ d (List.mem_of_mem_take hd)
    · cases List.mem_singleton.mp hd
      exact ky
  · exact kd_ints _ d (List.mem_of_mem_drop hd)
/-- the place ahead, round about -/
theorem at_back {tn : List Int} {p : Nat} (h : p < tn.length) : ∃ q v, tn[q]? = some v ∧ atI (tn.map D.int) ((p : Int) - 1) = some (.int v) ∧ (q = p → tn.length = 1) := by
  by_cases z : p = 0
  · subst z
    refine ⟨tn.length - 1, tn[tn.length - 1]'(by omega), List.getElem?_eq_getElem (by omega), ?_, by omega⟩
    unfold atI
    rw [List.length_map, show ixN tn.length (((0 : Nat) : Int) - 1) = some (tn.length - 1) by
      unfold ixN
      rw [if_neg (by omega), if_pos (by omega)]
      congr 1
      omega]
    show (tn.map D.int)[tn.length - 1]? = _
    rw [List.getElem?_map, List.getElem?_eq_getElem (by omega)]
    rfl
  · refine ⟨p - 1, tn[p - 1]'(by omega), List.getElem?_eq_getElem (by omega), ?_, by omega⟩
    rw [show (p : Int) - 1 = ((p - 1 : Nat) : Int) by omega]
    exact at_mapD (List.getElem?_eq_getElem (by omega))
section
variable {P : Program} {w : World} {K : PySem.W.Frag} {mg : Str → Option Value} {base : Heap} {C : Addr}
def cTurnS : Ct := fun ds k => ∃ B, ds = [.st, modelD B] ∧ BOk B ∧ ∀ (i : Nat) d, i < B.told.length → Kg d → grindB d B.hard.length B.places = false → k (.tup [.lst ((B.told.map gDX).set i d), .int i])
abbrev s__law_turn_spoilt : Stmt := topS 28
abbrev n__law_turn_spoilt : List Str := ["_law_state", "_law_model", "_law_found", "_law_at", "_law_one", "_law_other", "_law_turn", "_law_size", "_law_place", "_law_odd"]
theorem sc__law_turn_spoilt : FnScope ["_law_state", "_law_model", "_law_found", "_law_at", "_law_one", "_law_other", "_law_turn", "_law_size", "_law_place", "_law_odd"] ["_law_state", "_law_model"] (defScope s__law_turn_spoilt) := ⟨rfl, rfl, rfl, by decide +kernel, rfl, by decide +kernel, by decide +kernel⟩
theorem ok_turn_spoilt (B0 : Blt mg) (d__law_digit : Def P w K mg base 1 "_law_digit" ["_law_state", "_law_base"] (spD K C cDigit)) (F : FunAt K mg "_law_turn_spoilt" s__law_turn_spoilt ["_law_state", "_law_model"]) : Def P w K mg base 2 "_law_turn_spoilt" ["_law_state", "_law_model"] (spD K C cTurnS) := by
  refine F.defD (n := 1) sc__law_turn_spoilt (fun ds k h => by obtain ⟨_, rfl, _⟩ := h; rfl) fun f cdv A outer s H E sa F ds k hr h => ?_
  obtain ⟨B1, rfl, ok, q⟩ := h
  have B := B0
  have p1 := ok.plates
  have p2 := ok.places
  have p3 := ok.told
  refine ⟨_, (pss_cons (ps_own (ps_set (i := 2) sc__law_turn_spoilt.nd rfl (Or.inl rfl) (pe_callTy (k_list (K := K) rfl) (by rfl) B.list bb_list (pa_cons (pe_dget (hu_of hr) (pv 1) pe_str (fun _ _ => rfl)) pa_nil)))) (pss_cons (ps_set (i := 3) sc__law_turn_spoilt.nd rfl (Or.inl rfl) (pe_d d__law_digit (hr.mono (by decide)) (by rfl) (pa_cons (pv 0) (pa_cons (pe_callB (k_len (K := K) rfl) (by rfl) B.len bb_len (pa_cons (pv 2) pa_nil)) pa_nil)))) (pss_cons (ps_asg (pe_ix (k_ix (K := K) rfl) (pv 2) (pv 3) (fun _ _ => rfl)) (k_tup (K := K) (n := 3) rfl rfl (pgs_cons (pg_name (i := 4) sc__law_turn_spoilt.nd rfl (Or.inl rfl)) (pgs_cons (pg_name (i := 5) sc__law_turn_spoilt.nd rfl (Or.inl rfl)) (pgs_cons (pg_name (i := 6) sc__law_turn_spoilt.nd rfl (Or.inl rfl)) pgs_nil))))) (pss_cons (ps_set (i := 7) sc__law_turn_spoilt.nd rfl (Or.inl rfl) (pe_callB (k_len (K := K) rfl) (by rfl) B.len bb_len (pa_cons (pv 6) pa_nil))) (pss_cons (ps_set (i := 8) sc__law_turn_spoilt.nd rfl (Or.inl rfl) (pe_d d__law_digit (hr.mono (by decide)) (by rfl) (pa_cons (pv 0) (pa_cons (pv 7) pa_nil)))) (pss_cons (ps_set (i := 9) sc__law_turn_spoilt.nd rfl (Or.inl rfl) (pe_ix (k_ix (K := K) rfl) (pe_lst (pa_cons (pe_ix (k_ix (K := K) rfl) (pv 6) (pe_op op_sub (pv 8) pe_int) (fun _ _ => rfl)) (pa_cons (pe_un un_neg pe_int) (pa_cons (pv 7) (pa_cons pe_bl (pa_cons pe_non pa_nil)))))) (pe_d d__law_digit (hr.mono (by decide)) (by rfl) (pa_cons (pv 0) (pa_cons pe_int pa_nil))) (fun _ _ => rfl))) (pss_cons (ps_if (PW.pt (pw_and (pt_cmpR (k_eq (K := K) rfl hr.units) (pv 9) (pe_ix (k_ix (K := K) rfl) (pv 6) (pv 8) (fun _ _ => rfl)) (nomark _)) (pw_and1 (pt_not (pt_val (pe_callB (k_isi (K := K) rfl) (by rfl) B.isinstance bb_isinstance (pa_cons (pv 9) (pa_cons (pe_bltn (v := .ty "bool") (by rfl) B.bool bb_bool rfl) pa_nil)))))))) (pss_one (ps_set (i := 9) sc__law_turn_spoilt.nd rfl (Or.inl rfl) (pv 7))) pss_nil) (pss_cons (ps_asg (pe_tup (pa_cons (pv 4) (pa_cons (pv 5) (pa_cons (pe_op (k_addS (K := K) rfl) (pe_op (k_addS (K := K) rfl) (pe_slice (k_slA rfl) (pv 6) po_none (po_some (pv 8))) (pe_tup (pa_cons (pv 9) pa_nil))) (pe_slice (k_slA rfl) (pv 6) (po_some (pe_op (k_addS (K := K) rfl) (pv 8) pe_int)) po_none)) pa_nil)))) (pg_sub (pv 2) (pv 3) set_list)) (pss_one (ps_ret (pe_tup (pa_cons (pv 2) (pa_cons (pv 3) pa_nil))))))))))))), ?_⟩; refine start_eqR (ρ' := [some (.d (.st)), some (.d (modelD B1)), none, none, none, none, none, none, none, none]) rfl ?_
  walk_at "dw"
  have lT : (B1.told.map gDX).length = B1.told.length := List.length_map ..
  refine ⟨_, rfl, small_d (by omega) (by omega), fun at0 a0 a1 => ?_⟩
  obtain ⟨i, rfl⟩ : ∃ i : Nat, at0 = (i : Int) := ⟨at0.toNat, by omega⟩
  have hi : i < B1.told.length := by omega
  obtain ⟨g, hg⟩ : ∃ g, B1.told[i]? = some g := ⟨_, List.getElem?_eq_getElem hi⟩
  have ein := ok.each g (List.mem_of_getElem? hg)
  have tl : g.2.2.length = B1.places := by rw [ein.2.2.2.length_eq, List.length_range]
  walk_at "dw"
  refine op_ixL (at_mapD hg) ?_
  walk_at "dw"
  have kt : (g.2.2.map fun (x : Nat) => (x : Int)).length ≤ 60 := by rw [List.length_map]; omega
  have ht : (g.2.2.map fun (x : Nat) => (x : Int)).Perm (natsI B1.places) := ein.2.2.2.map _
  have lt : (g.2.2.map fun (x : Nat) => (x : Int)).length = B1.places := by rw [List.length_map]; exact tl
  generalize (g.2.2.map fun (x : Nat) => (x : Int)) = tn at *
  refine ⟨_, rfl, small_d (by omega) (by omega), fun pl0 b0 b1 => ?_⟩
  obtain ⟨p, rfl⟩ : ∃ p : Nat, pl0 = (p : Int) := ⟨pl0.toNat, by omega⟩
  have hp : p < tn.length := by omega
  walk_at "dw"
  obtain ⟨r, v, hr1, hr2, hr3⟩ := at_back hp
  refine op_ixX hr2 ?_
  walk_at "dw"
  refine ⟨_, rfl, small_d (by decide) (by decide), fun j c0 c1 => ?_⟩
  walk_at "dw"
  refine op_pick c0 c1 (by simp) fun x hx => ?_
  refine wg_name trivial ?_
  dsimp only [List.set]
  refine ws_seq (ws_imp (nx1 := fun ρ' => ∃ y, Kd y ∧ turnB (.tup (putT tn p y)) B1.places = false ∧ ρ' = [some (.d .st), some (.d (modelD B1)), some (.own (B1.told.map gDX)), some (.d (.int (i : Int))), some (.d (.int (g.1 : Int))), some (.d (.int (g.2.1 : Int))), some (.d (.ixt tn)), some (.d (.int (tn.length : Int))), some (.d (.int (p : Int))), some (.d y)]) ?_ ?_)
  · walk_at "dw"
    refine op_ixX (d := .int (tn.getD p 0)) (at_intD (by omega)) ?_
    have hu : tn[p]? = some (tn.getD p 0) := by rw [List.getD_eq_getElem?_getD, List.getElem?_eq_getElem hp]; rfl
    have hu2 := mem_nats.mp (ht.mem_iff.mp (List.mem_of_getElem? hu))
    have keep : ∀ y : D, Kd y → turnB (.tup (putT tn p y)) B1.places = false → ∃ z, Kd z ∧ turnB (.tup (putT tn p z)) B1.places = false ∧ [some (Sl.d .st), some (.d (modelD B1)), some (.own (B1.told.map gDX)), some (.d (.int (i : Int))), some (.d (.int (g.1 : Int))), some (.d (.int (g.2.1 : Int))), some (.d (.ixt tn)), some (.d (.int (tn.length : Int))), some (.d (.int (p : Int))), some (.d y)] = [some (.d .st), some (.d (modelD B1)), some (.own (B1.told.map gDX)), some (.d (.int (i : Int))), some (.d (.int (g.1 : Int))), some (.d (.int (g.2.1 : Int))), some (.d (.ixt tn)), some (.d (.int (tn.length : Int))), some (.d (.int (p : Int))), some (.d z)] := fun y a b => ⟨y, a, b, rfl⟩
    generalize tn.getD p 0 = u at *
    simp only [List.mem_cons, List.not_mem_nil, or_false] at hx
    rcases hx with rfl | rfl | rfl | rfl | rfl
    · refine op_eqDD .int .int ?_
      rw [eqD_int]
      by_cases z : v = u
      · rw [decide_eq_true z]
        walk_at "dw"
        refine ⟨_, _, rfl, kb_ib, ?_⟩
        walk_at "dw"
        exact keep _ rfl (put_out (.inr (by omega)))
      · rw [decide_eq_false z]
        walk_at "dw"
        refine keep _ rfl (put_twice hr1 fun e => z ?_)
        rw [e, hu] at hr1
        exact (Option.some.inj hr1).symm
    · refine op_eqDD .int .int ?_
      rw [eqD_int, decide_eq_false (by omega)]
      walk_at "dw"
      exact keep _ rfl (put_out (.inl (by decide)))
    · refine op_eqDD .int .int ?_
      rw [eqD_int, decide_eq_false (by omega)]
      walk_at "dw"
      exact keep _ rfl (put_out (.inr (by omega)))
    · refine op_eqDD .bl .int ?_
      generalize eqD (.bl true) (.int u) = b
      cases b with
      | true =>
        walk_at "dw"
        refine ⟨_, _, rfl, kb_bb, ?_⟩
        walk_at "dw"
        exact keep _ rfl (put_kind rfl)
      | false =>
        walk_at "dw"
        exact keep _ rfl (put_kind rfl)
    · refine op_eqDD .non .int ?_
      rw [show eqD .non (.int u) = false from rfl]
      walk_at "dw"
      exact keep _ rfl (put_kind rfl)
  · rintro ρ' ⟨y, ky, ty, rfl⟩
    walk_at "dw"
    refine we_slA ?_
    walk_at "dw"
    rw [cut_to]
    refine op_catT (by simp; omega) ?_
    refine WE.wb (we_slA ?_)
    walk_at "dw"
    rw [show (p : Int) + 1 = ((p + 1 : Nat) : Int) by omega, cut_from]
    refine op_catT (by simp; omega) ?_
    walk_at "dw"
    refine ⟨_, i, rfl, by rw [lT]; exact ix_int hi, ?_⟩
    refine ws_frz (i := 2) rfl ?_
    walk_at "dw"
    exact q i (.tup [.int (g.1 : Int), .int (g.2.1 : Int), .tup (putT tn p y)]) hi (kg_3 (ki_int _) (ki_int _) (ki_put hp kt ky)) (grind_turn ty)
end
end G.Q

namespace G.Q
open PySem PySem.Spec PyProof.Rows L2
local macro_rules | `(tactic| walk_at "ds") => `(tactic| skip)
local macro_rules | `(tactic| walk_at "ds") => `(tactic| dsimp only [List.set, wipeR, snd_cons, snd_nil])
local macro_rules | `(tactic| walk_at "d1") => `(tactic| ((first | with_reducible refine key_str ?_ | with_reducible refine ⟨_, rfl, ?_⟩ | with_reducible refine ⟨_, _, rfl, ?_⟩ | ((with_reducible show List.length _ ≤ 1000 ∧ _); refine len_ok (by rfl) ?_) | ((with_reducible show if D.isN _ = true then _ else _); first | refine s_nnT (by rfl) ?_ | refine s_nnF (by rfl) ?_) | ((with_reducible show if (!D.isN _) = true then _ else _); first | refine s_mnT (by rfl) ?_ | refine s_mnF (by rfl) ?_) | with_reducible refine s_cT ?_ | with_reducible refine s_cF ?_ | with_reducible refine s_nT ?_ | with_reducible refine s_nF ?_); walk_at "ds"))
local macro_rules | `(tactic| walk_at "d1") => `(tactic| ((with_reducible show WPs ..); (first | with_reducible refine wps_cons ?_ | with_reducible refine wps_nil ?_)))
local macro_rules | `(tactic| walk_at "d1") => `(tactic| ((with_reducible show WI ..); (with_reducible refine wi_rng1 ?_)))
local macro_rules | `(tactic| walk_at "d1") => `(tactic| ((with_reducible show WV ..); (with_reducible refine WI.wv ?_)))
local macro_rules | `(tactic| walk_at "d1") => `(tactic| ((with_reducible show WP ..); (first | with_reducible refine wp_no ?_ | with_reducible refine wp_some ?_)))
local macro_rules | `(tactic| walk_at "d1") => `(tactic| ((with_reducible show WOT ..); (first | with_reducible refine wot_new ?_ | with_reducible refine wot_disp1 ?_)))
local macro_rules | `(tactic| walk_at "d1") => `(tactic| ((with_reducible show WOK ..); (first | with_reducible refine wok_new ?_ | with_reducible refine wok_disp1 ?_)))
local macro_rules | `(tactic| walk_at "d1") => `(tactic| ((with_reducible show WD ..); (first | with_reducible refine wd_tup ?_ | with_reducible refine wd_lst ?_)))
local macro_rules | `(tactic| walk_at "d1") => `(tactic| ((with_reducible show WAD ..); (first | with_reducible refine wad_cons ?_ | with_reducible refine wad_nil ?_)))
local macro_rules | `(tactic| walk_at "d1") => `(tactic| ((with_reducible show DIn ..); (first | with_reducible refine din_I ?_ | with_reducible refine din_S ?_ | with_reducible refine din_T ?_)))
local macro_rules | `(tactic| walk_at "d1") => `(tactic| ((with_reducible show DGt ..); (first | with_reducible refine dgp_hard ?_ | with_reducible refine dgp_wide ?_ | with_reducible refine dgp_rows ?_ | with_reducible refine dgp_pairs ?_ | with_reducible refine dgp_many ?_ | with_reducible refine dg_hard ?_ | with_reducible refine dg_places ?_ | with_reducible refine dg_told ?_ | with_reducible refine dg_heavy ?_ | with_reducible refine dg_meets ?_)))
local macro_rules | `(tactic| walk_at "d1") => `(tactic| ((with_reducible show OU ..); (with_reducible refine ou_neg ?_)))
local macro_rules | `(tactic| walk_at "d1") => `(tactic| ((with_reducible show WAB ..); (first | with_reducible refine wab_cons ?_ | with_reducible refine wab_nil ?_)))
local macro_rules | `(tactic| walk_at "d1") => `(tactic| ((with_reducible show CRO ..); (first | with_reducible refine cr_listL ?_ | with_reducible refine cr_listT ?_ | with_reducible refine cr_listS ?_)))
local macro_rules | `(tactic| walk_at "d1") => `(tactic| ((with_reducible show WO ..); (first | with_reducible refine wo_lst ?_ | ((with_reducible show WO _ (tOp rMulS (tLst _) _) _ _); refine wo_rep ?_) | with_reducible refine wo_op ?_ | with_reducible refine wo_cb ?_ | with_reducible refine wo_rev ?_)))
local macro_rules | `(tactic| walk_at "d1") => `(tactic| ((with_reducible show CR ..); (first | with_reducible refine cr_lenDK ?_ | with_reducible refine cr_lenDT ?_ | with_reducible refine cr_lenL ?_ | with_reducible refine cr_lenT ?_ | with_reducible refine cr_lenS ?_ | with_reducible refine cr_lenX ?_ | with_reducible refine cr_tupX ?_ | with_reducible refine cr_sumS ?_ | with_reducible refine cr_sumLi ?_ | with_reducible refine cr_sumTi ?_ | with_reducible refine cr_allB ?_ | with_reducible refine cr_anyB ?_ | with_reducible refine cr_absI ?_ | with_reducible refine cr_int_i ?_ | with_reducible refine cr_int_b ?_ | with_reducible refine CRO.cr (cr_listL ?_) | with_reducible refine CRO.cr (cr_listT ?_) | with_reducible refine CRO.cr (cr_listS ?_) | with_reducible refine cr_tupLi ?_ | with_reducible refine cr_tupS ?_ | with_reducible refine cr_tupL ?_ | with_reducible refine cr_tupT ?_)))
local macro_rules | `(tactic| walk_at "d1") => `(tactic| ((with_reducible show WB ..); (first | ((with_reducible show WB _ (tVar _) _ _); first | refine wb_own rfl ?_ | refine wb_ownK rfl ?_ | refine wb_ownT rfl ?_ | refine wb_lkT rfl (by assumption) ?_ | refine wb_wl rfl ?_) | with_reducible refine WE.wb ?_)))
local macro_rules | `(tactic| walk_at "d1") => `(tactic| ((with_reducible show WGs ..); (first | with_reducible refine wgs_cons ?_ | with_reducible refine wgs_nil ?_ | with_reducible refine wgs_consM ?_ | with_reducible refine wgs_nilM ?_); walk_at "ds"))
local macro_rules | `(tactic| walk_at "d1") => `(tactic| ((with_reducible show WT ..); (first | with_reducible refine wt_test ?_ | with_reducible refine wt_B ?_ | with_reducible refine wt_not ?_ | with_reducible refine wt_and ?_ | with_reducible refine wt_or ?_ | with_reducible refine wt_yes ?_)))
local macro_rules | `(tactic| walk_at "d1") => `(tactic| ((with_reducible show OP ..); (first | with_reducible refine op_addSI ?_ | with_reducible refine op_I0i ?_ | with_reducible refine op_I0b ?_ | with_reducible refine op_eqII ?_ | with_reducible refine op_neII ?_ | with_reducible refine op_eqBB ?_ | with_reducible refine op_neBB ?_ | with_reducible refine op_eqSS ?_ | with_reducible refine op_neSS ?_ | with_reducible refine op_isNn ?_ | with_reducible refine op_notNn ?_ | with_reducible refine op_ip ?_ | ((with_reducible show OP _ (rIx _) (D.tup _) (D.int _) _); refine op_ixT (by rfl) ?_) | ((with_reducible show OP _ (rIx _) (D.lst _) (D.int _) _); refine op_ixL (by rfl) ?_))))
local macro_rules | `(tactic| walk_at "d1") => `(tactic| ((with_reducible show WG ..); (first | with_reducible refine wg_name (by first | trivial | decide) ?_ | with_reducible refine wg_tup rfl ?_ | with_reducible refine wg_stn rfl ?_ | with_reducible refine wg_lst rfl ?_); walk_at "ds"))
local macro_rules | `(tactic| walk_at "d1") => `(tactic| ((with_reducible show WA ..); (first | with_reducible refine wa_cons ?_ | with_reducible refine wa_nil ?_)))
local macro_rules | `(tactic| walk_at "d1") => `(tactic| ((with_reducible show WS ..); (first | with_reducible refine ws_seq ?_ | with_reducible refine ws_next ?_ | with_reducible refine ws_ret ?_ | with_reducible refine ws_retN ?_ | with_reducible refine ws_if ?_ | ((with_reducible show WS _ (tDrop (tBM _ "list" _ (tVar _) _)) _ _ _ _ _); refine ws_mt rfl ?_) | ((with_reducible show WS _ (tDrop (tBM0 _ "list" _ (tVar _))) _ _ _ _ _); refine ws_mt0 rfl ?_) | ((with_reducible show WS _ (tAsg (tBM _ "list" _ (tVar _) _) (gName _)) _ _ _ _ _); refine ws_mtS rfl ?_) | ((with_reducible show WS _ (tAsg (tBM0 _ "list" _ (tVar _)) (gName _)) _ _ _ _ _); refine ws_mt0S rfl ?_) | ((with_reducible show WS _ (tAsgO (tDisp _) _) _ _ _ _ _); refine ws_setOwnK ?_) | ((with_reducible show WS _ (tAsgO tDNewK _) _ _ _ _ _); refine ws_setOwnK ?_) | ((with_reducible show WS _ (tAsgO (tDc _ _ _ _ _ _) _) _ _ _ _ _); refine ws_setOwnK ?_) | ((with_reducible show WS _ (tAsgO tDNewT _) _ _ _ _ _); refine ws_setOwnT ?_) | ((with_reducible show WS _ (tAsgO (tDispT1 _ _) _) _ _ _ _ _); refine ws_setOwnT ?_) | with_reducible refine ws_setOwn ?_ | ((with_reducible show WS _ (tAsg _ (gSub (tVar _) _ rSetL)) _ _ _ _ _); first | refine ws_setItem rfl ?_ | refine ws_setWl rfl ?_) | ((with_reducible show WS _ (tAugS (tVar _) _ _ _ _ _) _ _ _ _ _); refine ws_augItem rfl ?_) | ((with_reducible show WS _ (sDPut (tVar _) _ _) _ _ _ _ _); first | refine ws_dput rfl ?_ | refine ws_dputT rfl ?_) | ((with_reducible show WS _ (tDrop (tBM _ "dict" rUpd (tVar _) _)) _ _ _ _ _); refine ws_upd rfl ?_) | ((with_reducible show WS _ (tAsg (tCall (spDS _ _ _) _ _ _) (gName _)) _ _ _ _ _); refine ws_asgS ?_) | with_reducible refine ws_asg ?_ | with_reducible refine ws_drop ?_ | ((with_reducible show WS _ (tAug _ _ _) _ _ _ _ _); refine ws_aug rfl ?_) | with_reducible refine ws_par ?_ | with_reducible refine ws_break ?_ | with_reducible refine ws_cont ?_); walk_at "ds"))
local macro_rules | `(tactic| walk_at "d1") => `(tactic| ((with_reducible show WE ..); (first | ((with_reducible show WE _ (tVar _) _ _); refine we_var rfl ?_) | with_reducible refine we_op ?_ | with_reducible refine we_call ?_ | with_reducible refine we_int ?_ | with_reducible refine we_str ?_ | with_reducible refine we_bl ?_ | with_reducible refine we_non ?_ | with_reducible refine we_isi ?_ | with_reducible refine we_notV ?_ | with_reducible refine we_andV ?_ | with_reducible refine we_orV ?_ | with_reducible refine we_if ?_ | with_reducible refine we_chain ?_ | with_reducible refine we_un ?_ | with_reducible refine we_meth (by decide) ?_ | with_reducible refine we_tupK2 ?_ | with_reducible refine we_tup ?_ | with_reducible refine WO.we (wo_lst ?_) | with_reducible refine we_cb ?_ | ((with_reducible show WE _ (tFld _ _ "hard") _ _); refine we_hard (by assumption) ?_) | ((with_reducible show WE _ (tFld _ _ "heavy") _ _); refine we_heavy (by assumption) ?_) | ((with_reducible show WE _ (tFld _ _ "places") _ _); refine we_places (by assumption) ?_) | ((with_reducible show WE _ (tFld _ _ "told") _ _); refine we_told (by assumption) ?_) | ((with_reducible show WE _ (tFld _ _ "meets") _ _); refine we_meets (by assumption) ?_) | with_reducible refine we_din ?_ | with_reducible refine we_dnotin ?_ | ((with_reducible show WE _ (tDGet (tVar _) _) _ _); refine we_dgetL (by assumption) rfl ?_) | with_reducible refine we_dget ?_ | with_reducible refine we_idx ?_ | with_reducible refine WO.we (wo_rev ?_))))
local macro_rules | `(tactic| walk_at "dz") => `(tactic| skip)
local macro_rules | `(tactic| walk_at "dz") => `(tactic| (dsimp only [List.set, wipeR, snd_cons, snd_nil]; repeat walk_at "d1"))
local macro_rules | `(tactic| walk_at "dw") => `(tactic| (walk_at "ds"; (repeat walk_at "d1"); walk_at "dz"))
local macro_rules | `(tactic| walk_at "c1") => `(tactic| (first | ((with_reducible show Wl _ _ → _); intro _) | ((with_reducible show ∀ _ : HO, Wl _ _ → _); intro _ _)))
local macro_rules | `(tactic| walk_at "c1") => `(tactic| ((with_reducible show CI ..); (with_reducible refine c_rng1 ?_)))
local macro_rules | `(tactic| walk_at "c1") => `(tactic| ((with_reducible show CT ..); (with_reducible refine c_test ?_)))
local macro_rules | `(tactic| walk_at "c1") => `(tactic| ((with_reducible show CA ..); (first | with_reducible refine ca_cons ?_ | with_reducible refine ca_nil rfl (by assumption) ?_)))
local macro_rules | `(tactic| walk_at "c1") => `(tactic| ((with_reducible show CE ..); (first | with_reducible refine c_call rfl ?_ | with_reducible refine c_op ?_ | ((with_reducible show CE _ _ _ (tVar _) _ _); refine CE.of rfl (by assumption) ?_) | ((with_reducible show CE _ _ _ (tC _) _ _); refine CE.of rfl (by assumption) ?_) | with_reducible refine c_lst ?_ | with_reducible refine c_tup ?_)))
local macro_rules | `(tactic| walk_at "cd") => `(tactic| (walk_at "d1"))
local macro_rules | `(tactic| walk_at "cd") => `(tactic| (walk_at "c1"; walk_at "ds"))
local macro_rules | `(tactic| walk_at "cz") => `(tactic| skip)
local macro_rules | `(tactic| walk_at "cz") => `(tactic| (dsimp only [List.set, wipeR, snd_cons, snd_nil]; repeat walk_at "cd"))
local macro_rules | `(tactic| walk_at "cw") => `(tactic| (walk_at "ds"; (repeat walk_at "cd"); walk_at "cz"))

local macro_rules | `(tactic| walk_at "d1") => `(tactic| ((with_reducible show WE _ (tOp rMulS _ _) _ _); refine WO.we (wo_rep ?_)))
/-! ## parts with faults -/
theorem good_g {B : BD} (ok : BOk B) {g : Nat × Nat × List Nat} (h : g ∈ B.told) : grindB (gDX g) B.hard.length B.places = true := by
  obtain ⟨h1, h2, h3, h4⟩ := ok.each g h
  show (wholeD (.int (g.1 : Int)) (some 0) (some ((B.hard.length : Int) - 1)) && wholeD (.int (g.2.1 : Int)) (some 0) (some ((B.hard.length : Int) - 1)) && decide ((g.1 : Int) ≠ (g.2.1 : Int)) && turnB (.ixt (g.2.2.map fun (x : Nat) => (x : Int))) B.places) = true
  have w : ∀ n : Nat, n < B.hard.length → wholeD (.int (n : Int)) (some 0) (some ((B.hard.length : Int) - 1)) = true := fun n hn => by
    show (decide ((0 : Int) ≤ n) && decide ((n : Int) ≤ (B.hard.length : Int) - 1)) = true
    rw [decide_eq_true (by omega), decide_eq_true (by omega)]
    rfl
  rw [w _ h1, w _ h2, decide_eq_true (by omega)]
  show (decide (((g.2.2.map fun (x : Nat) => (x : Int)).map D.int).length = B.places) && ((g.2.2.map fun (x : Nat) => (x : Int)).map D.int).all isIntD && decide ((intsOf ((g.2.2.map fun (x : Nat) => (x : Int)).map D.int)).Perm (natsI B.places))) = true
  rw [ints_map, decide_eq_true (show ((g.2.2.map fun (x : Nat) => (x : Int)).Perm (natsI B.places)) from h4.map _), all_isIntD, decide_eq_true (by rw [List.length_map, List.length_map, h4.length_eq, List.length_range])]
  rfl
theorem kg_gDX {B : BD} (ok : BOk B) {g : Nat × Nat × List Nat} (h : g ∈ B.told) : Kg (gDX g) := by
  have h4 := (ok.each g h).2.2.2
  have := ok.places
  exact kg_3 (ki_int _) (ki_int _) (ki_ixt (by rw [List.length_map, h4.length_eq, List.length_range]; omega))
theorem kgs_lst {l : List D} (h : l.length ≤ 60) (k : ∀ d ∈ l, Kg d) : Kgs (.lst l) := ⟨kg_lst h fun d hd => (k d hd).1, fun j m e => by cases e; exact k⟩
theorem kgs_at {x : D} (h : isSq x = none) (k : Kd x) : Kgs x := ⟨kg_at h k, fun j l e => by rw [h] at e; cases e⟩
theorem kgs_tup {l : List D} (h : l.length ≤ 60) (k : ∀ d ∈ l, Kg d) : Kgs (.tup l) := ⟨kg_tup h fun d hd => (k d hd).1, fun j m e => by cases e; exact k⟩
theorem hard_good {B : BD} (ok : BOk B) : hardB (lI B.hard) = true := by
  have := ok.plates
  show ((decide ((2 : Int) ≤ ((B.hard.map D.int).length : Int)) && decide (((B.hard.map D.int).length : Int) ≤ 4)) && (B.hard.map D.int).all fun d => wholeD d (some 1) (some 9)) = true
  rw [List.length_map, decide_eq_true (by omega), decide_eq_true (by omega), Bool.true_and, Bool.true_and, List.all_map]
  refine List.all_eq_true.mpr fun x hx => ?_
  have := ok.hard x hx
  show (decide ((1 : Int) ≤ x) && decide (x ≤ 9)) = true
  rw [decide_eq_true (by omega), decide_eq_true (by omega)]
  rfl
theorem place_good {B : BD} (ok : BOk B) : wholeD (.int (B.places : Int)) (some 1) (some 3) = true := by
  have := ok.places
  show (decide ((1 : Int) ≤ B.places) && decide ((B.places : Int) ≤ 3)) = true
  rw [decide_eq_true (by omega), decide_eq_true (by omega)]
  rfl
theorem cut_mem {l : List D} {lo hi : Option Int} : ∀ d ∈ cutD l lo hi, d ∈ l := fun d hd => by
  unfold cutD at hd
  exact List.mem_of_mem_drop (List.mem_of_mem_take hd)
theorem cut_mid {l : List D} {i : Nat} (h : i ≤ l.length) : (cutD l (some (i : Int)) (some 5)).length ≤ 5 - i := by
  unfold cutD
  rw [HT.sIx_nat, show (5 : Int) = ((5 : Nat) : Int) from rfl, HT.sIx_nat, Nat.min_eq_left h]
  rw [List.length_take]
  omega
theorem kg_told {B : BD} (ok : BOk B) {d : D} (h : d ∈ B.told.map gDX) : Kg d := by
  obtain ⟨g, hg, rfl⟩ := List.mem_map.mp h
  exact kg_gDX ok hg
theorem rep_mem {l : List D} {n : Nat} {d : D} (h : d ∈ (List.replicate n (l.take 1)).flatten) : d ∈ l := by
  obtain ⟨m, hm, hd⟩ := List.mem_flatten.mp h
  rw [List.eq_of_mem_replicate hm] at hd
  exact List.mem_of_mem_take hd
theorem rep_len {l : List D} : ((List.replicate (Int.toNat 7) (l.take 1)).flatten).length ≤ 60 := by
  cases l with
  | nil => simp
  | cons a l =>
    show (List.replicate 7 [a]).flatten.length ≤ 60
    rw [rep_one, List.length_replicate]
    decide
def HW (B : BD) (h w : D) : Prop := (h = lI B.hard ∧ w = .non) ∨ (Ki h ∧ hardB h = false ∧ w = .tup [.str "hardness", .non])
def PW2 (B : BD) (p w : D) : Prop := (p = .int (B.places : Int) ∧ w = .non) ∨ (Kd p ∧ wholeD p (some 1) (some 3) = false ∧ w = .tup [.str "places", .non])
def whyG (B : BD) (g : D) : Option (Str × D) := match g with
  | .lst l => if 1 ≤ l.length ∧ l.length ≤ 6 then (badAt l B.hard.length B.places).map fun (i : Nat) => ("grindings", D.int (i : Int)) else some ("grindings", .int (-1))
  | _ => some ("grindings", .int (-1))
theorem rep_why {B : BD} (h : 1 ≤ B.told.length) : whyG B (.lst (List.replicate (Int.toNat 7) ((B.told.map gDX).take 1)).flatten) = some (("grindings" : Str), D.int (-1)) := by
  cases e : B.told with
  | nil => rw [e] at h; cases h
  | cons a l => rfl
theorem why_G {B : BD} (ok : BOk B) {g : D} : whyB (lI B.hard) (.int (B.places : Int)) g = whyG B g := by
  unfold whyB whyG
  rw [if_neg (by rw [hard_good ok]; decide), if_neg (by rw [place_good ok]; decide)]
  have e1 : lenOf (lI B.hard) = B.hard.length := List.length_map ..
  have e2 : (intOf (.int (B.places : Int))).toNat = B.places := Int.toNat_natCast _
  rw [e1, e2]
  all_goals (cases g <;> rfl)
def GW (B : BD) (g w : D) : Prop := (g = toldX B ∧ w = .non) ∨ (Kgs g ∧ ∃ c, whyG B g = some (("grindings" : Str), c) ∧ w = .tup [.str "grindings", c])
section
variable {P : Program} {w : World} {K : PySem.W.Frag} {mg : Str → Option Value} {base : Heap} {C : Addr}
def cSpoilt : Ct := fun ds k => ∃ B, ds = [.st, modelD B] ∧ BOk B ∧ ∀ h p g e, Ki h → Kd p → Kgs g → whyB h p g = some e → k (.tup [.lst [h, p, g], .tup [.str e.1, e.2]])
abbrev s__law_spoilt : Stmt := topS 27
abbrev n__law_spoilt : List Str := ["_law_state", "_law_model", "_law_found", "_law_why", "_law_some", "_law_at", "_law_one"]
theorem sc__law_spoilt : FnScope ["_law_state", "_law_model", "_law_found", "_law_why", "_law_some", "_law_at", "_law_one"] ["_law_state", "_law_model"] (defScope s__law_spoilt) := ⟨rfl, rfl, rfl, by decide +kernel, rfl, by decide +kernel, by decide +kernel⟩
theorem ok_spoilt (B0 : Blt mg) (b_min : mg "min" = none) (d__law_digit : Def P w K mg base 1 "_law_digit" ["_law_state", "_law_base"] (spD K C cDigit)) (d__law_bad_grinding : Def P w K mg base 2 "_law_bad_grinding" ["_law_state", "_law_model"] (spD K C cBadG)) (F : FunAt K mg "_law_spoilt" s__law_spoilt ["_law_state", "_law_model"]) : Def P w K mg base 3 "_law_spoilt" ["_law_state", "_law_model"] (spD K C cSpoilt) := by
  refine F.defD (n := 2) sc__law_spoilt (fun ds k h => by obtain ⟨_, rfl, _⟩ := h; rfl) fun f cdv A outer s H E sa F ds k hr h => ?_
  obtain ⟨B1, rfl, ok, q⟩ := h
  have B := B0
  have p1 := ok.plates
  have p2 := ok.places
  have p3 := ok.told
  have lT : (B1.told.map gDX).length = B1.told.length := List.length_map ..
  refine ⟨_, (pss_cons (ps_own (ps_set (i := 2) sc__law_spoilt.nd rfl (Or.inl rfl) (pe_lst (pa_cons (pe_callTy (k_list (K := K) rfl) (by rfl) B.list bb_list (pa_cons (pe_dget (hu_of hr) (pv 1) pe_str (fun _ _ => rfl)) pa_nil)) (pa_cons (pe_dget (hu_of hr) (pv 1) pe_str (fun _ _ => rfl)) (pa_cons (pe_callTy (k_list (K := K) rfl) (by rfl) B.list bb_list (pa_cons (pe_dget (hu_of hr) (pv 1) pe_str (fun _ _ => rfl)) pa_nil)) pa_nil)))))) (pss_cons (ps_own (ps_set (i := 3) sc__law_spoilt.nd rfl (Or.inl rfl) (pe_lst (pa_cons pe_non (pa_cons pe_non (pa_cons pe_non pa_nil)))))) (pss_cons (ps_if (pt_cmpR (k_eq (K := K) rfl hr.units) (pe_d d__law_digit (hr.mono (by decide)) (by rfl) (pa_cons (pv 0) (pa_cons pe_int pa_nil))) pe_int (nomark _)) (pss_cons (ps_set (i := 4) sc__law_spoilt.nd rfl (Or.inl rfl) (pe_lst (pa_cons (pe_lst pa_nil) (pa_cons (pe_lst (pa_cons pe_int pa_nil)) (pa_cons (pe_op k_mulS (pe_lst (pa_cons pe_int pa_nil)) pe_int) (pa_cons (pe_tup (pa_cons pe_int (pa_cons pe_int pa_nil))) (pa_cons pe_non (pa_cons (pe_lst (pa_cons pe_int (pa_cons pe_int pa_nil))) (pa_cons (pe_lst (pa_cons pe_int (pa_cons pe_int pa_nil))) (pa_cons (pe_lst (pa_cons pe_bl (pa_cons pe_int pa_nil))) (pa_cons (pe_lst (pa_cons pe_int (pa_cons pe_non pa_nil))) (pa_cons (pe_lst (pa_cons pe_int (pa_cons pe_str pa_nil))) (pa_cons pe_int pa_nil))))))))))))) (pss_cons (ps_asg (pe_ix (k_ix (K := K) rfl) (pv 4) (pe_d d__law_digit (hr.mono (by decide)) (by rfl) (pa_cons (pv 0) (pa_cons pe_int pa_nil))) (fun _ _ => rfl)) (pg_sub (pv 2) pe_int set_list)) (pss_one (ps_asg (pe_tup (pa_cons pe_str (pa_cons pe_non pa_nil))) (pg_sub (pv 3) pe_int set_list))))) pss_nil) (pss_cons (ps_if (pt_cmpR (k_eq (K := K) rfl hr.units) (pe_d d__law_digit (hr.mono (by decide)) (by rfl) (pa_cons (pv 0) (pa_cons pe_int pa_nil))) pe_int (nomark _)) (pss_cons (ps_asg (pe_ix (k_ix (K := K) rfl) (pe_lst (pa_cons pe_int (pa_cons pe_int (pa_cons (pe_un un_neg pe_int) (pa_cons pe_bl (pa_cons pe_non (pa_cons pe_str (pa_cons (pe_tup (pa_cons pe_int pa_nil)) (pa_cons (pe_op op_pow pe_int pe_int) pa_nil))))))))) (pe_d d__law_digit (hr.mono (by decide)) (by rfl) (pa_cons (pv 0) (pa_cons pe_int pa_nil))) (fun _ _ => rfl)) (pg_sub (pv 2) pe_int set_list)) (pss_one (ps_asg (pe_tup (pa_cons pe_str (pa_cons pe_non pa_nil))) (pg_sub (pv 3) pe_int set_list)))) pss_nil) (pss_cons (ps_if (PW.pt (pw_or (pt_cmpR (k_eq (K := K) rfl hr.units) (pe_d d__law_digit (hr.mono (by decide)) (by rfl) (pa_cons (pv 0) (pa_cons pe_int pa_nil))) pe_int (nomark _)) (pw_or1 (pt_cmpR (k_eq (K := K) rfl hr.units) (pv 3) (pe_lst (pa_cons pe_non (pa_cons pe_non (pa_cons pe_non pa_nil)))) (nomark _))))) (pss_one (ps_if (pt_cmpR (k_eq (K := K) rfl hr.units) (pe_d d__law_digit (hr.mono (by decide)) (by rfl) (pa_cons (pv 0) (pa_cons pe_int pa_nil))) pe_int (nomark _)) (pss_cons (ps_asg (pe_ix (k_ix (K := K) rfl) (pe_lst (pa_cons (pe_lst pa_nil) (pa_cons (pe_op k_mulS (pe_slice (k_sl (K := K) rfl) (pe_ix (k_ix (K := K) rfl) (pv 2) pe_int (fun _ _ => rfl)) po_none (po_some pe_int)) pe_int) (pa_cons (pe_callTy (k_tuple (K := K) rfl) (by rfl) B.tuple bb_tuple (pa_cons (pe_ix (k_ix (K := K) rfl) (pv 2) pe_int (fun _ _ => rfl)) pa_nil)) (pa_cons pe_non (pa_cons pe_dnewK (pa_cons pe_int pa_nil))))))) (pe_d d__law_digit (hr.mono (by decide)) (by rfl) (pa_cons (pv 0) (pa_cons pe_int pa_nil))) (fun _ _ => rfl)) (pg_sub (pv 2) pe_int set_list)) (pss_one (ps_asg (pe_tup (pa_cons pe_str (pa_cons (pe_un un_neg pe_int) pa_nil))) (pg_sub (pv 3) pe_int set_list)))) (pss_cons (ps_set (i := 5) sc__law_spoilt.nd rfl (Or.inl rfl) (pe_d d__law_digit (hr.mono (by decide)) (by rfl) (pa_cons (pv 0) (pa_cons (pe_op (k_addS (K := K) rfl) (pe_callB (cr_mn2 rfl) (by rfl) b_min bb_min (pa_cons (pe_callB (k_len (K := K) rfl) (by rfl) B.len bb_len (pa_cons (pe_ix (k_ix (K := K) rfl) (pv 2) pe_int (fun _ _ => rfl)) pa_nil)) (pa_cons pe_int pa_nil))) pe_int) pa_nil)))) (pss_cons (ps_asg (pe_op (k_addS (K := K) rfl) (pe_op (k_addS (K := K) rfl) (pe_slice (k_sl (K := K) rfl) (pe_ix (k_ix (K := K) rfl) (pv 2) pe_int (fun _ _ => rfl)) po_none (po_some (pv 5))) (pe_lst (pa_cons (pe_d d__law_bad_grinding (hr.mono (by decide)) (by rfl) (pa_cons (pv 0) (pa_cons (pv 1) pa_nil))) pa_nil))) (pe_slice (k_sl (K := K) rfl) (pe_ix (k_ix (K := K) rfl) (pv 2) pe_int (fun _ _ => rfl)) (po_some (pv 5)) (po_some pe_int))) (pg_sub (pv 2) pe_int set_list)) (pss_one (ps_asg (pe_tup (pa_cons pe_str (pa_cons (pv 5) pa_nil))) (pg_sub (pv 3) pe_int set_list))))))) pss_nil) (pss_one (ps_ret (pe_tup (pa_cons (pv 2) (pa_cons (pe_ix (k_ix (K := K) rfl) (pe_lc (own := [("_law_one", 6)]) rfl sc__law_spoilt.nd (k_seq (K := K) rfl (pv 3)) (blkOk_by (own := [("_law_one", 6)]) (N := n__law_spoilt) (sc := defScope s__law_spoilt) (by decide +kernel)) (fun _ _ _ _ _ => (pg_name (i := 6) sc__law_spoilt.nd rfl (Or.inl rfl))) (fun _ _ _ _ _ => (pts_one (pt_cmpR op_notN (pv 6) pe_non (nomark _)))) (fun _ _ _ _ _ => (pv 6))) pe_int (fun _ _ => rfl)) pa_nil)))))))))), ?_⟩; refine start_eqR (ρ' := [some (.d (.st)), some (.d (modelD B1)), none, none, none, none, none]) rfl ?_
  refine ws_seq (ws_imp (nx1 := fun ρ' => ρ' = [some (.d .st), some (.d (modelD B1)), some (.own [lI B1.hard, .int (B1.places : Int), toldX B1]), none, none, none, none]) (by walk_at "dw") ?_)
  rintro _ rfl
  refine ws_seq (ws_imp (nx1 := fun ρ' => ρ' = [some (.d .st), some (.d (modelD B1)), some (.own [lI B1.hard, .int (B1.places : Int), toldX B1]), some (.own [.non, .non, .non]), none, none, none]) (by walk_at "dw") ?_)
  rintro _ rfl
  refine ws_seq (ws_imp (nx1 := fun ρ' => ∃ h w1 a, HW B1 h w1 ∧ ρ' = [some (.d .st), some (.d (modelD B1)), some (.own [h, .int (B1.places : Int), toldX B1]), some (.own [w1, .non, .non]), a, none, none]) ?_ ?_)
  · walk_at "dw"
    refine ⟨_, rfl, small_d (by decide) (by decide), fun d a0 a1 => ?_⟩
    walk_at "dw"
    by_cases z : d = 0
    · rw [decide_eq_true z]
      walk_at "dw"
      refine ⟨by decide, by decide, by decide, ?_⟩
      walk_at "dw"
      refine ⟨_, rfl, small_d (by decide) (by decide), fun i c0 c1 => ?_⟩
      walk_at "dw"
      refine op_pick c0 c1 (by simp) fun x hx => ?_
      walk_at "dw"
      refine ⟨_, 0, rfl, rfl, ?_⟩
      walk_at "dw"
      refine ⟨_, 0, rfl, rfl, ?_⟩
      walk_at "dw"
      refine ⟨x, _, _, .inr ⟨?_, ?_, rfl⟩, rfl⟩
      · simp only [List.mem_cons, List.not_mem_nil, or_false] at hx
        rcases hx with rfl | rfl | rfl | rfl | rfl | rfl | rfl | rfl | rfl | rfl | rfl
        · exact ki_lst (by decide) fun d hd => by cases hd
        · exact ki_lst (by decide) fun d hd => by cases List.mem_singleton.mp hd; rfl
        · exact ki_lst (by decide) fun d hd => by cases List.eq_of_mem_replicate (n := 5) (a := D.int 1) hd; rfl
        · exact ki_tup (by decide) fun d hd => by simp only [List.mem_cons, List.not_mem_nil, or_false] at hd; rcases hd with rfl | rfl <;> rfl
        · exact ki_non
        · exact ki_lst (by decide) fun d hd => by simp only [List.mem_cons, List.not_mem_nil, or_false] at hd; rcases hd with rfl | rfl <;> rfl
        · exact ki_lst (by decide) fun d hd => by simp only [List.mem_cons, List.not_mem_nil, or_false] at hd; rcases hd with rfl | rfl <;> rfl
        · exact ki_lst (by decide) fun d hd => by simp only [List.mem_cons, List.not_mem_nil, or_false] at hd; rcases hd with rfl | rfl <;> rfl
        · exact ki_lst (by decide) fun d hd => by simp only [List.mem_cons, List.not_mem_nil, or_false] at hd; rcases hd with rfl | rfl <;> rfl
        · exact ki_lst (by decide) fun d hd => by simp only [List.mem_cons, List.not_mem_nil, or_false] at hd; rcases hd with rfl | rfl <;> rfl
        · exact ki_int 3
      · simp only [List.mem_cons, List.not_mem_nil, or_false] at hx
        rcases hx with rfl | rfl | rfl | rfl | rfl | rfl | rfl | rfl | rfl | rfl | rfl <;> rfl
    · rw [decide_eq_false z]
      walk_at "dw"
      exact ⟨_, _, _, .inl ⟨rfl, rfl⟩, rfl⟩
  rintro _ ⟨h, w1, a4, hw, rfl⟩
  refine ws_seq (ws_imp (nx1 := fun ρ' => ∃ p w2, PW2 B1 p w2 ∧ ρ' = [some (.d .st), some (.d (modelD B1)), some (.own [h, p, toldX B1]), some (.own [w1, w2, .non]), a4, none, none]) ?_ ?_)
  · walk_at "dw"
    refine ⟨_, rfl, small_d (by decide) (by decide), fun d a0 a1 => ?_⟩
    walk_at "dw"
    by_cases z : d = 0
    · rw [decide_eq_true z]
      walk_at "dw"
      refine op_Ii (cc := CPow) (g := fun i j => i ^ j.toNat) ⟨by decide, by decide, by decide⟩ ?_
      walk_at "dw"
      refine ⟨_, rfl, small_d (by decide) (by decide), fun i c0 c1 => ?_⟩
      walk_at "dw"
      refine op_pick c0 c1 (by simp) fun x hx => ?_
      walk_at "dw"
      refine ⟨_, 1, rfl, rfl, ?_⟩
      walk_at "dw"
      refine ⟨_, 1, rfl, rfl, ?_⟩
      walk_at "dw"
      refine ⟨x, _, .inr ⟨?_, ?_, rfl⟩, rfl⟩
      · simp only [List.mem_cons, List.not_mem_nil, or_false] at hx
        rcases hx with rfl | rfl | rfl | rfl | rfl | rfl | rfl | rfl <;> rfl
      · simp only [List.mem_cons, List.not_mem_nil, or_false] at hx
        rcases hx with rfl | rfl | rfl | rfl | rfl | rfl | rfl | rfl
        · exact whole_no (.inl (by decide))
        · exact whole_no (.inr (by decide))
        · exact whole_no (.inl (by decide))
        · rfl
        · rfl
        · rfl
        · rfl
        · exact whole_no (.inr (by decide))
    · rw [decide_eq_false z]
      walk_at "dw"
      exact ⟨_, _, .inl ⟨rfl, rfl⟩, rfl⟩
  rintro _ ⟨p, w2, pw, rfl⟩
  refine ws_seq (ws_imp (nx1 := fun ρ' => ∃ g w3 b, GW B1 g w3 ∧ ¬ (w1 = .non ∧ w2 = .non ∧ w3 = .non) ∧ ρ' = [some (.d .st), some (.d (modelD B1)), some (.own [h, p, g]), some (.own [w1, w2, w3]), a4, b, none]) ?_ ?_)
  · walk_at "dw"
    refine ⟨_, rfl, small_d (by decide) (by decide), fun d a0 a1 => ?_⟩
    walk_at "dw"
    have hX : d = 0 ∨ (d ≠ 0 ∧ w1 = .non ∧ w2 = .non) ∨ (d ≠ 0 ∧ ¬ (w1 = .non ∧ w2 = .non)) := by
      by_cases z : d = 0
      · exact .inl z
      · by_cases y : w1 = .non ∧ w2 = .non
        · exact .inr (.inl ⟨z, y⟩)
        · exact .inr (.inr ⟨z, y⟩)
    have pw1 : Pl 19 w1 := by rcases hw with ⟨_, rfl⟩ | ⟨_, _, rfl⟩ <;> first | exact .non | exact .tup (pl_cons (.str (by decide +kernel)) (pl_cons .non pl_nil))
    have pw2 : Pl 19 w2 := by rcases pw with ⟨_, rfl⟩ | ⟨_, _, rfl⟩ <;> first | exact .non | exact .tup (pl_cons (.str (by decide +kernel)) (pl_cons .non pl_nil))
    rcases hX with z | ⟨z, rfl, rfl⟩ | ⟨z, ne⟩
    rotate_left 2
    · rw [decide_eq_false z]
      walk_at "dw"
      refine op_eqDD (.lst (pl_cons pw1 (pl_cons pw2 (pl_cons .non pl_nil)))) (.lst (pl_cons .non (pl_cons .non (pl_cons .non pl_nil)))) ?_
      rw [show eqD (.lst [w1, w2, .non]) (.lst [.non, .non, .non]) = false by
        rcases hw with ⟨_, rfl⟩ | ⟨_, _, rfl⟩ <;> rcases pw with ⟨_, rfl⟩ | ⟨_, _, rfl⟩ <;> first | rfl | exact absurd ⟨rfl, rfl⟩ ne]
      walk_at "dw"
      exact ⟨_, _, _, .inl ⟨rfl, rfl⟩, fun h => ne ⟨h.1, h.2.1⟩, rfl⟩
    case' inl =>
      rw [decide_eq_true z]
      walk_at "dw"
    case' inr.inl =>
      rw [decide_eq_false z]
      walk_at "dw"
      refine op_eqDD (.lst (pl_cons .non (pl_cons .non (pl_cons .non pl_nil)))) (.lst (pl_cons .non (pl_cons .non (pl_cons .non pl_nil)))) ?_
      rw [show eqD (.lst [.non, .non, .non]) (.lst [.non, .non, .non]) = true from rfl]
      walk_at "dw"
    all_goals
      refine ⟨_, rfl, small_d (by decide) (by decide), fun e f0 f1 => ?_⟩
      walk_at "dw"
      by_cases y : e = 0
      · rw [decide_eq_true y]
        walk_at "dw"
        refine wo_slL ?_
        walk_at "dw"
        rw [show cutD (B1.told.map gDX) none (some 1) = (B1.told.map gDX).take 1 from cut_to 1]
        refine ⟨by decide, by decide, Nat.le_trans (Nat.mul_le_mul_right _ (List.length_take_le _ _)) (by decide), ?_⟩
        walk_at "dw"
        refine WOK.we (wok_new ?_)
        walk_at "dw"
        refine ⟨_, rfl, small_d (by decide) (by decide), fun i c0 c1 => ?_⟩
        walk_at "dw"
        refine op_pick c0 c1 (by simp) fun x hx => ?_
        walk_at "dw"
        refine ⟨_, 2, rfl, rfl, ?_⟩
        walk_at "dw"
        refine ⟨_, 2, rfl, rfl, ?_⟩
        walk_at "dw"
        refine ⟨x, _, _, .inr ⟨?_, .int (-1), ?_, rfl⟩, (fun h => by cases h.2.2), rfl⟩
        all_goals
          simp only [List.mem_cons, List.not_mem_nil, or_false] at hx
          rcases hx with rfl | rfl | rfl | rfl | rfl | rfl
        · exact kgs_lst (by decide) fun d hd => by cases hd
        · exact kgs_lst rep_len fun d hd => kg_told ok (rep_mem hd)
        · exact kgs_tup (by rw [lT]; omega) fun d hd => kg_told ok hd
        · exact kgs_at rfl rfl
        · exact kgs_at rfl rfl
        · exact kgs_at rfl rfl
        · rfl
        · exact rep_why p3.1
        · rfl
        · rfl
        · rfl
        · rfl
      · rw [decide_eq_false y]
        walk_at "dw"
        refine cr_mn2D ?_
        walk_at "dw"
        refine ⟨_, rfl, small_d (by split <;> omega) (by split <;> omega), fun at0 c0 c1 => ?_⟩
        obtain ⟨i, rfl⟩ : ∃ i : Nat, at0 = (i : Int) := ⟨at0.toNat, by omega⟩
        have i5 : i ≤ 5 ∧ i ≤ B1.told.length := by rw [lT] at c1; split at c1 <;> omega
        walk_at "dw"
        refine WO.we (wo_slL ?_)
        walk_at "dw"
        rw [cut_to]
        refine ⟨B1, rfl, ok, fun b kb gb => ?_⟩
        walk_at "dw"
        refine op_cat (by simp; omega) ?_
        refine WE.wb (WO.we (wo_slL ?_))
        walk_at "dw"
        have m1 := cut_mem (l := B1.told.map gDX) (lo := some (i : Int)) (hi := some 5)
        have m2 := cut_mid (l := B1.told.map gDX) (i := i) (by rw [lT]; exact i5.2)
        generalize cutD (B1.told.map gDX) (some (i : Int)) (some 5) = md at *
        refine op_cat (by simp; omega) ?_
        walk_at "dw"
        refine ⟨_, 2, rfl, rfl, ?_⟩
        walk_at "dw"
        refine ⟨_, 2, rfl, rfl, ?_⟩
        walk_at "dw"
        have tk : ((B1.told.map gDX).take i).length = i := by rw [List.length_take, lT]; omega
        refine ⟨.lst ((B1.told.map gDX).take i ++ [b] ++ md), _, _, .inr ⟨kgs_lst (by simp; omega) fun d hd => ?_, .int (i : Int), ?_, rfl⟩, (fun h => by cases h.2.2), rfl⟩
        · rcases List.mem_append.mp hd with hd | hd
          · rcases List.mem_append.mp hd with hd | hd
            · exact kg_told ok (List.mem_of_mem_take hd)
            · cases List.mem_singleton.mp hd
              exact kb
          · exact kg_told ok (m1 d hd)
        · have ln : ((B1.told.map gDX).take i ++ [b] ++ md).length = i + 1 + md.length := by rw [List.length_append, List.length_append, tk]; rfl
          have bs : badAt ((B1.told.map gDX).take i ++ [b] ++ md) B1.hard.length B1.places = some i := by
            refine bad_some (y := b) (fun d hd => ?_) ?_ gb
            · rw [List.append_assoc, List.take_append_of_le_length (by rw [tk]; exact Nat.le_refl _), List.take_take, Nat.min_self] at hd
              obtain ⟨g0, hg0, rfl⟩ := List.mem_map.mp (List.mem_of_mem_take hd)
              exact good_g ok hg0
            · rw [List.append_assoc, List.getElem?_append_right (by rw [tk]; exact Nat.le_refl _), tk, Nat.sub_self]
              rfl
          show (if 1 ≤ ((B1.told.map gDX).take i ++ [b] ++ md).length ∧ ((B1.told.map gDX).take i ++ [b] ++ md).length ≤ 6 then _ else _) = _
          rw [if_pos ⟨by omega, by omega⟩, bs]
          rfl
  rintro _ ⟨g, w3, b5, gw, nn, rfl⟩
  refine ws_frz (i := 2) rfl (ws_frz (i := 3) rfl ?_)
  dsimp only [List.set]
  walk_at "dw"
  refine WO.we (wo_lcf (α := D) (WI.wv (wi_seqL ?_)))
  walk_at "dw"
  refine ⟨by show 3 < 100000; decide, [w1, w2, w3], id, id, fun d => !d.isN, rfl, fun d hd => ?_, ?_⟩
  · walk_at "dw"
    refine ⟨rfl, fun _ => ?_⟩
    walk_at "dw"
  · have key : ∃ c, whyB h p g = some c ∧ (List.map id (List.filter (fun d => !d.isN) [w1, w2, w3]))[0]? = some (.tup [.str c.1, c.2]) := by
      rcases hw with ⟨rfl, rfl⟩ | ⟨_, hh, rfl⟩
      · rcases pw with ⟨rfl, rfl⟩ | ⟨_, hp, rfl⟩
        · rcases gw with ⟨_, rfl⟩ | ⟨_, c, hc, rfl⟩
          · exact absurd ⟨rfl, rfl, rfl⟩ nn
          · exact ⟨("grindings", c), (why_G ok).trans hc, rfl⟩
        · exact ⟨("places", .non), why2 (hard_good ok) hp, rfl⟩
      · exact ⟨("hardness", .non), why1 hh, rfl⟩
    obtain ⟨c, hc, h0⟩ := key
    generalize (List.map id (List.filter (fun d => !d.isN) [w1, w2, w3])) = wl at *
    walk_at "dw"
    refine op_ixL (d := .tup [.str c.1, c.2]) ?_ ?_
    · obtain ⟨hl, he⟩ := List.getElem?_eq_some_iff.mp h0
      show (ixN wl.length ((0 : Nat) : Int)).bind _ = _
      rw [ix_int hl]
      exact h0
    walk_at "dw"
    refine q h p g c ?_ ?_ ?_ hc
    · rcases hw with ⟨rfl, _⟩ | ⟨kh, _⟩
      · exact ki_lst (by rw [List.length_map]; omega) (kd_ints _)
      · exact kh
    · rcases pw with ⟨rfl, _⟩ | ⟨kp, _⟩
      · rfl
      · exact kp
    · rcases gw with ⟨rfl, _⟩ | ⟨kg, _⟩
      · exact kgs_lst (by rw [lT]; omega) fun d hd => kg_told ok hd
      · exact kg
end
end G.Q

namespace G.Q
open PySem PySem.Spec PyProof.Rows L2
local macro_rules | `(tactic| walk_at "ds") => `(tactic| skip)
local macro_rules | `(tactic| walk_at "ds") => `(tactic| dsimp only [List.set, wipeR, snd_cons, snd_nil])
local macro_rules | `(tactic| walk_at "d1") => `(tactic| ((first | with_reducible refine key_str ?_ | with_reducible refine ⟨_, rfl, ?_⟩ | with_reducible refine ⟨_, _, rfl, ?_⟩ | ((with_reducible show List.length _ ≤ 1000 ∧ _); refine len_ok (by rfl) ?_) | ((with_reducible show if D.isN _ = true then _ else _); first | refine s_nnT (by rfl) ?_ | refine s_nnF (by rfl) ?_) | ((with_reducible show if (!D.isN _) = true then _ else _); first | refine s_mnT (by rfl) ?_ | refine s_mnF (by rfl) ?_) | with_reducible refine s_cT ?_ | with_reducible refine s_cF ?_ | with_reducible refine s_nT ?_ | with_reducible refine s_nF ?_); walk_at "ds"))
local macro_rules | `(tactic| walk_at "d1") => `(tactic| ((with_reducible show WPs ..); (first | with_reducible refine wps_cons ?_ | with_reducible refine wps_nil ?_)))
local macro_rules | `(tactic| walk_at "d1") => `(tactic| ((with_reducible show WI ..); (with_reducible refine wi_rng1 ?_)))
local macro_rules | `(tactic| walk_at "d1") => `(tactic| ((with_reducible show WV ..); (with_reducible refine WI.wv ?_)))
local macro_rules | `(tactic| walk_at "d1") => `(tactic| ((with_reducible show WP ..); (first | with_reducible refine wp_no ?_ | with_reducible refine wp_some ?_)))
local macro_rules | `(tactic| walk_at "d1") => `(tactic| ((with_reducible show WOT ..); (first | with_reducible refine wot_new ?_ | with_reducible refine wot_disp1 ?_)))
local macro_rules | `(tactic| walk_at "d1") => `(tactic| ((with_reducible show WOK ..); (first | with_reducible refine wok_new ?_ | with_reducible refine wok_disp1 ?_)))
local macro_rules | `(tactic| walk_at "d1") => `(tactic| ((with_reducible show WD ..); (first | with_reducible refine wd_tup ?_ | with_reducible refine wd_lst ?_)))
local macro_rules | `(tactic| walk_at "d1") => `(tactic| ((with_reducible show WAD ..); (first | with_reducible refine wad_cons ?_ | with_reducible refine wad_nil ?_)))
local macro_rules | `(tactic| walk_at "d1") => `(tactic| ((with_reducible show DIn ..); (first | with_reducible refine din_I ?_ | with_reducible refine din_S ?_ | with_reducible refine din_T ?_)))
local macro_rules | `(tactic| walk_at "d1") => `(tactic| ((with_reducible show DGt ..); (first | with_reducible refine dgp_hard ?_ | with_reducible refine dgp_wide ?_ | with_reducible refine dgp_rows ?_ | with_reducible refine dgp_pairs ?_ | with_reducible refine dgp_many ?_ | with_reducible refine dg_hard ?_ | with_reducible refine dg_places ?_ | with_reducible refine dg_told ?_ | with_reducible refine dg_heavy ?_ | with_reducible refine dg_meets ?_)))
local macro_rules | `(tactic| walk_at "d1") => `(tactic| ((with_reducible show OU ..); (with_reducible refine ou_neg ?_)))
local macro_rules | `(tactic| walk_at "d1") => `(tactic| ((with_reducible show WAB ..); (first | with_reducible refine wab_cons ?_ | with_reducible refine wab_nil ?_)))
local macro_rules | `(tactic| walk_at "d1") => `(tactic| ((with_reducible show CRO ..); (first | with_reducible refine cr_listL ?_ | with_reducible refine cr_listT ?_ | with_reducible refine cr_listS ?_)))
local macro_rules | `(tactic| walk_at "d1") => `(tactic| ((with_reducible show WO ..); (first | with_reducible refine wo_lst ?_ | ((with_reducible show WO _ (tOp rMulS (tLst _) _) _ _); refine wo_rep ?_) | with_reducible refine wo_op ?_ | with_reducible refine wo_cb ?_ | with_reducible refine wo_rev ?_)))
local macro_rules | `(tactic| walk_at "d1") => `(tactic| ((with_reducible show CR ..); (first | with_reducible refine cr_lenDK ?_ | with_reducible refine cr_lenDT ?_ | with_reducible refine cr_lenL ?_ | with_reducible refine cr_lenT ?_ | with_reducible refine cr_lenS ?_ | with_reducible refine cr_lenX ?_ | with_reducible refine cr_tupX ?_ | with_reducible refine cr_sumS ?_ | with_reducible refine cr_sumLi ?_ | with_reducible refine cr_sumTi ?_ | with_reducible refine cr_allB ?_ | with_reducible refine cr_anyB ?_ | with_reducible refine cr_absI ?_ | with_reducible refine cr_int_i ?_ | with_reducible refine cr_int_b ?_ | with_reducible refine CRO.cr (cr_listL ?_) | with_reducible refine CRO.cr (cr_listT ?_) | with_reducible refine CRO.cr (cr_listS ?_) | with_reducible refine cr_tupLi ?_ | with_reducible refine cr_tupS ?_ | with_reducible refine cr_tupL ?_ | with_reducible refine cr_tupT ?_)))
local macro_rules | `(tactic| walk_at "d1") => `(tactic| ((with_reducible show WB ..); (first | ((with_reducible show WB _ (tVar _) _ _); first | refine wb_own rfl ?_ | refine wb_ownK rfl ?_ | refine wb_ownT rfl ?_ | refine wb_lkT rfl (by assumption) ?_ | refine wb_wl rfl ?_) | with_reducible refine WE.wb ?_)))
local macro_rules | `(tactic| walk_at "d1") => `(tactic| ((with_reducible show WGs ..); (first | with_reducible refine wgs_cons ?_ | with_reducible refine wgs_nil ?_ | with_reducible refine wgs_consM ?_ | with_reducible refine wgs_nilM ?_); walk_at "ds"))
local macro_rules | `(tactic| walk_at "d1") => `(tactic| ((with_reducible show WT ..); (first | with_reducible refine wt_test ?_ | with_reducible refine wt_B ?_ | with_reducible refine wt_not ?_ | with_reducible refine wt_and ?_ | with_reducible refine wt_or ?_ | with_reducible refine wt_yes ?_)))
local macro_rules | `(tactic| walk_at "d1") => `(tactic| ((with_reducible show OP ..); (first | with_reducible refine op_addSI ?_ | with_reducible refine op_I0i ?_ | with_reducible refine op_I0b ?_ | with_reducible refine op_eqII ?_ | with_reducible refine op_neII ?_ | with_reducible refine op_eqBB ?_ | with_reducible refine op_neBB ?_ | with_reducible refine op_eqSS ?_ | with_reducible refine op_neSS ?_ | with_reducible refine op_isNn ?_ | with_reducible refine op_notNn ?_ | with_reducible refine op_ip ?_ | ((with_reducible show OP _ (rIx _) (D.tup _) (D.int _) _); refine op_ixT (by rfl) ?_) | ((with_reducible show OP _ (rIx _) (D.lst _) (D.int _) _); refine op_ixL (by rfl) ?_))))
local macro_rules | `(tactic| walk_at "d1") => `(tactic| ((with_reducible show WG ..); (first | with_reducible refine wg_name (by first | trivial | decide) ?_ | with_reducible refine wg_tup rfl ?_ | with_reducible refine wg_stn rfl ?_ | with_reducible refine wg_lst rfl ?_); walk_at "ds"))
local macro_rules | `(tactic| walk_at "d1") => `(tactic| ((with_reducible show WA ..); (first | with_reducible refine wa_cons ?_ | with_reducible refine wa_nil ?_)))
local macro_rules | `(tactic| walk_at "d1") => `(tactic| ((with_reducible show WS ..); (first | with_reducible refine ws_seq ?_ | with_reducible refine ws_next ?_ | with_reducible refine ws_ret ?_ | with_reducible refine ws_retN ?_ | with_reducible refine ws_if ?_ | ((with_reducible show WS _ (tDrop (tBM _ "list" _ (tVar _) _)) _ _ _ _ _); refine ws_mt rfl ?_) | ((with_reducible show WS _ (tDrop (tBM0 _ "list" _ (tVar _))) _ _ _ _ _); refine ws_mt0 rfl ?_) | ((with_reducible show WS _ (tAsg (tBM _ "list" _ (tVar _) _) (gName _)) _ _ _ _ _); refine ws_mtS rfl ?_) | ((with_reducible show WS _ (tAsg (tBM0 _ "list" _ (tVar _)) (gName _)) _ _ _ _ _); refine ws_mt0S rfl ?_) | ((with_reducible show WS _ (tAsgO (tDisp _) _) _ _ _ _ _); refine ws_setOwnK ?_) | ((with_reducible show WS _ (tAsgO tDNewK _) _ _ _ _ _); refine ws_setOwnK ?_) | ((with_reducible show WS _ (tAsgO (tDc _ _ _ _ _ _) _) _ _ _ _ _); refine ws_setOwnK ?_) | ((with_reducible show WS _ (tAsgO tDNewT _) _ _ _ _ _); refine ws_setOwnT ?_) | ((with_reducible show WS _ (tAsgO (tDispT1 _ _) _) _ _ _ _ _); refine ws_setOwnT ?_) | with_reducible refine ws_setOwn ?_ | ((with_reducible show WS _ (tAsg _ (gSub (tVar _) _ rSetL)) _ _ _ _ _); first | refine ws_setItem rfl ?_ | refine ws_setWl rfl ?_) | ((with_reducible show WS _ (tAugS (tVar _) _ _ _ _ _) _ _ _ _ _); refine ws_augItem rfl ?_) | ((with_reducible show WS _ (sDPut (tVar _) _ _) _ _ _ _ _); first | refine ws_dput rfl ?_ | refine ws_dputT rfl ?_) | ((with_reducible show WS _ (tDrop (tBM _ "dict" rUpd (tVar _) _)) _ _ _ _ _); refine ws_upd rfl ?_) | ((with_reducible show WS _ (tAsg (tCall (spDS _ _ _) _ _ _) (gName _)) _ _ _ _ _); refine ws_asgS ?_) | with_reducible refine ws_asg ?_ | with_reducible refine ws_drop ?_ | ((with_reducible show WS _ (tAug _ _ _) _ _ _ _ _); refine ws_aug rfl ?_) | with_reducible refine ws_par ?_ | with_reducible refine ws_break ?_ | with_reducible refine ws_cont ?_); walk_at "ds"))
local macro_rules | `(tactic| walk_at "d1") => `(tactic| ((with_reducible show WE ..); (first | ((with_reducible show WE _ (tVar _) _ _); refine we_var rfl ?_) | with_reducible refine we_op ?_ | with_reducible refine we_call ?_ | with_reducible refine we_int ?_ | with_reducible refine we_str ?_ | with_reducible refine we_bl ?_ | with_reducible refine we_non ?_ | with_reducible refine we_isi ?_ | with_reducible refine we_notV ?_ | with_reducible refine we_andV ?_ | with_reducible refine we_orV ?_ | with_reducible refine we_if ?_ | with_reducible refine we_chain ?_ | with_reducible refine we_un ?_ | with_reducible refine we_meth (by decide) ?_ | with_reducible refine we_tupK2 ?_ | with_reducible refine we_tup ?_ | with_reducible refine WO.we (wo_lst ?_) | with_reducible refine we_cb ?_ | ((with_reducible show WE _ (tFld _ _ "hard") _ _); refine we_hard (by assumption) ?_) | ((with_reducible show WE _ (tFld _ _ "heavy") _ _); refine we_heavy (by assumption) ?_) | ((with_reducible show WE _ (tFld _ _ "places") _ _); refine we_places (by assumption) ?_) | ((with_reducible show WE _ (tFld _ _ "told") _ _); refine we_told (by assumption) ?_) | ((with_reducible show WE _ (tFld _ _ "meets") _ _); refine we_meets (by assumption) ?_) | with_reducible refine we_din ?_ | with_reducible refine we_dnotin ?_ | ((with_reducible show WE _ (tDGet (tVar _) _) _ _); refine we_dgetL (by assumption) rfl ?_) | with_reducible refine we_dget ?_ | with_reducible refine we_idx ?_ | with_reducible refine WO.we (wo_rev ?_))))
local macro_rules | `(tactic| walk_at "dz") => `(tactic| skip)
local macro_rules | `(tactic| walk_at "dz") => `(tactic| (dsimp only [List.set, wipeR, snd_cons, snd_nil]; repeat walk_at "d1"))
local macro_rules | `(tactic| walk_at "dw") => `(tactic| (walk_at "ds"; (repeat walk_at "d1"); walk_at "dz"))
local macro_rules | `(tactic| walk_at "c1") => `(tactic| (first | ((with_reducible show Wl _ _ → _); intro _) | ((with_reducible show ∀ _ : HO, Wl _ _ → _); intro _ _)))
local macro_rules | `(tactic| walk_at "c1") => `(tactic| ((with_reducible show CI ..); (with_reducible refine c_rng1 ?_)))
local macro_rules | `(tactic| walk_at "c1") => `(tactic| ((with_reducible show CT ..); (with_reducible refine c_test ?_)))
local macro_rules | `(tactic| walk_at "c1") => `(tactic| ((with_reducible show CA ..); (first | with_reducible refine ca_cons ?_ | with_reducible refine ca_nil rfl (by assumption) ?_)))
local macro_rules | `(tactic| walk_at "c1") => `(tactic| ((with_reducible show CE ..); (first | with_reducible refine c_call rfl ?_ | with_reducible refine c_op ?_ | ((with_reducible show CE _ _ _ (tVar _) _ _); refine CE.of rfl (by assumption) ?_) | ((with_reducible show CE _ _ _ (tC _) _ _); refine CE.of rfl (by assumption) ?_) | with_reducible refine c_lst ?_ | with_reducible refine c_tup ?_)))
local macro_rules | `(tactic| walk_at "cd") => `(tactic| (walk_at "d1"))
local macro_rules | `(tactic| walk_at "cd") => `(tactic| (walk_at "c1"; walk_at "ds"))
local macro_rules | `(tactic| walk_at "cz") => `(tactic| skip)
local macro_rules | `(tactic| walk_at "cz") => `(tactic| (dsimp only [List.set, wipeR, snd_cons, snd_nil]; repeat walk_at "cd"))
local macro_rules | `(tactic| walk_at "cw") => `(tactic| (walk_at "ds"; (repeat walk_at "cd"); walk_at "cz"))

local macro_rules | `(tactic| walk_at "d1") => `(tactic| ((with_reducible show WE _ (tOp rMulS _ _) _ _); refine WO.we (wo_rep ?_)))
/-! ## the law -/
theorem why_pl {h p g : D} {e : Str × D} (z : whyB h p g = some e) : Pl 3 (.tup [.str e.1, e.2]) := by
  have key : (e = (("hardness" : Str), .non) ∨ e = (("places" : Str), .non)) ∨ ∃ c, e = (("grindings" : Str), .int c) := by
    unfold whyB at z
    split at z
    · cases z
      exact .inl (.inl rfl)
    · split at z
      · cases z
        exact .inl (.inr rfl)
      · split at z
        · split at z
          · obtain ⟨i, _, rfl⟩ := Option.map_eq_some_iff.mp z
            exact .inr ⟨_, rfl⟩
          · cases z
            exact .inr ⟨_, rfl⟩
        · cases z
          exact .inr ⟨_, rfl⟩
  rcases key with (rfl | rfl) | ⟨c, rfl⟩
  · exact .tup (pl_cons (.str (by decide +kernel)) (pl_cons .non pl_nil))
  · exact .tup (pl_cons (.str (by decide +kernel)) (pl_cons .non pl_nil))
  · show Pl 3 (.tup [.str "grindings", D.int c])
    exact .tup (pl_cons (.str (by decide +kernel)) (pl_cons .int pl_nil))
theorem ki_hard {B : BD} (ok : BOk B) : Ki (lI B.hard) := by
  have := ok.plates
  exact ki_lst (by rw [List.length_map]; omega) (kd_ints _)
theorem kgs_told {B : BD} (ok : BOk B) : Kgs (toldX B) := by
  have := ok.told
  exact kgs_lst (by rw [List.length_map]; omega) fun d hd => kg_told ok hd
theorem why_good {B : BD} (ok : BOk B) : whyB (lI B.hard) (.int (B.places : Int)) (toldX B) = none := by
  have := ok.told
  rw [why_G ok]
  show (if 1 ≤ (B.told.map gDX).length ∧ (B.told.map gDX).length ≤ 6 then _ else _) = _
  rw [List.length_map, if_pos (by omega), bad_none fun d hd => ?_]
  · rfl
  · obtain ⟨g, hg, rfl⟩ := List.mem_map.mp hd
    exact good_g ok hg
theorem why_turn {B : BD} (ok : BOk B) {i : Nat} {d : D} (hi : i < B.told.length) (gd : grindB d B.hard.length B.places = false) : whyB (lI B.hard) (.int (B.places : Int)) (.lst ((B.told.map gDX).set i d)) = some (("grindings" : Str), D.int (i : Int)) := by
  have := ok.told
  rw [why_G ok]
  show (if 1 ≤ ((B.told.map gDX).set i d).length ∧ ((B.told.map gDX).set i d).length ≤ 6 then _ else _) = _
  rw [List.length_set, List.length_map, if_pos (by omega), bad_some (i := i) (y := d) (fun x hx => ?_) (List.getElem?_set_self (by rw [List.length_map]; exact hi)) gd]
  · rfl
  · rw [List.take_set_of_le (Nat.le_refl _)] at hx
    obtain ⟨g, hg, rfl⟩ := List.mem_map.mp (List.mem_of_mem_take hx)
    exact good_g ok hg
theorem good_told (B : BD) : goodB B (lI B.hard) (.int (B.places : Int)) (toldX B) := by
  refine ⟨rfl, rfl, _, rfl, (pl_toldX B).mono (by decide), ?_⟩
  have := py_toldX B
  unfold toldX at this
  rw [D.py] at this
  exact PyData.list.inj this
theorem len9 {α : Type} {l : List α} (h : l.length = 9) : ∃ a b c d e f g i j, l = [a, b, c, d, e, f, g, i, j] := by
  match l, h with
  | [a, b, c, d, e, f, g, i, j], _ => exact ⟨a, b, c, d, e, f, g, i, j, rfl⟩
def B9 : BD := ⟨[9, 1, 9, 1], 3, List.replicate 6 (0, 3, [2, 0, 1])⟩
def l9 : List D := (List.replicate (Int.toNat 6) [D.tup [.int 0, .int 3, .tup [.int 2, .int 0, .int 1]]]).flatten
theorem m9 : ∀ d ∈ l9, d = D.tup [.int 0, .int 3, .tup [.int 2, .int 0, .int 1]] := fun d hd => by
  unfold l9 at hd
  rw [rep_one] at hd
  exact List.eq_of_mem_replicate hd
theorem k9 : ∀ d ∈ l9, Kg d := fun d hd => by
  rw [m9 d hd]
  exact kg_3 (ki_int _) (ki_int _) (ki_tup (by decide) fun d hd => by simp only [List.mem_cons, List.not_mem_nil, or_false] at hd; rcases hd with rfl | rfl | rfl <;> rfl)
theorem p9 : ∀ d ∈ l9, Pl 19 d := fun d hd => by
  rw [m9 d hd]
  exact .tup (pl_cons .int (pl_cons .int (pl_cons (.tup (pl_cons .int (pl_cons .int (pl_cons .int pl_nil)))) pl_nil)))
theorem ok9 : BOk B9 := ⟨by decide, by decide, by decide, by decide, fun g hg => by
  cases List.eq_of_mem_replicate hg
  exact ⟨by decide, by decide, by decide, by decide⟩⟩
theorem why9 : whyB (lI B9.hard) (.int (B9.places : Int)) (.lst l9) = none := by
  rw [why_G ok9]
  show (if 1 ≤ l9.length ∧ l9.length ≤ 6 then (badAt l9 B9.hard.length B9.places).map fun (i : Nat) => (("grindings" : Str), D.int (i : Int)) else some (("grindings" : Str), D.int (-1))) = none
  rw [if_pos (by decide), bad_none fun d hd => by rw [m9 d hd]; decide]
  rfl
theorem cut_10 (ns : List Int) : cutD (ns.map D.int) none (some 10) = (ns.take 10).map D.int := by
  rw [show cutD (ns.map D.int) none (some 10) = (ns.map D.int).take 10 from cut_to 10, List.map_take]
section
variable {P : Program} {w : World} {K : PySem.W.Frag} {mg : Str → Option Value} {base : Heap} {C : Addr}
abbrev s_law : Stmt := topS 29
abbrev n_law : List Str := ["_law_script", "_law_cell", "_law_state", "_law_model", "_law_k", "_law_spoilt_here", "_law_at", "_law_found", "_law_due"]
theorem sc_law : FnScope ["_law_script", "_law_cell", "_law_state", "_law_model", "_law_k", "_law_spoilt_here", "_law_at", "_law_found", "_law_due"] ["_law_script"] (defScope s_law) := ⟨rfl, rfl, rfl, by decide +kernel, rfl, by decide +kernel, by decide +kernel⟩
theorem ok_law (B0 : Blt mg) (d__law_digit : Def P w K mg base 1 "_law_digit" ["_law_state", "_law_base"] (spD K C cDigit)) (d__law_bench : Def P w K mg base 2 "_law_bench" ["_law_state", "_law_plates", "_law_places"] (spD K C cBench))
    (d__law_said : Def P w K mg base 7 "_law_said" ["_law_parts_in"] (spD K C cSaidB)) (d__law_turn_spoilt : Def P w K mg base 2 "_law_turn_spoilt" ["_law_state", "_law_model"] (spD K C cTurnS)) (d__law_spoilt : Def P w K mg base 3 "_law_spoilt" ["_law_state", "_law_model"] (spD K C cSpoilt))
    {f : Addr} {fd : FuncData} (F : Fun K "law" "law" s_law f fd) : FnOk P w K mg base CX0 9 f fd ["_law_script"] (spLaw K) := by
  refine law_okD (C := C) (m := 8) F sc_law fun cdv A outer s H E ns hr hlen => ?_
  have B := B0
  refine ⟨_, (pss_cons (ps_for PassesOwn.never rfl (k_seq (K := K) rfl (pe_op (k_addS (K := K) rfl) (pe_lst (pa_cons pe_int (pa_cons pe_int (pa_cons pe_int (pa_cons pe_int pa_nil))))) (pe_slice (k_sl (K := K) rfl) (pv 0) po_none (po_some pe_int)))) (pg_name (i := 1) sc_law.nd rfl (Or.inl rfl)) (pss_cons (ps_set (i := 2) sc_law.nd rfl (Or.inl rfl) (pe_lst (pa_cons (pv 1) pa_nil))) (pss_cons (ps_set (i := 3) sc_law.nd rfl (Or.inl rfl) (pe_d d__law_bench (hr.mono (by decide)) (by rfl) (pa_cons (pv 2) (pa_cons pe_int (pa_cons pe_int pa_nil))))) (pss_cons (ps_if (pt_cmpR op_notN (pe_d d__law_said (hr.mono (by decide)) (by rfl) (pa_cons (pe_lst (pa_cons (pe_callTy (k_list (K := K) rfl) (by rfl) B.list bb_list (pa_cons (pe_dget (hu_of hr) (pv 3) pe_str (fun _ _ => rfl)) pa_nil)) (pa_cons (pe_dget (hu_of hr) (pv 3) pe_str (fun _ _ => rfl)) (pa_cons (pe_callTy (k_list (K := K) rfl) (by rfl) B.list bb_list (pa_cons (pe_dget (hu_of hr) (pv 3) pe_str (fun _ _ => rfl)) pa_nil)) pa_nil)))) pa_nil)) pe_non (nomark _)) (pss_one (ps_ret pe_bl)) pss_nil) (pss_one (ps_for PassesOwn.never rfl (pi_range1 (by rfl) B.range (pa_cons pe_int pa_nil)) (pg_name (i := 4) sc_law.nd rfl (Or.inl rfl)) (pss_cons (ps_asg (pe_d d__law_turn_spoilt (hr.mono (by decide)) (by rfl) (pa_cons (pv 2) (pa_cons (pv 3) pa_nil))) (k_tup (K := K) (n := 2) rfl rfl (pgs_cons (pg_name (i := 5) sc_law.nd rfl (Or.inl rfl)) (pgs_cons (pg_name (i := 6) sc_law.nd rfl (Or.inl rfl)) pgs_nil)))) (pss_cons (ps_if (pt_cmpR (k_ne (K := K) rfl hr.units) (pe_d d__law_said (hr.mono (by decide)) (by rfl) (pa_cons (pe_lst (pa_cons (pe_callTy (k_list (K := K) rfl) (by rfl) B.list bb_list (pa_cons (pe_dget (hu_of hr) (pv 3) pe_str (fun _ _ => rfl)) pa_nil)) (pa_cons (pe_dget (hu_of hr) (pv 3) pe_str (fun _ _ => rfl)) (pa_cons (pv 5) pa_nil)))) pa_nil)) (pe_tup (pa_cons pe_str (pa_cons (pv 6) pa_nil))) (nomark _)) (pss_one (ps_ret pe_bl)) pss_nil) (pss_cons (ps_asg (pe_d d__law_spoilt (hr.mono (by decide)) (by rfl) (pa_cons (pv 2) (pa_cons (pv 3) pa_nil))) (k_tup (K := K) (n := 2) rfl rfl (pgs_cons (pg_name (i := 7) sc_law.nd rfl (Or.inl rfl)) (pgs_cons (pg_name (i := 8) sc_law.nd rfl (Or.inl rfl)) pgs_nil)))) (pss_one (ps_if (pt_cmpR (k_ne (K := K) rfl hr.units) (pe_d d__law_said (hr.mono (by decide)) (by rfl) (pa_cons (pv 7) pa_nil)) (pv 8) (nomark _)) (pss_one (ps_ret pe_bl)) pss_nil))))))))))) (pss_one (ps_ret (pe_cmpR op_isN (pe_d d__law_said (hr.mono (by decide)) (by rfl) (pa_cons (pe_lst (pa_cons (pe_lst (pa_cons pe_int (pa_cons pe_int (pa_cons pe_int (pa_cons pe_int pa_nil))))) (pa_cons pe_int (pa_cons (pe_op k_mulS (pe_lst (pa_cons (pe_tup (pa_cons pe_int (pa_cons pe_int (pa_cons (pe_tup (pa_cons pe_int (pa_cons pe_int (pa_cons pe_int pa_nil)))) pa_nil)))) pa_nil)) pe_int) pa_nil)))) pa_nil)) pe_non (nomark _))))), ?_⟩; refine start_eqR (ρ' := [some (.d (lI ns)), none, none, none, none, none, none, none, none]) rfl ?_
  refine ws_seq ?_
  refine ws_for (wi_seqL ?_)
  walk_at "dw"
  refine WO.we (wo_slL ?_)
  walk_at "dw"
  rw [cut_10]
  refine op_cat (by simp; omega) ?_
  walk_at "dw"
  refine ⟨fun i ρ => ρ.length = 9, rfl, ?_, ?_⟩
  · rintro i d ρ hd hρ
    obtain ⟨c, rfl⟩ : ∃ c : Int, d = .int c := by
      have := List.mem_of_getElem? hd
      rcases List.mem_append.mp this with h | h
      · simp only [List.mem_cons, List.not_mem_nil, or_false] at h
        rcases h with rfl | rfl | rfl | rfl <;> exact ⟨_, rfl⟩
      · obtain ⟨n, _, rfl⟩ := List.mem_map.mp h
        exact ⟨n, rfl⟩
    refine wg_name (by trivial) ?_
    refine ws_state (i := 2) (j := 1) rfl (List.getElem?_set_self (by rw [hρ]; decide)) (by rw [List.length_set, hρ]; decide) (by show (List.replicate _ _).length = 9; rw [List.length_replicate, List.length_set, hρ]) fun p F0 H0 => ?_
    rw [List.length_set, hρ]
    refine start_eqR (ρ' := [none, none, some (.d .st), none, none, none, none, none, none]) rfl ?_
    walk_at "dw"
    refine ⟨4, 3, rfl, by decide, by decide, by decide, by decide, fun B1 ok _ _ => ?_⟩
    walk_at "dw"
    refine ⟨lI B1.hard, .int (B1.places : Int), toldX B1, rfl, ki_hard ok, rfl, kgs_told ok, .inl ⟨B1, ok, good_told B1, why_good ok, ?_⟩⟩
    walk_at "dw"
    refine ws_for (wi_rng1 ?_)
    walk_at "dw"
    refine ⟨by decide, by decide, ?_⟩
    refine ⟨fun i ρ => ∃ a b c d e, ρ = [none, none, some (.d .st), some (.d (modelD B1)), a, b, c, d, e], ⟨_, _, _, _, _, rfl⟩, ?_, ?_⟩
    · rintro i d ρ hd ⟨a, b, c, d', e, rfl⟩
      walk_at "dw"
      refine ⟨B1, rfl, ok, fun i x hi kx gx => ?_⟩
      walk_at "dw"
      refine ⟨lI B1.hard, .int (B1.places : Int), .lst ((B1.told.map gDX).set i x), rfl, ki_hard ok, rfl, ?_, .inr ⟨_, why_turn ok hi gx, ?_⟩⟩
      · have := ok.told
        refine kgs_lst (by rw [List.length_set, List.length_map]; omega) fun y hy => ?_
        rcases List.mem_or_eq_of_mem_set hy with h | rfl
        · exact kg_told ok h
        · exact kx
      walk_at "dw"
      have pg : ∀ n : Nat, Pl 20 (.tup [.str "grindings", .int (n : Int)]) := fun n => .tup (pl_cons (.str (by decide +kernel)) (pl_cons .int pl_nil))
      refine op_neDD (pg _) (pg _) ?_
      rw [eqD_self (pg _)]
      walk_at "dw"
      refine ⟨B1, rfl, ok, fun h p g e kh kp kg hw => ?_⟩
      walk_at "dw"
      refine ⟨h, p, g, rfl, kh, kp, kg, .inr ⟨e, hw, ?_⟩⟩
      walk_at "dw"
      have pe := (why_pl hw).mono (show 3 ≤ 20 by decide)
      refine op_neDD pe pe ?_
      rw [eqD_self pe]
      walk_at "dw"
      exact ⟨_, _, _, _, _, rfl⟩
    · rintro ρ ⟨a, b, c, d', e, rfl⟩
      rfl
  · intro ρ hρ
    have hρ : ρ.length = 9 := hρ
    obtain ⟨a, b, c, d, e, f, g, h, j, rfl⟩ := len9 hρ
    walk_at "dw"
    refine ⟨by decide, by decide, by decide, ?_⟩
    walk_at "dw"
    refine ⟨lI B9.hard, .int (B9.places : Int), .lst l9, rfl, ki_hard ok9, rfl, ?_, .inl ⟨B9, ok9, ⟨rfl, rfl, l9, rfl, ?_, rfl⟩, ?_, ?_⟩⟩
    · exact kgs_lst (by decide) fun d hd => k9 d hd
    · exact .lst fun d hd => p9 d hd
    · exact why9
    walk_at "dw"
    rfl
end
end G.Q

namespace G.Q
open PySem PySem.Spec PyProof.Rows L2
theorem kit_self {K : PySem.W.Frag} {C : Addr} : PySem.W.kitOne K (.ref C) (.ref C) = some true := by
  unfold PySem.W.kitOne
  rw [if_pos (beq_self_eq_true _)]
theorem all_mk {l : PySem.W.OpenLaw} {w : World} {K : PySem.W.Frag} {h : Heap} {mg : Str → Option Value} {fa C : Addr} (X : K.In h) (G0 : h.Ns mainGlobals mg) (hfa : mg "law" = some (.ref fa))
    {f1 : Addr} {od1 an1 : Option Addr} {sl1 : Array (Option Value)} {oc1 kV1 dc1 pm1 cd1 ct1 : Value} (a1 : PySem.W.nsIn K mainGlobals "_law_digit" = some (some (.ref f1))) (l1 : K.lookup f1 = some ⟨oc1, od1, .func (PySem.W.fnOf "_law_digit" "_law_digit" (defArgs s__law_digit) (defBody s__law_digit) (defScope s__law_digit) .none kV1 dc1 pm1 an1 cd1 ct1), sl1⟩) (c1 : PySem.W.codeIn K cd1 "_law_digit" = true) (k1 : PySem.W.keepIn K (.ref f1) = true)
    {f2 : Addr} {od2 an2 : Option Addr} {sl2 : Array (Option Value)} {oc2 kV2 dc2 pm2 cd2 ct2 : Value} (a2 : PySem.W.nsIn K mainGlobals "_law_made" = some (some (.ref f2))) (l2 : K.lookup f2 = some ⟨oc2, od2, .func (PySem.W.fnOf "_law_made" "_law_made" (defArgs s__law_made) (defBody s__law_made) (defScope s__law_made) .none kV2 dc2 pm2 an2 cd2 ct2), sl2⟩) (c2 : PySem.W.codeIn K cd2 "_law_made" = true) (k2 : PySem.W.keepIn K (.ref f2) = true)
    {f3 : Addr} {od3 an3 : Option Addr} {sl3 : Array (Option Value)} {oc3 kV3 dc3 pm3 cd3 ct3 : Value} (a3 : PySem.W.nsIn K mainGlobals "_law_bench" = some (some (.ref f3))) (l3 : K.lookup f3 = some ⟨oc3, od3, .func (PySem.W.fnOf "_law_bench" "_law_bench" (defArgs s__law_bench) (defBody s__law_bench) (defScope s__law_bench) .none kV3 dc3 pm3 an3 cd3 ct3), sl3⟩) (c3 : PySem.W.codeIn K cd3 "_law_bench" = true) (k3 : PySem.W.keepIn K (.ref f3) = true)
    {f4 : Addr} {od4 an4 : Option Addr} {sl4 : Array (Option Value)} {oc4 kV4 dc4 pm4 cd4 ct4 : Value} (a4 : PySem.W.nsIn K mainGlobals "is_whole" = some (some (.ref f4))) (l4 : K.lookup f4 = some ⟨oc4, od4, .func (PySem.W.fnOf "is_whole" "is_whole" (defArgs s_is_whole) (defBody s_is_whole) (defScope s_is_whole) .none kV4 dc4 pm4 an4 cd4 ct4), sl4⟩) (c4 : PySem.W.codeIn K cd4 "is_whole" = true) (k4 : PySem.W.keepIn K (.ref f4) = true)
    {f5 : Addr} {od5 an5 : Option Addr} {sl5 : Array (Option Value)} {oc5 kV5 dc5 pm5 cd5 ct5 : Value} (a5 : PySem.W.nsIn K mainGlobals "is_hardness" = some (some (.ref f5))) (l5 : K.lookup f5 = some ⟨oc5, od5, .func (PySem.W.fnOf "is_hardness" "is_hardness" (defArgs s_is_hardness) (defBody s_is_hardness) (defScope s_is_hardness) .none kV5 dc5 pm5 an5 cd5 ct5), sl5⟩) (c5 : PySem.W.codeIn K cd5 "is_hardness" = true) (k5 : PySem.W.keepIn K (.ref f5) = true)
    {f6 : Addr} {od6 an6 : Option Addr} {sl6 : Array (Option Value)} {oc6 kV6 dc6 pm6 cd6 ct6 : Value} (a6 : PySem.W.nsIn K mainGlobals "are_wholes" = some (some (.ref f6))) (l6 : K.lookup f6 = some ⟨oc6, od6, .func (PySem.W.fnOf "are_wholes" "are_wholes" (defArgs s_are_wholes) (defBody s_are_wholes) (defScope s_are_wholes) .none kV6 dc6 pm6 an6 cd6 ct6), sl6⟩) (c6 : PySem.W.codeIn K cd6 "are_wholes" = true) (k6 : PySem.W.keepIn K (.ref f6) = true)
    {f7 : Addr} {od7 an7 : Option Addr} {sl7 : Array (Option Value)} {oc7 kV7 dc7 pm7 cd7 ct7 : Value} (a7 : PySem.W.nsIn K mainGlobals "is_turn" = some (some (.ref f7))) (l7 : K.lookup f7 = some ⟨oc7, od7, .func (PySem.W.fnOf "is_turn" "is_turn" (defArgs s_is_turn) (defBody s_is_turn) (defScope s_is_turn) .none kV7 dc7 pm7 an7 cd7 ct7), sl7⟩) (c7 : PySem.W.codeIn K cd7 "is_turn" = true) (k7 : PySem.W.keepIn K (.ref f7) = true)
    {f8 : Addr} {od8 an8 : Option Addr} {sl8 : Array (Option Value)} {oc8 kV8 dc8 pm8 cd8 ct8 : Value} (a8 : PySem.W.nsIn K mainGlobals "is_grinding" = some (some (.ref f8))) (l8 : K.lookup f8 = some ⟨oc8, od8, .func (PySem.W.fnOf "is_grinding" "is_grinding" (defArgs s_is_grinding) (defBody s_is_grinding) (defScope s_is_grinding) .none kV8 dc8 pm8 an8 cd8 ct8), sl8⟩) (c8 : PySem.W.codeIn K cd8 "is_grinding" = true) (k8 : PySem.W.keepIn K (.ref f8) = true)
    {f9 : Addr} {od9 an9 : Option Addr} {sl9 : Array (Option Value)} {oc9 kV9 dc9 pm9 cd9 ct9 : Value} (a9 : PySem.W.nsIn K mainGlobals "_law_said" = some (some (.ref f9))) (l9 : K.lookup f9 = some ⟨oc9, od9, .func (PySem.W.fnOf "_law_said" "_law_said" (defArgs s__law_said) (defBody s__law_said) (defScope s__law_said) .none kV9 dc9 pm9 an9 cd9 ct9), sl9⟩) (c9 : PySem.W.codeIn K cd9 "_law_said" = true) (k9 : PySem.W.keepIn K (.ref f9) = true)
    {f10 : Addr} {od10 an10 : Option Addr} {sl10 : Array (Option Value)} {oc10 kV10 dc10 pm10 cd10 ct10 : Value} (a10 : PySem.W.nsIn K mainGlobals "_law_turn_spoilt" = some (some (.ref f10))) (l10 : K.lookup f10 = some ⟨oc10, od10, .func (PySem.W.fnOf "_law_turn_spoilt" "_law_turn_spoilt" (defArgs s__law_turn_spoilt) (defBody s__law_turn_spoilt) (defScope s__law_turn_spoilt) .none kV10 dc10 pm10 an10 cd10 ct10), sl10⟩) (c10 : PySem.W.codeIn K cd10 "_law_turn_spoilt" = true) (k10 : PySem.W.keepIn K (.ref f10) = true)
    {f11 : Addr} {od11 an11 : Option Addr} {sl11 : Array (Option Value)} {oc11 kV11 dc11 pm11 cd11 ct11 : Value} (a11 : PySem.W.nsIn K mainGlobals "_law_bad_grinding" = some (some (.ref f11))) (l11 : K.lookup f11 = some ⟨oc11, od11, .func (PySem.W.fnOf "_law_bad_grinding" "_law_bad_grinding" (defArgs s__law_bad_grinding) (defBody s__law_bad_grinding) (defScope s__law_bad_grinding) .none kV11 dc11 pm11 an11 cd11 ct11), sl11⟩) (c11 : PySem.W.codeIn K cd11 "_law_bad_grinding" = true) (k11 : PySem.W.keepIn K (.ref f11) = true)
    {f12 : Addr} {od12 an12 : Option Addr} {sl12 : Array (Option Value)} {oc12 kV12 dc12 pm12 cd12 ct12 : Value} (a12 : PySem.W.nsIn K mainGlobals "_law_spoilt" = some (some (.ref f12))) (l12 : K.lookup f12 = some ⟨oc12, od12, .func (PySem.W.fnOf "_law_spoilt" "_law_spoilt" (defArgs s__law_spoilt) (defBody s__law_spoilt) (defScope s__law_spoilt) .none kV12 dc12 pm12 an12 cd12 ct12), sl12⟩) (c12 : PySem.W.codeIn K cd12 "_law_spoilt" = true) (k12 : PySem.W.keepIn K (.ref f12) = true)
    {f13 : Addr} {od13 an13 : Option Addr} {sl13 : Array (Option Value)} {oc13 kV13 dc13 pm13 cd13 ct13 : Value} (a13 : PySem.W.findIn K (.ref C) "__init__" = some (some (.ref f13))) (i13 : PySem.W.isFn K (.ref f13) = true) (l13 : K.lookup f13 = some ⟨oc13, od13, .func (PySem.W.fnOf "__init__" "Bench.__init__" (defArgs s_Bench___init__) (defBody s_Bench___init__) (defScope s_Bench___init__) .none kV13 dc13 pm13 an13 cd13 ct13), sl13⟩) (c13 : PySem.W.codeIn K cd13 "Bench.__init__" = true) (k13 : PySem.W.keepIn K (.ref f13) = true)
    {f14 : Addr} {od14 an14 : Option Addr} {sl14 : Array (Option Value)} {oc14 kV14 dc14 pm14 cd14 ct14 : Value} (a14 : PySem.W.findIn K (.ref C) "pairs_of" = some (some (.ref f14))) (i14 : PySem.W.isFn K (.ref f14) = true) (l14 : K.lookup f14 = some ⟨oc14, od14, .func (PySem.W.fnOf "pairs_of" "Bench.pairs_of" (defArgs s_Bench_pairs_of) (defBody s_Bench_pairs_of) (defScope s_Bench_pairs_of) .none kV14 dc14 pm14 an14 cd14 ct14), sl14⟩) (c14 : PySem.W.codeIn K cd14 "Bench.pairs_of" = true) (k14 : PySem.W.keepIn K (.ref f14) = true)
    {f15 : Addr} {od15 an15 : Option Addr} {sl15 : Array (Option Value)} {oc15 kV15 dc15 pm15 cd15 ct15 : Value} (a15 : PySem.W.nsIn K mainGlobals "law" = some (some (.ref f15))) (l15 : K.lookup f15 = some ⟨oc15, od15, .func (PySem.W.fnOf "law" "law" (defArgs s_law) (defBody s_law) (defScope s_law) .none kV15 dc15 pm15 an15 cd15 ct15), sl15⟩) (c15 : PySem.W.codeIn K cd15 "law" = true) (k15 : PySem.W.keepIn K (.ref f15) = true)
    (aC : PySem.W.nsIn K mainGlobals "Bench" = some (some (.ref C))) (pg : PySem.W.plainGet K C Str.empty = true) (hd : PySem.W.hasDictIn K C = true) (po : PySem.W.plainOver K C = true) (sa : PySem.W.findIn K (.ref C) "__setattr__" = some (some (.builtin "object.__setattr__"))) (mk : PySem.W.makesIn K C = true) (kc : PySem.W.keepIn K (.ref C) = true)
    (n_hard : PySem.W.findIn K (.ref C) "hard" = some none) (n_places : PySem.W.findIn K (.ref C) "places" = some none) (n_told : PySem.W.findIn K (.ref C) "told" = some none) (n_heavy : PySem.W.findIn K (.ref C) "heavy" = some none) (n_meets : PySem.W.findIn K (.ref C) "meets" = some none)
    {t_MOST_PLATES : Tok} (g_MOST_PLATES : PySem.W.nsIn K mainGlobals "MOST_PLATES" = some (some (.int 4 t_MOST_PLATES))) {t_MOST_HARDNESS : Tok} (g_MOST_HARDNESS : PySem.W.nsIn K mainGlobals "MOST_HARDNESS" = some (some (.int 9 t_MOST_HARDNESS))) {t_MOST_PLACES : Tok} (g_MOST_PLACES : PySem.W.nsIn K mainGlobals "MOST_PLACES" = some (some (.int 3 t_MOST_PLACES))) {t_MOST_GRINDINGS : Tok} (g_MOST_GRINDINGS : PySem.W.nsIn K mainGlobals "MOST_GRINDINGS" = some (some (.int 6 t_MOST_GRINDINGS)))
    (b_len : PySem.W.nsIn K mainGlobals "len" = some none) (b_sum : PySem.W.nsIn K mainGlobals "sum" = some none) (b_sorted : PySem.W.nsIn K mainGlobals "sorted" = some none) (b_all : PySem.W.nsIn K mainGlobals "all" = some none) (b_any : PySem.W.nsIn K mainGlobals "any" = some none) (b_abs : PySem.W.nsIn K mainGlobals "abs" = some none) (b_isinstance : PySem.W.nsIn K mainGlobals "isinstance" = some none) (b_list : PySem.W.nsIn K mainGlobals "list" = some none) (b_tuple : PySem.W.nsIn K mainGlobals "tuple" = some none) (b_int : PySem.W.nsIn K mainGlobals "int" = some none) (b_bool : PySem.W.nsIn K mainGlobals "bool" = some none) (b_range : PySem.W.nsIn K mainGlobals "range" = some none) (b_zip : PySem.W.nsIn K mainGlobals "zip" = some none) (b_enumerate : PySem.W.nsIn K mainGlobals "enumerate" = some none)
    {C_NoBench C_GrindError C_NoGrinding C_NoStand : Addr}
    (x1 : PySem.W.nsIn K mainGlobals "NoBench" = some (some (.ref C_NoBench)))
    (x2 : PySem.W.nsIn K mainGlobals "GrindError" = some (some (.ref C_GrindError)))
    (u1 : PySem.W.nsIn K mainGlobals "NoGrinding" = some (some (.ref C_NoGrinding)))
    (u2 : PySem.W.nsIn K mainGlobals "NoStand" = some (some (.ref C_NoStand)))
    (x3 : PySem.W.findIn K (.ref C_NoBench) "__getattribute__" = some (some (.builtin "BaseException.__getattribute__")))
    (x4 : PySem.W.findIn K (.ref C_NoBench) "__getattr__" = some none)
    (x5 : PySem.W.subIn K (.ref C_NoBench) (.type "BaseException") = some true)
    (x6 : PySem.W.hasDictIn K C_NoBench = true)
    (x7 : PySem.W.findIn K (.ref C_NoBench) "what" = some none)
    (x9 : PySem.W.findIn K (.ref C_NoBench) "at" = some none)
    (x8 : PySem.W.typeIn K (.ref C_NoBench) = some (.type "type"))
    (x10 : oexIn K C_NoBench = true)
    (x11 : PySem.W.findIn K (.ref C_NoBench) "__setattr__" = some (some (.builtin "object.__setattr__")))
    (x12 : PySem.W.keepIn K (.ref C_NoBench) = true)
    (r1 : PySem.W.subIn K (.ref C_GrindError) (.type "BaseException") = some true)
    (r2 : PySem.W.hasDictIn K C_GrindError = true)
    (r3 : PySem.W.typeIn K (.ref C_GrindError) = some (.type "type"))
    (r4 : PySem.W.subIn K (.ref C_NoBench) (.ref C_GrindError) = some true)
    (s1 : PySem.W.findIn K (.ref C_NoBench) "__class__" = some (some (.builtin "object.__class__")))
    (s2 : PySem.W.specialIn K (.builtin "object.__class__") "__get__" = some (some (.builtin "getset_descriptor.__get__")))
    (s3 : PySem.W.takesIn K (.builtin "object.__class__") = some true)
    (s4 : PySem.W.mroIn K C_NoBench (.type "object") = some true)
    (s5 : PySem.W.isClsIn K C_NoBench = true)
    (v1 : PySem.W.kitOne K (.ref C_NoBench) (.type "ValueError") = some true)
    (v2 : PySem.W.kitAny K (.ref C_NoBench) [.ref C_NoGrinding, .ref C_NoStand] = some false)
    {fN dT : Addr} {odN anN odT : Option Addr} {slN slT : Array (Option Value)} {ocN kVN dcN pmN cdN ctN ocT : Value} {nT : Nat}
    (y1 : PySem.W.findIn K (.ref C_NoBench) "__init__" = some (some (.ref fN)))
    (y2 : PySem.W.typeIn K (.ref fN) = some (.type "function"))
    (y3 : K.lookup fN = some ⟨ocN, odN, .func (PySem.W.fnOf "__init__" "NoBench.__init__" (defArgs s_NoBench___init__) (defBody s_NoBench___init__) (defScope s_NoBench___init__) (.ref dT) kVN dcN pmN anN cdN ctN), slN⟩)
    (y4 : PySem.W.codeIn K cdN "NoBench.__init__" = true)
    (y5 : PySem.W.keepIn K (.ref fN) = true)
    (y6 : K.lookup dT = some ⟨ocT, odT, .seq #[.none] nT, slT⟩)
    (z1 : PySem.W.keepIn K (.ref C_GrindError) = true)
    (z2 : PySem.W.specialIn K (.ref C_GrindError) "__getattribute__" = some (some (.builtin "type.__getattribute__")))
    (z3 : PySem.W.readsIn K C_GrindError (.type "type") = true)
    (z4 : PySem.W.findCls K (.ref C_GrindError) (.type "type") "__init__" = some (.val (.builtin "ValueError.__init__")))
    (b_ValueError : PySem.W.nsIn K mainGlobals "ValueError" = some none)
    (b_max : PySem.W.nsIn K mainGlobals "max" = some none)
    (b_min : PySem.W.nsIn K mainGlobals "min" = some none) :
    ∃ fd : FuncData, (∀ (s : Shared) (v : Value), BindsTo s fd ⟨[v], []⟩ [("_law_script", v)]) ∧ ∀ base : Heap, K.In base → base.Ns mainGlobals mg → FnOk l.prog w K mg base CX0 9 fa fd ["_law_script"] (spLaw K) := by
  have e := hfa.symm.trans (PySem.W.mg_of X G0 a15)
  cases e
  have B : Blt mg := ⟨PySem.W.mg_none_of X G0 b_len, PySem.W.mg_none_of X G0 b_sum, PySem.W.mg_none_of X G0 b_sorted, PySem.W.mg_none_of X G0 b_all, PySem.W.mg_none_of X G0 b_any, PySem.W.mg_none_of X G0 b_abs, PySem.W.mg_none_of X G0 b_isinstance, PySem.W.mg_none_of X G0 b_list, PySem.W.mg_none_of X G0 b_tuple, PySem.W.mg_none_of X G0 b_int, PySem.W.mg_none_of X G0 b_bool, PySem.W.mg_none_of X G0 b_range, PySem.W.mg_none_of X G0 b_zip, PySem.W.mg_none_of X G0 b_enumerate⟩
  have F__law_digit : FunAt K mg "_law_digit" s__law_digit ["_law_state", "_law_base"] := ⟨f1, _, fun_mk (st := s__law_digit) l1 c1 k1, PySem.W.mg_of X G0 a1, (fun_mk (st := s__law_digit) l1 c1 k1).binds (ps := ["_law_state", "_law_base"]) fun _ _ _ _ _ _ us hl => match us, hl with | [_, _], _ => rfl⟩
  have F__law_made : FunAt K mg "_law_made" s__law_made ["_law_hard", "_law_places", "_law_told"] := ⟨f2, _, fun_mk (st := s__law_made) l2 c2 k2, PySem.W.mg_of X G0 a2, (fun_mk (st := s__law_made) l2 c2 k2).binds (ps := ["_law_hard", "_law_places", "_law_told"]) fun _ _ _ _ _ _ us hl => match us, hl with | [_, _, _], _ => rfl⟩
  have F__law_bench : FunAt K mg "_law_bench" s__law_bench ["_law_state", "_law_plates", "_law_places"] := ⟨f3, _, fun_mk (st := s__law_bench) l3 c3 k3, PySem.W.mg_of X G0 a3, (fun_mk (st := s__law_bench) l3 c3 k3).binds (ps := ["_law_state", "_law_plates", "_law_places"]) fun _ _ _ _ _ _ us hl => match us, hl with | [_, _, _], _ => rfl⟩
  have F_is_whole : FunAt K mg "is_whole" s_is_whole ["thing", "low", "high"] := ⟨f4, _, fun_mk (st := s_is_whole) l4 c4 k4, PySem.W.mg_of X G0 a4, (fun_mk (st := s_is_whole) l4 c4 k4).binds (ps := ["thing", "low", "high"]) fun _ _ _ _ _ _ us hl => match us, hl with | [_, _, _], _ => rfl⟩
  have F_is_hardness : FunAt K mg "is_hardness" s_is_hardness ["thing"] := ⟨f5, _, fun_mk (st := s_is_hardness) l5 c5 k5, PySem.W.mg_of X G0 a5, (fun_mk (st := s_is_hardness) l5 c5 k5).binds (ps := ["thing"]) fun _ _ _ _ _ _ us hl => match us, hl with | [_], _ => rfl⟩
  have F_are_wholes : FunAt K mg "are_wholes" s_are_wholes ["thing", "many"] := ⟨f6, _, fun_mk (st := s_are_wholes) l6 c6 k6, PySem.W.mg_of X G0 a6, (fun_mk (st := s_are_wholes) l6 c6 k6).binds (ps := ["thing", "many"]) fun _ _ _ _ _ _ us hl => match us, hl with | [_, _], _ => rfl⟩
  have F_is_turn : FunAt K mg "is_turn" s_is_turn ["thing", "places"] := ⟨f7, _, fun_mk (st := s_is_turn) l7 c7 k7, PySem.W.mg_of X G0 a7, (fun_mk (st := s_is_turn) l7 c7 k7).binds (ps := ["thing", "places"]) fun _ _ _ _ _ _ us hl => match us, hl with | [_, _], _ => rfl⟩
  have F_is_grinding : FunAt K mg "is_grinding" s_is_grinding ["thing", "plates", "places"] := ⟨f8, _, fun_mk (st := s_is_grinding) l8 c8 k8, PySem.W.mg_of X G0 a8, (fun_mk (st := s_is_grinding) l8 c8 k8).binds (ps := ["thing", "plates", "places"]) fun _ _ _ _ _ _ us hl => match us, hl with | [_, _, _], _ => rfl⟩
  have F__law_said : FunAt K mg "_law_said" s__law_said ["_law_parts_in"] := ⟨f9, _, fun_mk (st := s__law_said) l9 c9 k9, PySem.W.mg_of X G0 a9, (fun_mk (st := s__law_said) l9 c9 k9).binds (ps := ["_law_parts_in"]) fun _ _ _ _ _ _ us hl => match us, hl with | [_], _ => rfl⟩
  have F__law_turn_spoilt : FunAt K mg "_law_turn_spoilt" s__law_turn_spoilt ["_law_state", "_law_model"] := ⟨f10, _, fun_mk (st := s__law_turn_spoilt) l10 c10 k10, PySem.W.mg_of X G0 a10, (fun_mk (st := s__law_turn_spoilt) l10 c10 k10).binds (ps := ["_law_state", "_law_model"]) fun _ _ _ _ _ _ us hl => match us, hl with | [_, _], _ => rfl⟩
  have F__law_bad_grinding : FunAt K mg "_law_bad_grinding" s__law_bad_grinding ["_law_state", "_law_model"] := ⟨f11, _, fun_mk (st := s__law_bad_grinding) l11 c11 k11, PySem.W.mg_of X G0 a11, (fun_mk (st := s__law_bad_grinding) l11 c11 k11).binds (ps := ["_law_state", "_law_model"]) fun _ _ _ _ _ _ us hl => match us, hl with | [_, _], _ => rfl⟩
  have F__law_spoilt : FunAt K mg "_law_spoilt" s__law_spoilt ["_law_state", "_law_model"] := ⟨f12, _, fun_mk (st := s__law_spoilt) l12 c12 k12, PySem.W.mg_of X G0 a12, (fun_mk (st := s__law_spoilt) l12 c12 k12).binds (ps := ["_law_state", "_law_model"]) fun _ _ _ _ _ _ us hl => match us, hl with | [_, _], _ => rfl⟩
  have Fi := fun_mk (st := s_Bench___init__) l13 c13 k13
  have bi := (fun_mk (st := s_Bench___init__) l13 c13 k13).binds (ps := ["self", "hardness", "places", "grindings"]) fun _ _ _ _ _ _ us hl => match us, hl with | [_, _, _, _], _ => rfl
  have M_pairs_of : MethAt K C "pairs_of" "Bench.pairs_of" s_Bench_pairs_of ["self", "grinding"] := ⟨f14, _, fun_mk (st := s_Bench_pairs_of) l14 c14 k14, ⟨a14, i14, k14⟩, (fun_mk (st := s_Bench_pairs_of) l14 c14 k14).binds (ps := ["self", "grinding"]) fun _ _ _ _ _ _ us hl => match us, hl with | [_, _], _ => rfl⟩
  have FL := fun_mk (st := s_law) l15 c15 k15
  refine ⟨_, fun s v => .of_eq (rfl : bindArgs (PySem.W.fnOf "law" "law" (defArgs s_law) (defBody s_law) (defScope s_law) .none kV15 dc15 pm15 an15 cd15 ct15) ⟨[v], []⟩ = _), fun base _ _ => ?_⟩
  have T : Txt K mg C := ⟨⟨pg, hd, po, sa⟩, n_hard, n_places, n_told, n_heavy, n_meets, PySem.W.mg_of X G0 aC, ⟨_, PySem.W.mg_of X G0 g_MOST_PLATES⟩, ⟨_, PySem.W.mg_of X G0 g_MOST_HARDNESS⟩, ⟨_, PySem.W.mg_of X G0 g_MOST_PLACES⟩, ⟨_, PySem.W.mg_of X G0 g_MOST_GRINDINGS⟩⟩
  have OX : OexC K C_NoBench := ⟨oex_cls x10, x11, x5, x8, x12⟩
  have XB : NbX K mg C_NoBench := ⟨PySem.W.mg_of X G0 x1, OX, ⟨x3, x4, x5, x6⟩, x7, x9⟩
  have XG : SdX K mg C_GrindError C_NoBench C_NoGrinding C_NoStand := ⟨PySem.W.mg_of X G0 x2, PySem.W.exm_ref r1 r2 r3 r4, ⟨⟨x3, x4, x5, x6, s1, s2, s3, s4⟩, s5⟩, kit_self, v1, v2⟩
  have XN : GpX mg "NoGrinding" C_NoGrinding := ⟨PySem.W.mg_of X G0 u1⟩
  have XS : GpX mg "NoStand" C_NoStand := ⟨PySem.W.mg_of X G0 u2⟩
  have GE : GeC K mg "GrindError" C_GrindError := ⟨PySem.W.mg_of X G0 x2, z1, z2, z3, z4⟩
  have FN : FunD K "__init__" "NoBench.__init__" (defArgs s_NoBench___init__) (defBody s_NoBench___init__) (defScope s_NoBench___init__) [V.non] [] fN _ := ⟨⟨_, _, _, _, _, _, _, _, _, _, rfl, y3, y4, .inr ⟨by simp, dT, _, [.none], nT, rfl, y6, rfl, .cons rfl .nil⟩, .inl rfl⟩, y5⟩
  obtain ⟨d3, w3, b3⟩ := FN.binds1 (ps := ["self", "what", "at"]) 3 1 (by simp) rfl (fun T kV doc pm an cdv ct us its h1 h2 => match us, h1, its, h2 with | [_, _, _], _, [_], _ => ⟨_, rfl, rfl⟩)
  obtain ⟨d2, w2, b2⟩ := FN.binds1 (ps := ["self", "what", "at"]) 2 0 (by simp) rfl (fun T kV doc pm an cdv ct us its h1 h2 => match us, h1, its, h2 with | [_, _], _, [_], _ => ⟨_, rfl, rfl⟩)
  have e3 : d3 = [] := by cases w3; rfl
  subst e3
  have EN : DefE l.prog w K mg base 1 C_NoBench "NoBench" ["self", "what", "at"] (spNB K) := ⟨⟨_, _, ok_NoBench_init GE FN, b3, y1, y2, OX⟩, PySem.W.mg_of X G0 x1⟩
  have EN1 : DefE1 l.prog w K mg base 1 C_NoBench "NoBench" ["self", "what", "at"] (spNB K) := ⟨⟨_, _, _, ok_NoBench_init GE FN, w2, b2, y1, y2, OX⟩, PySem.W.mg_of X G0 x1⟩
  have e1 := G.ok_digit (P := l.prog) (w := w) (K := K) (mg := mg) (base := base) B F__law_digit
  have e2 := G.Q.dig_to (P := l.prog) (w := w) (K := K) (mg := mg) (base := base) (C := C) e1
  have e3 := G.ok_made (P := l.prog) (w := w) (K := K) (mg := mg) (base := base) B F__law_made
  have e4 := G.ok_bench (P := l.prog) (w := w) (K := K) (mg := mg) (base := base) B e1 e3 F__law_bench
  have e5 := G.Q.bench_to (P := l.prog) (w := w) (K := K) (mg := mg) (base := base) (C := C) e4
  have e6 := G.Q.ok_is_whole (P := l.prog) (w := w) (K := K) (mg := mg) (base := base) (C := C) B F_is_whole
  have e7 := G.Q.ok_is_hardness (P := l.prog) (w := w) (K := K) (mg := mg) (base := base) (C := C) B T e6 F_is_hardness
  have e8 := G.Q.ok_are_wholes (P := l.prog) (w := w) (K := K) (mg := mg) (base := base) (C := C) B e6 F_are_wholes
  have e9 := G.Q.ok_is_turn (P := l.prog) (w := w) (K := K) (mg := mg) (base := base) (C := C) B e8 F_is_turn
  have e10 := G.Q.ok_is_grinding (P := l.prog) (w := w) (K := K) (mg := mg) (base := base) (C := C) B e6 e9 F_is_grinding
  have e11 := G.ok_pairs_of (P := l.prog) (w := w) (K := K) (mg := mg) (base := base) (C := C) B T M_pairs_of
  have e12 : DefCX l.prog w K mg base 5 C "Bench" ["self", "hardness", "places", "grindings"] (spInitX K C C_NoBench) := ⟨_, _, G.Q.ok_initX B T XB EN EN1 e7 e6 e10 e11 Fi, bi, ⟨mk, a13, i13, kc⟩, PySem.W.mg_of X G0 aC⟩
  have e13 := G.Q.ok_saidB (P := l.prog) (w := w) (K := K) (mg := mg) (base := base) (C := C) B (PySem.W.mg_none_of X G0 b_ValueError) XG XB XN XS e12 F__law_said
  have e14 := G.Q.ok_turn_spoilt (P := l.prog) (w := w) (K := K) (mg := mg) (base := base) (C := C) B e2 F__law_turn_spoilt
  have e15 := G.Q.ok_bad_grinding (P := l.prog) (w := w) (K := K) (mg := mg) (base := base) (C := C) B (PySem.W.mg_none_of X G0 b_max) e2 F__law_bad_grinding
  have e16 := G.Q.ok_spoilt (P := l.prog) (w := w) (K := K) (mg := mg) (base := base) (C := C) B (PySem.W.mg_none_of X G0 b_min) e2 e15 F__law_spoilt
  exact G.Q.ok_law B e2 e5 e13 e14 e16 FL
end G.Q
open PySem PySem.W PyProof.Rows
set_option maxRecDepth 100000 in
set_option maxHeartbeats 0 in
theorem PySem.Challenge.cw_groundmatch_k02_what_is_no_bench_holds : PySem.Challenge.rw_groundmatch_k02_what_is_no_bench.Holds := by
  w_on; o_law; k_head; (case hw => w_witness2)
  k_fill
  refine L2.walk_of (l := PySem.Challenge.rw_groundmatch_k02_what_is_no_bench) (n := 63) (k := 9) (x := "_law_script") (CX := fun _ => L2.CX0) (sp := fun w => G.spLaw _) rfl (by decide) rfl ⟨rfl, by decide, by decide⟩ (fun w h Y => PySem.W.kIn_of Y) ?F (fun _ H a ns hl _ hS => ⟨a, ns, rfl, hS, hl, fun p hp => (by cases hp), fun _ => rfl⟩) (fun _ _ _ _ _ h => h)
  case F =>
    intro w mg fa h KX G0 hmg
    refine' G.Q.all_mk KX G0 hmg ?a1 ?l1 ?c1 ?k1 ?a2 ?l2 ?c2 ?k2 ?a3 ?l3 ?c3 ?k3 ?a4 ?l4 ?c4 ?k4 ?a5 ?l5 ?c5 ?k5 ?a6 ?l6 ?c6 ?k6 ?a7 ?l7 ?c7 ?k7 ?a8 ?l8 ?c8 ?k8 ?a9 ?l9 ?c9 ?k9 ?a10 ?l10 ?c10 ?k10 ?a11 ?l11 ?c11 ?k11 ?a12 ?l12 ?c12 ?k12 ?a13 ?i13 ?l13 ?c13 ?k13 ?a14 ?i14 ?l14 ?c14 ?k14 ?a15 ?l15 ?c15 ?k15 ?aC ?pg ?hd ?po ?sa ?mk ?kc ?n_hard ?n_places ?n_told ?n_heavy ?n_meets ?g_MOST_PLATES ?g_MOST_HARDNESS ?g_MOST_PLACES ?g_MOST_GRINDINGS ?b_len ?b_sum ?b_sorted ?b_all ?b_any ?b_abs ?b_isinstance ?b_list ?b_tuple ?b_int ?b_bool ?b_range ?b_zip ?b_enumerate ?x1 ?x2 ?u1 ?u2 ?x3 ?x4 ?x5 ?x6 ?x7 ?x9 ?x8 ?x10 ?x11 ?x12 ?r1 ?r2 ?r3 ?r4 ?s1 ?s2 ?s3 ?s4 ?s5 ?v1 ?v2 ?y1 ?y2 ?y3 ?y4 ?y5 ?y6 ?z1 ?z2 ?z3 ?z4 ?b_ValueError ?b_max ?b_min
    (case aC => k_is); (case a1 => k_is); (case l1 => k_is); (case c1 => k_is); (case k1 => k_is); (case a2 => k_is); (case l2 => k_is); (case c2 => k_is)
    (case k2 => k_is); (case a3 => k_is); (case l3 => k_is); (case c3 => k_is); (case k3 => k_is); (case a4 => k_is); (case l4 => k_is); (case c4 => k_is)
    (case k4 => k_is); (case a5 => k_is); (case l5 => k_is); (case c5 => k_is); (case k5 => k_is); (case a6 => k_is); (case l6 => k_is); (case c6 => k_is)
    (case k6 => k_is); (case a7 => k_is); (case l7 => k_is); (case c7 => k_is); (case k7 => k_is); (case a8 => k_is); (case l8 => k_is); (case c8 => k_is)
    (case k8 => k_is); (case a9 => k_is); (case l9 => k_is); (case c9 => k_is); (case k9 => k_is); (case a10 => k_is); (case l10 => k_is); (case c10 => k_is)
    (case k10 => k_is); (case a11 => k_is); (case l11 => k_is); (case c11 => k_is); (case k11 => k_is); (case a12 => k_is); (case l12 => k_is); (case c12 => k_is)
    (case k12 => k_is); (case a13 => k_is); (case i13 => k_is); (case l13 => k_is); (case c13 => k_is); (case k13 => k_is); (case a14 => k_is); (case i14 => k_is)
    (case l14 => k_is); (case c14 => k_is); (case k14 => k_is); (case a15 => k_is); (case l15 => k_is); (case c15 => k_is); (case k15 => k_is); (case pg => k_is)
    (case hd => k_is); (case po => k_is); (case sa => k_is); (case mk => k_is); (case kc => k_is); (case n_hard => k_is); (case n_places => k_is); (case n_told => k_is)
    (case n_heavy => k_is); (case n_meets => k_is); (case g_MOST_PLATES => k_is); (case g_MOST_HARDNESS => k_is); (case g_MOST_PLACES => k_is); (case g_MOST_GRINDINGS => k_is); (case b_len => k_is); (case b_sum => k_is)
    (case b_sorted => k_is); (case b_all => k_is); (case b_any => k_is); (case b_abs => k_is); (case b_isinstance => k_is); (case b_list => k_is); (case b_tuple => k_is); (case b_int => k_is)
    (case b_bool => k_is); (case b_range => k_is); (case b_zip => k_is); (case b_enumerate => k_is); (case x1 => first | k_is | rfl | decide +kernel); (case x2 => first | k_is | rfl | decide +kernel); (case u1 => first | k_is | rfl | decide +kernel); (case u2 => first | k_is | rfl | decide +kernel)
    (case x3 => first | k_is | rfl | decide +kernel); (case x4 => first | k_is | rfl | decide +kernel); (case x5 => first | k_is | rfl | decide +kernel); (case x6 => first | k_is | rfl | decide +kernel); (case x7 => first | k_is | rfl | decide +kernel); (case x9 => first | k_is | rfl | decide +kernel); (case x8 => first | k_is | rfl | decide +kernel); (case x10 => first | rfl | decide +kernel)
    (case x11 => first | k_is | rfl | decide +kernel); (case x12 => first | k_is | rfl | decide +kernel); (case r1 => first | k_is | rfl | decide +kernel); (case r2 => first | k_is | rfl | decide +kernel); (case r3 => first | k_is | rfl | decide +kernel); (case r4 => first | k_is | rfl | decide +kernel); (case s1 => first | k_is | rfl | decide +kernel); (case s2 => first | k_is | rfl | decide +kernel)
    (case s3 => first | k_is | rfl | decide +kernel); (case s4 => first | k_is | rfl | decide +kernel); (case s5 => first | k_is | rfl | decide +kernel); (case v1 => first | k_is | rfl | decide +kernel); (case v2 => first | k_is | rfl | decide +kernel); (case y1 => first | k_is | rfl | decide +kernel); (case y2 => first | k_is | rfl | decide +kernel); (case y3 => first | k_is | rfl | decide +kernel)
    (case y4 => first | k_is | rfl | decide +kernel); (case y5 => first | k_is | rfl | decide +kernel); (case y6 => first | k_is | rfl | decide +kernel); (case z1 => first | k_is | rfl | decide +kernel); (case z2 => first | k_is | rfl | decide +kernel); (case z3 => first | k_is | rfl | decide +kernel); (case z4 => first | k_is | rfl | decide +kernel); (case b_ValueError => k_is)
    (case b_max => k_is); (case b_min => k_is)

