import PyProof.Rows.All
import Wide.All
import OpenK.AllK
import Wide.FinOn
import HandS.ForMost
import HandS.Conv
import HandS.Zip
import HandS.IsInst
import HandS.Wide
import HandS.Walk
import KE.KIndexOf
import KE.GoesEnum
import HandS.TupAny
import HandS.TupLe
import HandS.DictEq
import HandS.Deep
import HandS.WordsExc
import HandS.TryOnly
import HandS.ExcIs
import HandS.ExcField
import HandS.RaiseMore
import HandS.Small
import KE.KExcIs
import HandS.TupMul
import HandS.Iter
import HandS.DictTup
import HandS.DictSubView
import HandS.ExcInit
import OpenK.KCls
import HandS.DictComp
import HandS.TupLen
import HandS.More
import PyProof.Rows.TupDisplay
import HandS.Style
import HandS.SortOrd
import HandS.SortRule
import PySem.Challenge.RW_groundmatch_k01_benches_told
set_option Elab.async false
set_option linter.all false
set_option maxRecDepth 100000
set_option maxHeartbeats 4000000
set_option exponentiation.threshold 4000
namespace G
open PySem
def topS (i : Nat) : Stmt := PySem.Challenge.pw_groundmatch_k01_benches_told.main.body.getD i (.Pass ⟨0, 0, 0, 0⟩)
end G

namespace G
open PySem PySem.Spec PyProof.Rows L2

section
variable {X : Cx}
theorem op_or {f : Value → Value → Sem Value} {r1 r2 : R2} (h1 : OpR X f r1) (h2 : OpR X f r2) : OpR X f (fun x y H Q => r1 x y H Q ∨ r2 x y H Q) := by
  intro pins s σ H x y v u Q I rx ry h
  rcases h with h | h
  · exact h1 pins s σ H x y v u Q I rx ry h
  · exact h2 pins s σ H x y v u Q I rx ry h
theorem cr_or {f : Value} {r1 r2 : List V → Hp → VK → Prop} (h1 : CallR X f r1) (h2 : CallR X f r2) : CallR X f (fun vs H Q => r1 vs H Q ∨ r2 vs H Q) := by
  intro pins s σ H vs us Q I r h
  rcases h with h | h
  · exact h1 pins s σ H vs us Q I r h
  · exact h2 pins s σ H vs us Q I r h

/-- o[i] of a list, by values (for o[i] op= e) -/
theorem get_list : PGet X (rIxL X.K) := by
  intro pins s σ H x y v u Q I rx ry h
  obtain ⟨p, xs, i, z, rfl, rfl, hq, he, q⟩ := h
  cases rx
  obtain ⟨t, rfl⟩ := ry
  obtain ⟨its, r, pl, hz⟩ := I.list hq
  obtain ⟨j, h1, h2, h3, h4, h5⟩ := atI_get he
  obtain ⟨w, ew, rw'⟩ := r.get h2
  have hl := r.length
  have hn := line63
  have fin : EP X pins σ Q w s := ⟨z, H, I, rw', q⟩
  by_cases h0 : 0 ≤ i
  · have hj : i.toNat = j := by
      rw [seqIndex_of h0 h5] at h1
      exact Option.some.inj h1
    exact wpAny_getItem_list pl.isList h0 (by omega) (by rw [hj]; simpa using ew) fin
  · have hj : (i + (its.toArray.size : Int)).toNat = j := by
      rw [seqIndex_neg (by omega) h4] at h1
      rw [List.size_toArray, ← hl]
      exact Option.some.inj h1
    exact wpAny_getItem_list_neg pl.isList (by omega) (by rw [List.size_toArray] <;> omega) (by omega) (by rw [hj]; simpa using ew) fin

/-- sum(t) of a tuple of ints -/
def rSumT (K : PySem.W.Frag) : List V → Hp → VK → Prop := fun vs H Q => ∃ (a : Addr) (ns : List Int), vs = [V.ref a] ∧ SqT K H a (ns.map V.int) ∧ Q (.int ns.sum) H
theorem preSum_list (ns : List Int) : ∀ j, preSum (fun i => ns.getD i 0) j = (ns.take j).sum := by
  intro j
  induction j with
  | zero => rfl
  | succ j ih =>
    show preSum (fun i => ns.getD i 0) j + ns.getD j 0 = _
    rw [ih]
    by_cases h : j < ns.length
    · rw [List.take_add_one, List.getElem?_eq_getElem h, List.sum_append, List.getD_eq_getElem?_getD, List.getElem?_eq_getElem h]
      simp
    · rw [List.take_of_length_le (by omega), List.take_of_length_le (by omega), List.getD_eq_getElem?_getD, List.getElem?_eq_none (by omega)]
      simp
theorem cr_sumT (hc : X.calm = true) : CallR X (.builtin "sum") (rSumT X.K) := by
  intro pins s σ H vs us Q I r h
  obtain ⟨a, ns, rfl, hs, q⟩ := h
  obtain ⟨its, rv, ht, _⟩ := I.tuple hs
  rw [Vals.ref1 r]
  have hi := rv.ints
  have hlt : a < s.heap.objs.size := ht.lt
  refine call_sum_walkG (wpAny_pyIter_tuple (show s.heap.IsTuple a its.toArray from ht) ⟨_, _, _, _, _, _, fun i => ns.getD i 0, rfl, Walks.tuple (A := X.A.in1) (I.ok.hd hc) s.heap.objs.size a (Nat.ne_of_lt hlt) its.toArray, ⟨⟨_, Heap.get?_push_size _ rfl, rfl, rfl⟩, ?_⟩, ?_, ?_, ?_⟩)
  · obtain ⟨o, e, c⟩ := ht
    exact ⟨o, Heap.get?_push_of_some _ e, c⟩
  · intro b hb
    show b < (s.heap.push _).objs.size
    rw [Heap.size_push]
    rcases List.mem_cons.mp hb with e | hb
    · rw [e]; exact Nat.lt_succ_self _
    · rcases List.mem_cons.mp hb with e | hb
      · rw [e]; exact Nat.lt_succ_of_lt hlt
      · cases hb
  · intro i v hv
    have hv' : its[i]? = some v := by simpa using hv
    have hil : i < its.length := (List.getElem?_eq_some_iff.mp hv').1
    have hin : i < ns.length := by
      have := rv.length
      rw [List.length_map] at this
      omega
    obtain ⟨u, hu, t, rfl⟩ := rv.get (i := i) (x := .int ns[i]) (by simp [hin])
    rw [hv'] at hu
    cases hu
    refine ⟨t, ?_⟩
    show Value.int ns[i] t = Value.int (ns.getD i 0) t
    rw [List.getD_eq_getElem?_getD, List.getElem?_eq_getElem hin]
    rfl
  · intro h' tk t' hk
    have hlen : its.toArray.size = ns.length := by
      have := rv.length
      rw [List.length_map] at this
      rw [List.size_toArray]; exact this.symm
    refine ⟨.int ns.sum, H, I.kept (t' := tk) fun b o e => hk b o (fun hm => ?_) (Heap.get?_push_of_some _ e), ⟨t', ?_⟩, q⟩
    · rcases List.mem_cons.mp hm with e1 | hm
      · exact absurd (e1 ▸ Heap.lt_size e) (Nat.lt_irrefl _)
      · cases hm
    · rw [hlen, preSum_list, List.take_length]

theorem sorted_tup_ints {prog : Program} {w : World} {A : Around} {E : Value → Shared → Prop} {s : Shared} {t : Addr} {vs : List Value} {ns : List Int} {Q : Value → Shared → Prop} (ht : s.heap.IsTuple t vs.toArray) (hI : IntsAre vs ns) (h64 : vs.length < 64)
    (h : ∀ (h1 h' : Heap) (a : Addr) (out : List Value) (ns' : List Int) (ep : Nat), IntsAre out ns' → ns'.Perm ns → ns'.Pairwise (· ≤ ·) → h1.objs.size ≤ a → h'.get? a = some { cls := .type "list", data := .seq out.toArray ep } →
      (∀ b o, s.heap.get? b = some o → h1.get? b = some o) → (∀ b o, h1.get? b = some o → h'.get? b = some o) → Q (.ref a) { s with heap := h' }) :
    wpAny (model prog w) A (call (.builtin "sorted") [.ref t]) Q E s := by
  obtain ⟨o, ho, hc, n, hd⟩ := ht
  refine Calls.call_function_entry kind_sorted plain_sorted entry_sorted (args_sorted1 _) ?_
  unfold Builtin.«sorted»
  refine wpAny_bind (m := checkCount "sorted" 1 1 _) (wpAny_pure ?_)
  refine wpAny_bind (wpAny_collect_seq t (.inr rfl) ho hc hd (fun h1 hk => ?_) (by rw [List.size_toArray, sizeLine_eq]; omega))
  refine wpAny_bind (wpAny_newList ?_)
  have hoL : (h1.push (seqObj "list" vs.toArray 0)).get? h1.objs.size = some (seqObj "list" vs.toArray 0) := Heap.get?_push_size _ rfl
  refine wpAny_bind (wpAny_holding (wpAny_call_entry slot_list_sort ⟨_, hoL, rfl⟩ entry_list_sort (list_sort_tree hoL hI h64 fun out ns' a1 a2 a3 => ⟨_, rfl, ?_⟩) (args_list_sort _)))
  obtain ⟨ep, he⟩ := sortedHeap_at (vs := vs) (out := out) hoL
  refine wpAny_pure ⟨_, rfl, h h1 _ _ out.toList ns' ep a1 a2 a3 (Nat.le_refl _) he hk fun b ob hb => ?_⟩
  have hlt : b < h1.objs.size := Heap.lt_size hb
  rw [sortedHeap_old (Nat.ne_of_lt hlt) (by rw [Heap.size_push]; exact Nat.lt_succ_of_lt hlt)]
  exact Heap.get?_push_of_some _ hb
/-- sorted(t) of a tuple of ints, fewer than 64 -/
def rSortedT (K : PySem.W.Frag) : List V → Hp → VK → Prop := fun vs H Q => ∃ (a : Addr) (ns : List Int), vs = [V.ref a] ∧ SqT K H a (ns.map V.int) ∧ ns.length < 64 ∧
  ∀ (ns' : List Int) (p : Addr), ns'.Perm ns → ns'.Pairwise (· ≤ ·) → H p = none → Q (.ref p) (upd H p (.lst (ns'.map V.int)))
theorem cr_sortedT : CallR X (.builtin "sorted") (rSortedT X.K) := by
  intro pins s σ H vs us Q I r h
  obtain ⟨a, ns, rfl, hs, h64, q⟩ := h
  obtain ⟨its, rv, ht, _⟩ := I.tuple hs
  rw [Vals.ref1 r]
  have hi := rv.ints
  refine sorted_tup_ints (show s.heap.IsTuple a its.toArray from ht) hi (by rw [hi.length]; exact h64) fun h1 h' p out ns' ep e1 e2 e3 e4 e5 e6 e7 => ?_
  have I1 : Inv X pins σ H { s with heap := h1 } := I.kept (t' := s.toks) e6
  have hlen : (ns'.map V.int).length ≤ sizeLine := by rw [List.length_map, e2.length_eq]; exact small64 h64
  exact ⟨.ref _, upd H p (.lst (ns'.map V.int)), I1.laid (t' := s.toks) e7 e4 ⟨hlen, out, ep, vals_of_ints e1, e5⟩, rfl, q ns' _ e2 e3 (I1.hok.fresh e4)⟩

/-- t.index(k) of a tuple of ints, k there -/
theorem mt_tupIndexI : MtR X "tuple.index" (fun x xs H Q => ∃ p, ∃ ns : List Int, ∃ k : Int, x = .ref p ∧ xs = [.int k] ∧ SqT X.K H p (ns.map V.int) ∧ k ∈ ns ∧ Q (.int ((ns.idxOf k : Nat) : Int)) H) := by
  intro pins s σ H x xs v us Q I rx rs h
  obtain ⟨p, ns, k, rfl, rfl, hq, hk, q⟩ := h
  cases rx
  obtain ⟨u, rfl, t, rfl⟩ := vals1 rs
  obtain ⟨its, r, pl, hz⟩ := I.tuple hq
  exact PySem.SeqAt.tuple_index_ints (show s.heap.IsTuple p its.toArray from pl) r.ints hk ⟨.int _, H, I.tok _, ⟨_, rfl⟩, q⟩

/-- tuple(xs) of a list: the new tuple known by its object (it has no dict) -/
def rTupleF (K : PySem.W.Frag) : List V → Hp → VK → Prop := fun xs H Q => ∃ p ys, xs = [.ref p] ∧ SqL K H p ys ∧ ∀ (l : Addr) (ob : Obj), ob.dict = none → H l = none → Q (.ref l) (upd H l (.frz ob (.tup ys)))
theorem cr_tupleF : CallR X (.type "tuple") (rTupleF X.K) := by
  intro pins s σ H xs us Q I r h
  obtain ⟨p, ys, rfl, hq, q⟩ := h
  obtain ⟨u, rfl, rx⟩ := vals1 r
  cases rx
  obtain ⟨its, r', pl, hz⟩ := I.list hq
  have hlen := r'.length
  refine call_tuple_list pl.isList (fun h' kp => ?_) (by simp only [List.size_toArray] <;> omega)
  have I1 : Inv X pins σ H { s with heap := h' } := I.kept (t' := s.toks) kp
  refine ⟨.ref h'.objs.size, _, I1.laid (t' := s.toks) (o := .frz { cls := .type "tuple", data := .seq its.toArray } (.tup ys)) (fun b o e => Heap.get?_push_of_some _ e) (Nat.le_refl _) ⟨Heap.get?_push_size _ rfl, hz, its, r', IsTup.new _ _⟩, rfl, q _ _ rfl (I1.hok.fresh (Nat.le_refl _))⟩
/-- t.m(e, ..), t such a tuple -/
def tBMT (r : V → List V → Hp → VK → Prop) (to : TE) (t : TA) : TE := fun σ H Q => to σ H fun x H1 => (∃ p ob ys, x = .ref p ∧ H1 p = some (.frz ob (.tup ys)) ∧ ob.dict = none) ∧ t σ H1 fun xs H2 => r x xs H2 Q
theorem pe_bmT {o e : Expr} {es : List Expr} {to : TE} {t : TA} {name : Str} {apos cpos : Pos} {id : String} {r : V → List V → Hp → VK → Prop} (slot : Slot "tuple" name id) (hty : typeOf (.builtin id) = pure (.type "method_descriptor")) (hm : MtR X id r) (ho : PE X o to) (ha : PA X (e :: es) t)
    (hbase : attributeBase o name X.env (eval o X.env) = eval o X.env := by rfl)
    (hfew : ((backTo cpos (starEach (e :: es) X.env)).all (fun x => !x.1) && (backToKw cpos (keywordEach [] X.env)).all (fun x => x.1.isSome) && decide ((e :: es).length + ([] : List Keyword).length + (if ([] : List Keyword).isEmpty then 0 else 1) < 30)) = true := by rfl)
    (hline : (apos.endLine == cpos.line) = true := by rfl) (hs : starEach (e :: es) X.env = (false, eval e X.env) :: starEach es X.env := by rfl) (hplain : (backTo cpos (starEach es X.env)).any (·.1) = false := by rfl) :
    PE X (.Call (.Attribute o name apos) (e :: es) [] cpos) (tBMT r to t) := by
  refine ⟨fun pins s σ H Q I h => ?_⟩
  refine wpAny_Call_method_late hbase hfew hline rfl (thn (ho.run pins s σ H _ I h) fun v s1 ⟨x, H1, I1, r1, ty, q1⟩ => ?_)
  obtain ⟨p, ob, ys, rfl, hp, hdn⟩ := ty
  cases r1
  obtain ⟨hob, hz, its, rv, ob', e', hc, _⟩ := I1.hok p _ hp
  rw [hob] at e'
  cases e'
  refine ⟨"tuple", id, PySem.F.plainAttrs_tuple, slot, hty, ⟨ob, hob, hc⟩, fun a ea => ?_, ?_⟩
  · cases ea
    exact ⟨ob, hob, hdn⟩
  have hA := ha.run cpos pins s1 σ H1 _ I1 q1
  rw [hs] at hA ⊢
  refine Calls.callWith_builtin (by show (false || (backTo cpos (starEach es X.env)).any (·.1)) = false; rw [hplain] <;> rfl) (Calls.evalArgs_plain ?_)
  exact thn hA fun us s2 ⟨vs, H2, I2, r2, q2⟩ => hm pins s2 σ H2 (.ref p) vs _ us Q I2 rfl r2 q2

/-! zip of two sequences, lists or tuples in any mix -/
end
def SqB (k : Bool) (K : PySem.W.Frag) (H : Hp) (a : Addr) (xs : List V) : Prop := match k with | true => SqL K H a xs | false => SqT K H a xs
def ItB (k : Bool) (h : Heap) (it l : Addr) (i : Nat) : Prop := match k with | true => h.IsListIter it l i | false => h.IsTupleIter it l i
def IsB (k : Bool) (h : Heap) (l : Addr) (xs : Array Value) : Prop := match k with | true => h.IsList l xs | false => h.IsTuple l xs
def itObj (k : Bool) (l : Addr) : Obj := { cls := .type (match k with | true => "list_iterator" | false => "tuple_iterator"), data := .fields #[.ref l, .int 0 0] }
theorem sqb_at {X : Cx} {pins : List (Addr × Obj)} {σ : L2.St} {H : Hp} {s : Shared} {k : Bool} {a : Addr} {xs : List V} (I : Inv X pins σ H s) (h : SqB k X.K H a xs) : ∃ its : List Value, Vals xs its ∧ IsB k s.heap a its.toArray ∧ a < s.heap.objs.size := by
  cases k with
  | true =>
    obtain ⟨its, rv, p, _⟩ := I.list h
    exact ⟨its, rv, p.isList, p.lt⟩
  | false =>
    obtain ⟨its, rv, p, _⟩ := I.tuple h
    exact ⟨its, rv, p, p.lt⟩
theorem sqb_inj {X : Cx} {pins : List (Addr × Obj)} {σ : L2.St} {H : Hp} {s : Shared} {k : Bool} {a : Addr} {xs ys : List V} (I : Inv X pins σ H s) (h : SqB k X.K H a xs) (h' : SqB k X.K H a ys) : xs = ys := by
  cases k with
  | true => exact I.list_inj h h'
  | false => exact I.tuple_inj h h'
theorem drawsB {prog : Program} {w : World} {A : Around} (k : Bool) (hh : A.handled = none) (it l : Addr) (hne : l ≠ it) (items : Array Value) :
    Draws prog w A it [it, l] items.size (fun i v => items[i]? = some v) (fun i h => ItB k h it l i ∧ IsB k h l items) := by
  cases k with
  | true => exact Draws.list hh it l hne items
  | false => exact Draws.tuple hh it l hne items
theorem beginsB (k : Bool) (l : Addr) (items : Array Value) : Begins (.ref l) (itObj k l) fun h => IsB k h l items := by
  cases k with
  | true => exact begins_list l items
  | false => exact begins_tuple l items
theorem ItB.at {k : Bool} {h h' : Heap} {it l : Addr} {i : Nat} (x : ItB k h it l i) (e : ∀ o, h.get? it = some o → h'.get? it = some o) : ItB k h' it l i := by
  cases k with
  | true => exact Heap.IsListIter.at x e
  | false => exact Heap.IsTupleIter.at x e
theorem ItB.obj {k : Bool} {h : Heap} {it l : Addr} {i : Nat} (x : ItB k h it l i) : ∃ o, h.get? it = some o ∧ ∀ v, o.data ≠ .cell v := by
  cases k with
  | true =>
    obtain ⟨o, e, _, d⟩ := x
    exact ⟨o, e, fun v q => by rw [d] at q; cases q⟩
  | false =>
    obtain ⟨o, e, _, d⟩ := x
    exact ⟨o, e, fun v q => by rw [d] at q; cases q⟩
/-- one of five, by a property that all five have -/
theorem in5 {P : Addr → Prop} {c a b d e f : Addr} (h : c ∈ [a, b, d, e, f]) (ha : P a) (hb : P b) (hd : P d) (he : P e) (hf : P f) : P c := by
  simp only [List.mem_cons, List.not_mem_nil, or_false] at h
  rcases h with rfl | rfl | rfl | rfl | rfl <;> assumption
theorem out5 {c a b d e f : Addr} (h : c ∉ [a, b, d, e, f]) : c ≠ a ∧ c ≠ b ∧ c ≠ d ∧ c ≠ e ∧ c ≠ f := by
  simp only [List.mem_cons, List.not_mem_nil, or_false, not_or] at h
  exact h
/-- what a zip's turn yields: a new pair of the two items at hand -/
def ItzM (j k : Bool) (K : PySem.W.Frag) (a b : Addr) : It :=
  ⟨fun i H => ∃ (xs ys : List V) (x y : V), SqB j K H a xs ∧ SqB k K H b ys ∧ xs[i]? = some x ∧ ys[i]? = some y,
    fun i H v H' => ∃ T x y, v = .ref T ∧ H T = none ∧ H' = upd H T (.tup [x, y]) ∧ (∀ xs, SqB j K H a xs → xs[i]? = some x) ∧ ∀ ys, SqB k K H b ys → ys[i]? = some y,
    fun i H => ∃ xs ys : List V, SqB j K H a xs ∧ SqB k K H b ys ∧ i ≤ xs.length ∧ i ≤ ys.length ∧ (i = xs.length ∨ i = ys.length)⟩
theorem turn_zipM {P : Program} {w : World} {K : PySem.W.Frag} {j k : Bool} {elts : List Expr} {kk : Nat} {tpos : Pos} {a b z TI TO i1 i2 : Addr} (D : ZipSep2 z TI TO i1 i2 [i1, a] [i2, b]) (n1 : a ≠ i1) (n2 : b ≠ i2) :
    Turn P w K (.Tuple elts kk tpos) (ItzM j k K a b) [z, TI, TO, i1, i2] z (fun i h => IsZip h z TI TO .none ∧ IsTupOf2 h TI (.ref i1) (.ref i2) ∧ (∃ x y, IsTupOf2 h TO x y) ∧ ItB j h i1 a i ∧ ItB k h i2 b i) where
  mem := by simp
  obj := fun i h st c hc => by
    obtain ⟨hz, hTI, ⟨x, y, hTO⟩, h1, h2⟩ := st
    exact in5 (P := fun c => ∃ o, h.get? c = some o ∧ ∀ v, o.data ≠ .cell v) hc ⟨_, hz, fun v q => nomatch q⟩ ⟨_, hTI, fun v q => nomatch q⟩ ⟨_, hTO, fun v q => nomatch q⟩ h1.obj h2.obj
  keep := fun i h h' st k => by
    obtain ⟨hz, hTI, ⟨x, y, hTO⟩, h1, h2⟩ := st
    exact ⟨k z (by simp) _ hz, k TI (by simp) _ hTI, ⟨x, y, k TO (by simp) _ hTO⟩, h1.at fun o q => k i1 (by simp) o q, h2.at fun o q => k i2 (by simp) o q⟩
  item := by
    intro X hP hw hK hc i pins s σ H E I hf st hg
    subst hP hw hK
    obtain ⟨hz, hTI, ⟨x0, y0, hTO⟩, h1, h2⟩ := st
    obtain ⟨xs, ys, x, y, hqx, hqy, hx, hy⟩ := hg
    obtain ⟨its, rv, p, _⟩ := sqb_at I hqx
    obtain ⟨its2, rv2, p2, _⟩ := sqb_at I hqy
    obtain ⟨u, hu, ru⟩ := rv.get hx
    obtain ⟨u2, hu2, ru2⟩ := rv2.get hy
    have hzl : z < s.heap.objs.size := Heap.lt_size hz
    have l1 : i < its.toArray.size := by rw [List.size_toArray]; exact (List.getElem?_eq_some_iff.mp hu).1
    have l2 : i < its2.toArray.size := by rw [List.size_toArray]; exact (List.getElem?_eq_some_iff.mp hu2).1
    refine wpAny_pyNext_zipD2_item D (drawsB (A := X.A.in1) j (I.ok.hd hc) i1 a n1 its.toArray) (drawsB (A := X.A.in1) k (I.ok.hd hc) i2 b n2 its2.toArray) hz hTI hTO ⟨h1, p⟩ ⟨h2, p2⟩ l1 l2 fun w1 w2 h' tk e1 e2 z' TO' st1 st2 hT hsz hk => ?_
    have ew1 : w1 = u := by
      have : its[i]? = some w1 := by simpa using e1
      rw [hu] at this; exact (Option.some.inj this).symm
    have ew2 : w2 = u2 := by
      have : its2[i]? = some w2 := by simpa using e2
      rw [hu2] at this; exact (Option.some.inj this).symm
    subst ew1 ew2
    refine ⟨_, rfl, wpAny_letOwnedTupleGo_zip (s := { s with heap := h', toks := tk }) z' fun h'' z'' sb => ?_⟩
    have hT2 : h''.get? s.heap.objs.size = some { cls := .type "tuple", data := .seq #[w1, w2] } := (sb.2 _ (Nat.ne_of_gt hzl)).trans hT
    have new : ObjOk X.prog X.w (upd H s.heap.objs.size (.tup [x, y])) h'' s.heap.objs.size (.tup [x, y]) :=
      ⟨by show 2 ≤ sizeLine; decide, [w1, w2], .cons ru (.cons ru2 .nil), ⟨_, hT2, rfl, _, rfl⟩⟩
    have I1 : Inv X pins σ (upd H s.heap.objs.size (.tup [x, y])) { s with heap := h'', toks := tk } :=
      I.turnedNew (t' := tk) (ch := [z, TI, TO, i1, i2]) (fun c o hb q => have ⟨c1, _, c3, c4, c5⟩ := out5 hb; (sb.2 c c1).trans (hk c o c1 c3 c4 c5 q)) hf (Nat.le_refl _) new
    refine ⟨.ref s.heap.objs.size, _, I1, rfl, ⟨_, x, y, rfl, I.hok.fresh (Nat.le_refl _), rfl, fun l hl => by rw [sqb_inj I hl hqx]; exact hx, fun l hl => by rw [sqb_inj I hl hqy]; exact hy⟩, ⟨z'', ?_, ⟨w1, w2, ?_⟩, ?_, ?_⟩, fun c hcm => ?_⟩
    · exact (sb.2 _ D.TIz).trans (hk _ _ D.TIz D.TITO D.TIi1 D.TIi2 hTI)
    · exact (sb.2 _ D.TOz).trans TO'
    · exact st1.1.at fun o q => (sb.2 _ D.zi1.symm).trans q
    · exact st2.1.at fun o q => (sb.2 _ D.zi2.symm).trans q
    · have hlt : c < s.heap.objs.size := by
        obtain ⟨_, g1, _⟩ := h1.obj
        obtain ⟨_, g2, _⟩ := h2.obj
        exact in5 (P := fun c => c < s.heap.objs.size) hcm hzl (Heap.lt_size hTI) (Heap.lt_size hTO) (Heap.lt_size g1) (Heap.lt_size g2)
      rw [upd_ne (Nat.ne_of_lt hlt)]
      exact (hf c hcm).1
  done := by
    intro X hP hw hK hc i pins s σ H E I hf st hg
    subst hP hw hK
    obtain ⟨hz, hTI, ⟨x0, y0, hTO⟩, h1, h2⟩ := st
    obtain ⟨xs, ys, hqx, hqy, le1, le2, hend⟩ := hg
    obtain ⟨its, rv, p, _⟩ := sqb_at I hqx
    obtain ⟨its2, rv2, p2, _⟩ := sqb_at I hqy
    have l1 : its.toArray.size = xs.length := by rw [List.size_toArray]; exact rv.length.symm
    have l2 : its2.toArray.size = ys.length := by rw [List.size_toArray]; exact rv2.length.symm
    exact wpAny_pyNext_zipD2_end D (drawsB (A := X.A.in1) j (I.ok.hd hc) i1 a n1 its.toArray) (drawsB (A := X.A.in1) k (I.ok.hd hc) i2 b n2 its2.toArray) hz hTI hTO ⟨h1, p⟩ ⟨h2, p2⟩ (by omega) (by omega) (by omega) fun h' tk hk => ⟨rfl, I.turnedL (t' := tk) (ch := [z, TI, TO, i1, i2]) (fun c o hb q => have ⟨c1, _, c3, c4, c5⟩ := out5 hb; hk c o c1 c3 c4 c5 q) hf⟩
  self := fun A i s Q E st h => wpAny_pyIter_zip st.1 h

def iZipM (K : PySem.W.Frag) (ta : TA) : TI := fun σ H R => ta σ H fun vs H1 => ∃ j k a b xs ys, vs = [.ref a, .ref b] ∧ SqB j K H1 a xs ∧ SqB k K H1 b ys ∧ R (ItzM j k K a b) H1
theorem pi_zipM {X : Cx} {e e2 : Expr} {ta : TA} {p pos tpos : Pos} {elts : List Expr} {kk : Nat} (hg : Gl X "zip") (hm : X.mg "zip" = none) (ha : PA X [e, e2] ta)
    (hs : starEach [e, e2] X.env = (false, eval e X.env) :: starEach [e2] X.env := by rfl) (hpl : (backTo pos (starEach [e2] X.env)).any (·.1) = false := by rfl) :
    PI X (.Tuple elts kk tpos) (.Call (.Name "zip" p) [e, e2] [] pos) (iZipM X.K ta) := by
  refine ⟨fun pins s σ H R I h => ?_⟩
  refine Call_ (ld_blt I hg hm PyProof.Rows.boot_zip (PyProof.Rows.callWith_type1 (thn (ha.run pos pins s σ H _ I h) fun us s1 ⟨vs, H1, I1, r1, q1⟩ => ?_) hs hpl))
  obtain ⟨j, k, a, b, xs, ys, ex, hqx, hqy, q⟩ := q1
  subst ex
  cases r1 with
  | cons r rr =>
    cases rr with
    | cons r' rr =>
      cases rr
      cases r
      cases r'
      have fresh5 : ∀ c, c ∈ [s1.heap.objs.size + 4, s1.heap.objs.size + 2, s1.heap.objs.size + 3, s1.heap.objs.size, s1.heap.objs.size + 1] → FpOk X pins H1 c := fun c hcm => by
        have hle : s1.heap.objs.size ≤ c := in5 (P := fun c => s1.heap.objs.size ≤ c) hcm (Nat.le_add_right _ _) (Nat.le_add_right _ _) (Nat.le_add_right _ _) (Nat.le_refl _) (Nat.le_add_right _ _)
        exact I1.fpOk hle (I1.hok.fresh hle)
      obtain ⟨its, rv, p1, lt1⟩ := sqb_at I1 hqx
      obtain ⟨its2, rv2, p2, lt2⟩ := sqb_at I1 hqy
      refine zip_begins2 (beginsB j a its.toArray) (beginsB k b its2.toArray) p1 p2 fun h' hz hTI hTO g1 g2 hsz hk => wpAny_pyIter_zip hz ?_
      have I2 : Inv X pins σ H1 { s1 with heap := h' } := I1.kept (t' := s1.toks) hk
      refine ⟨s1.heap.objs.size + 4, [s1.heap.objs.size + 4, s1.heap.objs.size + 2, s1.heap.objs.size + 3, s1.heap.objs.size, s1.heap.objs.size + 1], _, _, H1, rfl, I2, turn_zipM (j := j) (k := k) (zip_sep2 (fp1 := [a]) (fp2 := [b]) (fun c hc => ?_) (fun c hc => ?_)) (Nat.ne_of_lt lt1) (Nat.ne_of_lt (Nat.lt_succ_of_lt lt2)), ⟨hz, hTI, ⟨_, _, hTO⟩, ?_, ?_⟩, fresh5, q⟩
      · rw [List.mem_singleton.mp hc]; exact lt1
      · rw [List.mem_singleton.mp hc]; exact lt2
      · cases j with
        | true => exact ⟨_, g1, rfl, rfl⟩
        | false => exact ⟨_, g1, rfl, rfl⟩
      · cases k with
        | true => exact ⟨_, g2, rfl, rfl⟩
        | false => exact ⟨_, g2, rfl, rfl⟩
end G

namespace G
open PySem PySem.Spec PyProof.Rows L2

/-! ### heaps: F the frozen part, H all -/
def del (H : Hp) (a : Addr) : Hp := fun b => if b = a then none else H b
theorem del_same {H : Hp} {a : Addr} : del H a a = none := by unfold del; rw [if_pos rfl]
theorem del_ne {H : Hp} {a b : Addr} (h : b ≠ a) : del H a b = H b := by unfold del; rw [if_neg h]
theorem del_upd {H : Hp} {a : Addr} {o : HO} : del (upd H a o) a = del H a := by
  funext b; unfold del upd; by_cases h : b = a <;> simp [h]
theorem del_upd_ne {H : Hp} {a p : Addr} {o : HO} (h : p ≠ a) : del (upd H p o) a = upd (del H a) p o := by
  funext b
  unfold del upd
  by_cases h1 : b = a
  · subst h1
    simp [Ne.symm h]
  · simp [h1]
theorem del_sub {H : Hp} {a : Addr} : Same (del H a) H := fun b o e => by
  by_cases h : b = a
  · rw [h, del_same] at e; cases e
  · rw [del_ne h] at e; exact e
theorem same_upd {H : Hp} {p : Addr} {o : HO} (h : H p = none) : Same H (upd H p o) := fun b x e => by
  rw [upd_ne (ne_of_none e h)]
  exact e
theorem same_updR {F H : Hp} {p : Addr} {o : HO} (e : Same F H) (h : F p = none) : Same F (upd H p o) := fun b x q => by
  rw [upd_ne (ne_of_none q h)]
  exact e b x q
theorem same_upd2 {F H : Hp} {p : Addr} {o : HO} (e : Same F H) : Same (upd F p o) (upd H p o) := fun b x q => by
  by_cases h : b = p
  · rw [h, upd_same] at q ⊢; exact q
  · rw [upd_ne h] at q ⊢; exact e b x q
theorem sub_none {F H : Hp} {p : Addr} (e : Same F H) (h : H p = none) : F p = none := e.free h

structure Ext (F H F' H' : Hp) : Prop where
  hh : Same H H'
  ff : Same F F'
  fh : Same F' H'
  fr : ∀ b, H b ≠ none → F b = none → F' b = none
theorem Ext.refl {F H : Hp} (e : Same F H) : Ext F H F H := ⟨Same.refl H, Same.refl F, e, fun _ _ h => h⟩
theorem Ext.trans {F H F1 H1 F2 H2 : Hp} (a : Ext F H F1 H1) (b : Ext F1 H1 F2 H2) : Ext F H F2 H2 :=
  ⟨a.hh.trans b.hh, a.ff.trans b.ff, b.fh, fun c h1 h2 => b.fr c (fun z => by
    cases q : H c with
    | none => exact h1 q
    | some o => rw [a.hh c o q] at z; cases z) (a.fr c h1 h2)⟩
/-- a new frozen object -/
theorem Ext.new {F H F1 H1 : Hp} {p : Addr} {o : HO} (a : Ext F H F1 H1) (h : H1 p = none) : Ext F H (upd F1 p o) (upd H1 p o) :=
  ⟨a.hh.trans (same_upd h), a.ff.trans (same_upd (sub_none a.fh h)), same_upd2 a.fh, fun b h1 h2 => by
    rw [upd_ne]
    · exact a.fr b h1 h2
    · intro z
      subst z
      exact h1 (a.hh.free h)⟩
/-- a new object that will change -/
theorem Ext.mut {F H F1 H1 : Hp} {p : Addr} {o : HO} (a : Ext F H F1 H1) (h : H1 p = none) : Ext F H F1 (upd H1 p o) :=
  ⟨a.hh.trans (same_upd h), a.ff, same_updR a.fh (sub_none a.fh h), a.fr⟩
/-- it changes -/
theorem Ext.chg {F H F1 H1 : Hp} {p : Addr} {o : HO} (a : Ext F H F1 H1) (h : H p = none) (hf : F1 p = none) : Ext F H F1 (upd H1 p o) :=
  ⟨same_updR a.hh h, a.ff, same_updR a.fh hf, a.fr⟩
/-- it is frozen -/
theorem Ext.frz {F H F1 H1 : Hp} {p : Addr} {o : HO} (a : Ext F H F1 H1) (h : H p = none) (hf : F1 p = none) (ho : H1 p = some o) : Ext F H (upd F1 p o) H1 :=
  ⟨a.hh, a.ff.trans (same_upd hf), fun b x q => by
    by_cases z : b = p
    · rw [z, upd_same] at q; rw [z]; cases q; exact ho
    · rw [upd_ne z] at q; exact a.fh b x q, fun b h1 h2 => by
    rw [upd_ne]
    · exact a.fr b h1 h2
    · intro z
      subst z
      exact h1 h⟩
/-! ### what stays when the frozen part grows -/
theorem sqT_mono {K : PySem.W.Frag} {H H' : Hp} {a : Addr} {xs : List V} (e : Same H H') (h : SqT K H a xs) : SqT K H' a xs := by
  rcases h with (h | ⟨o, h⟩) | h
  · exact .inl (.inl (e _ _ h))
  · exact .inl (.inr ⟨o, e _ _ h⟩)
  · exact .inr h
theorem sqL_mono {K : PySem.W.Frag} {H H' : Hp} {a : Addr} {xs : List V} (e : Same H H') (h : SqL K H a xs) : SqL K H' a xs := e.seq h
mutual
theorem dp_mono {K : PySem.W.Frag} {H H' : Hp} (e : Same H H') : ∀ {v : V} {d : PyData}, Dp K H v d → Dp K H' v d
  | _, _, .non => .non
  | _, _, .bl b => .bl b
  | _, _, .int i => .int i
  | _, _, .str x => .str x
  | _, _, .lst h hs => .lst (sqL_mono e h) (dpAll_mono e hs)
  | _, _, .tup h hs => .tup (sqT_mono e h) (dpAll_mono e hs)
theorem dpAll_mono {K : PySem.W.Frag} {H H' : Hp} (e : Same H H') : ∀ {vs : List V} {ds : List PyData}, DpAll K H vs ds → DpAll K H' vs ds
  | _, _, .nil => .nil
  | _, _, .cons h hs => .cons (dp_mono e h) (dpAll_mono e hs)
end

/-! ### defs of the module -/
section
variable {P : Program} {w : World} {K : PySem.W.Frag} {mg : Str → Option Value} {base : Heap}
/-- the def of a name stands in the module -/
structure FunAt (K : PySem.W.Frag) (mg : Str → Option Value) (x : Str) (st : Stmt) (ps : List Str) : Prop where
  ex : ∃ f fd, Fun K x x st f fd ∧ mg x = some (.ref f) ∧ Binds K fd ps []
/-- .. and keeps a promise -/
structure Def (P : Program) (w : World) (K : PySem.W.Frag) (mg : Str → Option Value) (base : Heap) (k : Nat) (x : Str) (ps : List Str) (sp : Sp) : Prop where
  ex : ∃ f fd, FnOk P w K mg base CX0 k f fd ps sp ∧ Binds K fd ps [] ∧ mg x = some (.ref f) ∧ PySem.W.keepIn K (.ref f) = true
theorem FunAt.def {x : Str} {st : Stmt} {N ps : List Str} {k : Nat} {sp : Sp} (F : FunAt K mg x st ps) (S : FnScope N ps (defScope st)) (len : ∀ vs H Q E, sp vs H Q E → vs.length = ps.length)
    (hbody : ∀ (f : Addr) (cdv : Value) (A : Around) (outer : List Env) (s : Shared) (H : Hp) (vs : List V) (Q : VK) (E : XK), Room k (A.deeper (envOfC x (defScope st) s.heap.objs.size f cdv)) → sp vs H Q E →
      ∃ t, PSs (cxOf CX0 P w K mg base N x (defScope st) f cdv A outer s H E).nox (defBody st) t ∧ t { nx := fun _ H' => Q .non H', rt := Q } (start N vs) H) : Def P w K mg base (k + 1) x ps sp := by
  obtain ⟨f, fd, F, m, b⟩ := F.ex
  exact ⟨f, fd, F.ok S len (hbody f), b, m, F.kp⟩
theorem Def.mono {j k : Nat} {x : Str} {ps : List Str} {sp : Sp} (D : Def P w K mg base j x ps sp) (h : j ≤ k) : Def P w K mg base k x ps sp := by
  obtain ⟨f, fd, F, b⟩ := D.ex
  exact ⟨f, fd, F.mono h, b⟩
end
section
variable {X : Cx} {k : Nat} {x : Str} {ps : List Str} {sp : Sp} {e : Expr} {es : List Expr} {t : TA} {p pos : Pos}
theorem pe_d (D : Def X.prog X.w X.K X.mg X.base k x ps sp) (hr : Room k X.A) (hg : Gl X x) (ha : PA X (e :: es) t) (hdb : (x == ("__debug__" : Str)) = false := by decide)
    (he : starEach (e :: es) X.env = (false, eval e X.env) :: starEach es X.env := by rfl) (hpl : (backTo pos (starEach es X.env)).any (·.1) = false := by rfl) :
    PE X (.Call (.Name x p) (e :: es) [] pos) (tCall sp [] E0 t) := by
  obtain ⟨f, fd, F, b, m, kp⟩ := D.ex
  exact pe_call F hr hg m kp b .nil pass0 ha hdb he hpl
end
/-- methods -/
structure MethAt (K : PySem.W.Frag) (C : Addr) (m qual : Str) (st : Stmt) (ps : List Str) : Prop where
  ex : ∃ f fd, Fun K m qual st f fd ∧ Meth K C m f ∧ Binds K fd ps []
structure DefM (P : Program) (w : World) (K : PySem.W.Frag) (mg : Str → Option Value) (base : Heap) (k : Nat) (C : Addr) (m : Str) (ps : List Str) (sp : Sp) : Prop where
  ex : ∃ f fd, FnOk P w K mg base CX0 k f fd ps sp ∧ Binds K fd ps [] ∧ Meth K C m f
theorem MethAt.def {P : Program} {w : World} {K : PySem.W.Frag} {mg : Str → Option Value} {base : Heap} {C : Addr} {m qual : Str} {st : Stmt} {N ps : List Str} {k : Nat} {sp : Sp} (F : MethAt K C m qual st ps) (S : FnScope N ps (defScope st)) (len : ∀ vs H Q E, sp vs H Q E → vs.length = ps.length)
    (hbody : ∀ (f : Addr) (cdv : Value) (A : Around) (outer : List Env) (s : Shared) (H : Hp) (vs : List V) (Q : VK) (E : XK), Room k (A.deeper (envOfC qual (defScope st) s.heap.objs.size f cdv)) → sp vs H Q E →
      ∃ t, PSs (cxOf CX0 P w K mg base N qual (defScope st) f cdv A outer s H E).nox (defBody st) t ∧ t { nx := fun _ H' => Q .non H', rt := Q } (start N vs) H) : DefM P w K mg base (k + 1) C m ps sp := by
  obtain ⟨f, fd, F, m, b⟩ := F.ex
  exact ⟨f, fd, F.ok S len (hbody f), b, m⟩
section
variable {X : Cx} {k : Nat} {C : Addr} {m : Str} {ps : List Str} {sp : Sp} {o e : Expr} {es : List Expr} {ta : TE} {t : TA} {apos pos : Pos} {pl : Sem Bool}
theorem pe_dm (D : DefM X.prog X.w X.K X.mg X.base k C m ps sp) (hr : Room k X.A) (hc : Cls X.K C) (ho : PE X o ta) (ha : PA X (e :: es) t) (he : starEach (e :: es) X.env = (false, eval e X.env) :: starEach es X.env := by rfl)
    (hpl : (backTo pos (starEach es X.env)).any (·.1) = false := by rfl)
    (hm : eval ((o.Attribute m apos).Call (e :: es) [] pos) X.env = (do
      let ov ← eval o X.env
      standAt apos.atName
      let x ← holding [ov] (getMethod ov m pl)
      match x with
        | (f, first) => callWith pos f first (backTo pos (starEach (e :: es) X.env)) (backToKw pos (keywordEach [] X.env))) := by rfl) :
    PE X ((o.Attribute m apos).Call (e :: es) [] pos) (tMeth C m sp [] E0 ta t) := by
  obtain ⟨f, fd, F, b, mt⟩ := D.ex
  exact pe_meth ho hc mt F hr b .nil pass0 ha he hpl hm
end

section
variable {X : Cx} {k : Nat} {C : Addr} {m : Str} {ps : List Str} {sp : Sp} {o : Expr} {ta : TE} {apos pos : Pos} {pl : Sem Bool}
theorem pe_dm0 (D : DefM X.prog X.w X.K X.mg X.base k C m ps sp) (hr : Room k X.A) (hc : Cls X.K C) (ho : PE X o ta)
    (hm : eval ((o.Attribute m apos).Call [] [] pos) X.env = (do
      let ov ← eval o X.env
      standAt apos.atName
      let x ← holding [ov] (getMethod ov m pl)
      match x with
        | (f, first) => callWith pos f first (backTo pos (starEach [] X.env)) (backToKw pos (keywordEach [] X.env))) := by rfl) :
    PE X ((o.Attribute m apos).Call [] [] pos) (tMeth C m sp [] E0 ta tNil) := by
  obtain ⟨f, fd, F, b, mt⟩ := D.ex
  exact pe_meth0 ho hc mt F hr b .nil pass0 hm
end
/-- a class that is made by its __init__ -/
structure DefC (P : Program) (w : World) (K : PySem.W.Frag) (mg : Str → Option Value) (base : Heap) (k : Nat) (C : Addr) (x : Str) (ps : List Str) (sp : Sp) : Prop where
  ex : ∃ f fd, FnOk P w K mg base CX0 k f fd ps sp ∧ Binds K fd ps [] ∧ Mk K C f ∧ mg x = some (.ref C)
section
variable {X : Cx} {k : Nat} {C : Addr} {x : Str} {ps : List Str} {sp : Sp} {e : Expr} {es : List Expr} {t : TA} {p pos : Pos}
theorem pe_mk (D : DefC X.prog X.w X.K X.mg X.base k C x ps sp) (hr : Room (k + 1) X.A) (hg : Gl X x) (ha : PA X (e :: es) t) (hdb : (x == ("__debug__" : Str)) = false := by decide)
    (he : starEach (e :: es) X.env = (false, eval e X.env) :: starEach es X.env := by rfl) (hpl : (backTo pos (starEach es X.env)).any (·.1) = false := by rfl) :
    PE X (.Call (.Name x p) (e :: es) [] pos) (tMake C sp [] E0 t) := by
  obtain ⟨f, fd, F, b, M, m⟩ := D.ex
  exact pe_make M F hr hg m b .nil pass0 ha hdb he hpl
end

/-! ### unions of rules -/
section
variable {X : Cx}
abbrev rAddU (K : PySem.W.Frag) : R2 := fun x y H Q => rI0 (fun i j => .int (i + j)) x y H Q ∨ (rCat x y H Q ∨ rCatT K x y H Q)
theorem opAddU : OpR X (binaryOp .Add) (rAddU X.K) := op_or op_add (op_or op_cat op_catT)
abbrev rMulU : R2 := fun x y H Q => rI CMul (fun i j => .int (i * j)) x y H Q ∨ rRep x y H Q
theorem opMulU : OpR X (binaryOp .Mult) rMulU := op_or op_mul op_rep
theorem slU : SlR X (fun x lo hi H Q => rSlL X.K x lo hi H Q ∨ rSlT X.K x lo hi H Q) := SlR.or sl_list sl_tup
/-- for x in s, s a list or a tuple -/
def iSeq (K : PySem.W.Frag) (tl : TE) : TI := fun σ H R => tl σ H fun x H1 => (∃ a, x = .ref a ∧ (∃ xs, SqL K H1 a xs) ∧ R (Itl K a) H1) ∨ (∃ a, x = .ref a ∧ (∃ xs, SqT K H1 a xs) ∧ R (Itt K a) H1)
theorem pi_seq {tg l : Expr} {tl : TE} (hl : PE X l tl) : PI X tg l (iSeq X.K tl) := by
  refine ⟨fun pins s σ H R I h => ?_⟩
  refine thn (hl.run pins s σ H _ I h) fun v s1 ⟨x, H1, I1, r1, q1⟩ => ?_
  have fp : ∀ b ∈ [s1.heap.objs.size], FpOk X pins H1 b := fun b hb => by
    rw [List.mem_singleton.mp hb]
    exact I1.fpOk (Nat.le_refl _) (I1.hok.fresh (Nat.le_refl _))
  rcases q1 with ⟨a, e, ⟨xs, hq⟩, q⟩ | ⟨a, e, ⟨xs, hq⟩, q⟩
  · subst e
    cases r1
    obtain ⟨its, rv, p, hz⟩ := I1.list hq
    exact wpAny_pyIter_list p.isList ⟨_, [s1.heap.objs.size], _, _, H1, rfl, I1.kept (t' := s1.toks) fun b o e => Heap.get?_push_of_some _ e, turn_list a _, ⟨_, Heap.get?_push_size _ rfl, rfl, rfl⟩, fp, q⟩
  · subst e
    cases r1
    obtain ⟨its, rv, p, hz⟩ := I1.tuple hq
    exact wpAny_pyIter_tuple (show s1.heap.IsTuple a its.toArray from p) ⟨_, [s1.heap.objs.size], _, _, H1, rfl, I1.kept (t' := s1.toks) fun b o e => Heap.get?_push_of_some _ e, turn_tuple a _, ⟨_, Heap.get?_push_size _ rfl, rfl, rfl⟩, fp, q⟩
end


/-! ### the same rules, the written part by its own letter -/
section
variable {X : Cx} {K : PySem.W.Frag}
theorem k_fld {e : Expr} {f : Str} {pos : Pos} {ta : TE} (h : X.K = K) (he : PE X e ta) (hb : attributeBase e f X.env (eval e X.env) = eval e X.env) : PE X (e.Attribute f pos) (tFld K ta f) := by subst h; exact pe_fld he hb
theorem k_ix (h : X.K = K) : IxR X (rIx K) := by subst h; exact ix_seq
abbrev rEqU (K : PySem.W.Frag) : R2 := fun x y H Q => rEq x y H Q ∨ rEqD K x y H Q
abbrev rNeU (K : PySem.W.Frag) : R2 := fun x y H Q => rNe x y H Q ∨ rNeD K x y H Q
theorem k_eq (h : X.K = K) (hu : X.A.units + 64 < cLine) : OpR X (compareOp .Eq) (rEqU K) := by subst h; exact op_or op_eq (op_eqD hu)
theorem k_ne (h : X.K = K) (hu : X.A.units + 64 < cLine) : OpR X (compareOp .NotEq) (rNeU K) := by subst h; exact op_or op_ne (op_neD hu)
theorem k_add (h : X.K = K) : OpR X (binaryOp .Add) (rAddU K) := by subst h; exact opAddU
abbrev rSlU (K : PySem.W.Frag) : V → Option Int → Option Int → Hp → VK → Prop := fun x lo hi H Q => rSlL K x lo hi H Q ∨ rSlT K x lo hi H Q
theorem k_sl (h : X.K = K) : SlR X (rSlU K) := by subst h; exact slU
abbrev rLen (K : PySem.W.Frag) : List V → Hp → VK → Prop := fun xs H Q => ∃ p ys, xs = [V.ref p] ∧ (SqL K H p ys ∨ SqT K H p ys) ∧ Q (V.int ys.length) H
theorem k_len (h : X.K = K) : CallR X (.builtin "len") (rLen K) := by subst h; exact call_len_seq
abbrev rSumU (K : PySem.W.Frag) : List V → Hp → VK → Prop := fun vs H Q => rSum K vs H Q ∨ rSumT K vs H Q
theorem k_sum (h : X.K = K) (hc : X.calm = true) : CallR X (.builtin "sum") (rSumU K) := by subst h; exact cr_or (cr_sum hc) (cr_sumT hc)
abbrev rSortedU (K : PySem.W.Frag) : List V → Hp → VK → Prop := fun vs H Q => rSorted K vs H Q ∨ rSortedT K vs H Q
theorem k_sorted (h : X.K = K) : CallR X (.builtin "sorted") (rSortedU K) := by subst h; exact cr_or cr_sorted cr_sortedT
theorem k_all (h : X.K = K) (hc : X.calm = true) : CallR X (.builtin "all") (rAll K) := by subst h; exact cr_all hc
theorem k_any (h : X.K = K) (hc : X.calm = true) : CallR X (.builtin "any") (rAny K) := by subst h; exact cr_any hc
theorem k_isi (h : X.K = K) : CallR X (.builtin "isinstance") (rIsi K) := by subst h; exact call_isi
abbrev rListOf (K : PySem.W.Frag) : List V → Hp → VK → Prop := fun xs H Q => ∃ p ys, xs = [V.ref p] ∧ (SqL K H p ys ∨ SqT K H p ys) ∧ ∀ l, H l = none → Q (V.ref l) (upd H l (.lst ys))
theorem k_list (h : X.K = K) : CallR X (.type "list") (rListOf K) := by subst h; exact call_list_of
abbrev rTupleOf (K : PySem.W.Frag) : List V → Hp → VK → Prop := fun xs H Q => ∃ p ys, xs = [V.ref p] ∧ ((SqL K H p ys ∧ ∀ l, H l = none → Q (V.ref l) (upd H l (.tup ys))) ∨ SqT K H p ys ∧ Q (V.ref p) H)
theorem k_tuple (h : X.K = K) : CallR X (.type "tuple") (rTupleOf K) := by subst h; exact call_tuple_of
theorem k_tupleF (h : X.K = K) : CallR X (.type "tuple") (rTupleF K) := by subst h; exact cr_tupleF
theorem k_seq {tg l : Expr} {tl : TE} (h : X.K = K) (hl : PE X l tl) : PI X tg l (iSeq K tl) := by subst h; exact pi_seq hl
theorem k_zip {e e2 : Expr} {ta : TA} {p pos tpos : Pos} {elts : List Expr} {kk : Nat} (h : X.K = K) (hg : Gl X "zip") (hm : X.mg "zip" = none) (ha : PA X [e, e2] ta)
    (hs : starEach [e, e2] X.env = (false, eval e X.env) :: starEach [e2] X.env := by rfl) (hpl : (backTo pos (starEach [e2] X.env)).any (·.1) = false := by rfl) :
    PI X (.Tuple elts kk tpos) (.Call (.Name "zip" p) [e, e2] [] pos) (iZipM K ta) := by subst h; exact pi_zipM hg hm ha hs hpl
theorem k_enum {e : Expr} {ta : TA} {p pos tpos : Pos} {elts : List Expr} {kk : Nat} (h : X.K = K) (hg : Gl X "enumerate") (hm : X.mg "enumerate" = none) (ha : PA X [e] ta) (hs : starEach [e] X.env = [(false, eval e X.env)] := by rfl) :
    PI X (.Tuple elts kk tpos) (.Call (.Name "enumerate" p) [e] [] pos) (iEnum K ta) := by subst h; exact pi_enum hg hm ha hs
theorem k_tup {es : List Expr} {k : Nat} {t : TGs} {n : Nat} {pos : Pos} (h : X.K = K) (hc : X.calm = true) (hg : PGs X es t) (hn : (assignEach es X.env).length = n := by rfl) (hst : (assignEach es X.env).findIdx? (·.1) = none := by rfl) :
    PG X (.Tuple es k pos) (gTup K n t) := by subst h; exact pg_tup hc hg hn hst
theorem k_bm {o e : Expr} {es : List Expr} {to : TE} {t : TA} {name : Str} {apos cpos : Pos} {T id : String} {r : V → List V → Hp → VK → Prop} (h : X.K = K) (hp : PlainAttrs T) (hs : Slot T name id) (ht : typeOf (Value.builtin id) = pure (Value.type "method_descriptor")) (hm : MtR X id r) (ho : PE X o to) (ha : PA X (e :: es) t)
    (h1 : attributeBase o name X.env (eval o X.env) = eval o X.env := by rfl)
    (h2 : ((((backTo cpos (starEach (e :: es) X.env)).all fun x => !x.fst) && (backToKw cpos (keywordEach [] X.env)).all fun x => x.fst.isSome) && decide (((e :: es).length + ([] : List Keyword).length + if ([] : List Keyword).isEmpty = true then 0 else 1) < 30)) = true := by rfl)
    (h3 : (apos.endLine == cpos.line) = true := by rfl) (h4 : starEach (e :: es) X.env = (false, eval e X.env) :: starEach es X.env := by rfl) (h5 : ((backTo cpos (starEach es X.env)).any fun x => x.fst) = false := by rfl) :
    PE X ((o.Attribute name apos).Call (e :: es) [] cpos) (tBM K T r to t) := by subst h; exact pe_bm hp hs ht hm ho ha h1 h2 h3 h4 h5
theorem k_bm0 {o : Expr} {to : TE} {name : Str} {apos cpos : Pos} {T id : String} {r : V → List V → Hp → VK → Prop} (h : X.K = K) (hp : PlainAttrs T) (hs : Slot T name id) (ht : typeOf (Value.builtin id) = pure (Value.type "method_descriptor")) (hm : MtR X id r) (ho : PE X o to)
    (h1 : attributeBase o name X.env (eval o X.env) = eval o X.env := by rfl) (h3 : (apos.endLine == cpos.line) = true := by rfl) :
    PE X ((o.Attribute name apos).Call [] [] cpos) (tBM0 K T r to) := by subst h; exact pe_bm0 hp hs ht hm ho h1 h3
abbrev rTupIx (K : PySem.W.Frag) : V → List V → Hp → VK → Prop := fun x xs H Q => ∃ p, ∃ ns : List Int, ∃ k : Int, x = .ref p ∧ xs = [.int k] ∧ SqT K H p (ns.map V.int) ∧ k ∈ ns ∧ Q (.int ((ns.idxOf k : Nat) : Int)) H
theorem k_tupIx (h : X.K = K) : MtR X "tuple.index" (rTupIx K) := by subst h; exact mt_tupIndexI
theorem k_getL (h : X.K = K) : PGet X (rIxL K) := by subst h; exact get_list
theorem k_sfld {o value : Expr} {f : Str} {pos pos' : Pos} {ta tv : TE} (h : X.K = K) (ho : PE X o ta) (hv : PE X value tv) (hs : swapsWith value (some (o.Attribute f pos')) pos.line X.env = pure false) : PS X (Stmt.Assign [o.Attribute f pos'] value pos) (sFld K ta tv f) := by subst h; exact ps_fld ho hv hs
end

/-! ### built-ins that no name of the module hides -/
structure Blt (mg : Str → Option Value) : Prop where
  len : mg "len" = none
  sum : mg "sum" = none
  sorted : mg "sorted" = none
  all : mg "all" = none
  any : mg "any" = none
  abs : mg "abs" = none
  isinstance : mg "isinstance" = none
  list : mg "list" = none
  tuple : mg "tuple" = none
  int : mg "int" = none
  bool : mg "bool" = none
  range : mg "range" = none
  zip : mg "zip" = none
  enumerate : mg "enumerate" = none
theorem bb_len : bootBuiltins "len" = some (.builtin "len") := by decide +kernel
theorem bb_sum : bootBuiltins "sum" = some (.builtin "sum") := by decide +kernel
theorem bb_sorted : bootBuiltins "sorted" = some (.builtin "sorted") := by decide +kernel
theorem bb_all : bootBuiltins "all" = some (.builtin "all") := by decide +kernel
theorem bb_any : bootBuiltins "any" = some (.builtin "any") := by decide +kernel
theorem bb_abs : bootBuiltins "abs" = some (.builtin "abs") := by decide +kernel
theorem bb_isinstance : bootBuiltins "isinstance" = some (.builtin "isinstance") := by decide +kernel
theorem bb_list : bootBuiltins "list" = some (.type "list") := by decide +kernel
theorem bb_tuple : bootBuiltins "tuple" = some (.type "tuple") := by decide +kernel
theorem bb_int : bootBuiltins "int" = some (.type "int") := by decide +kernel
theorem bb_bool : bootBuiltins "bool" = some (.type "bool") := by decide +kernel
theorem start_eq {t : TS} {D : Ends} {σ σ' : L2.St} {H : Hp} (e : σ = σ') (h : t D σ' H) : t D σ H := by rw [e]; exact h
end G

namespace G
open PySem PySem.Spec PyProof.Rows L2

section
variable {K : PySem.W.Frag} {σ : L2.St} {H F : Hp} {Q : VK} {QT : Bool → Hp → Prop} {QA : List V → Hp → Prop} {D : Ends} {i : Nat} {v x y : V} {ta tb te : TE} {t u : TT} {ts us : TS} {tr : TA} {a p : Addr} {xs ys : List V} {o : HO}

/-! ### expressions, step by step -/
theorem s_var (h : σ[i]? = some (some v)) (q : Q v H) : tVar i σ H Q := ⟨v, h, q⟩
theorem s_c (q : Q v H) : tC v σ H Q := q
theorem s_op {r : R2} (h : ta σ H fun x H1 => tb σ H1 fun y H2 => r x y H2 Q) : tOp r ta tb σ H Q := h
theorem s_un {r : V → Hp → VK → Prop} (h : ta σ H fun x H1 => r x H1 Q) : tUn r ta σ H Q := h
theorem s_neg {m : Int} (q : Q (.int (-m)) H) : (rU fun i => .int (-i)) (.int m) H Q := ⟨m, rfl, q⟩
theorem s_test (h : te σ H fun x H1 => ∃ k, x = .bl k ∧ QT k H1) : tTest te σ H QT := h
theorem s_B (h : te σ H fun x H1 => ∃ k, x = .bl k ∧ QT k H1) : tB te σ H QT := h
theorem s_bl {b : Bool} {A : Bool → Prop} (q : A b) : ∃ k, V.bl b = .bl k ∧ A k := ⟨b, rfl, q⟩
theorem s_not (h : t σ H fun c H1 => QT (!c) H1) : tNot t σ H QT := h
theorem s_and (h : t σ H fun c H1 => if c = true then u σ H1 QT else QT false H1) : tAnd t u σ H QT := h
theorem s_or (h : t σ H fun c H1 => if c = true then QT true H1 else u σ H1 QT) : tOr t u σ H QT := h
theorem s_notV (h : ta σ H fun x H1 => ∃ c, x = .bl c ∧ Q (.bl (!c)) H1) : tNotV ta σ H Q := h
theorem s_andV (h : ta σ H fun x H1 => ∃ c, x = .bl c ∧ if c = true then tb σ H1 Q else Q (.bl false) H1) : tAndV ta tb σ H Q := h
theorem s_orV (h : ta σ H fun x H1 => ∃ c, x = .bl c ∧ if c = true then Q (.bl true) H1 else tb σ H1 Q) : tOrV ta tb σ H Q := h
theorem s_if (h : t σ H fun c H1 => if c = true then ta σ H1 Q else tb σ H1 Q) : tIf t ta tb σ H Q := h
theorem s_yes (q : QT true H) : tYes σ H QT := q
theorem s_cT {A B : Prop} (h : A) : if true = true then A else B := iteT h
theorem s_cF {A B : Prop} (h : B) : if false = true then A else B := iteF h
theorem s_nT {A B : Prop} (h : A) : if (!false) = true then A else B := iteT h
theorem s_nF {A B : Prop} (h : B) : if (!true) = true then A else B := iteF h
theorem s_dT {c A B : Prop} {dc : Decidable c} (hc : c) (h : A) : if decide c = true then A else B := by rw [decide_eq_true hc]; exact iteT h
theorem s_dF {c A B : Prop} {dc : Decidable c} (hc : ¬ c) (h : B) : if decide c = true then A else B := by rw [decide_eq_false hc]; exact iteF h
theorem s_d2 {c A B : Prop} {dc : Decidable c} (h1 : c → A) (h2 : ¬ c → B) : if decide c = true then A else B := by
  by_cases h : c
  · exact s_dT h (h1 h)
  · exact s_dF h (h2 h)
theorem s_n2 {c A B : Prop} {dc : Decidable c} (h1 : ¬ c → A) (h2 : c → B) : if (!decide c) = true then A else B := by
  by_cases h : c
  · rw [decide_eq_true h]; exact iteF (h2 h)
  · rw [decide_eq_false h]; exact iteT (h1 h)
theorem s_b2 {b : Bool} {A B : Prop} (h1 : b = true → A) (h2 : b = false → B) : if b = true then A else B := by
  cases b with
  | true => exact iteT (h1 rfl)
  | false => exact iteF (h2 rfl)
theorem s_non {A : Prop} (h : A) : V.non = V.non ∧ A := ⟨rfl, h⟩
/-! ints -/
theorem s_I0 {g : Int → Int → V} {m n : Int} (q : Q (g m n) H) : rI0 g (.int m) (.int n) H Q := ⟨m, n, rfl, rfl, q⟩
theorem s_I {C : Int → Int → Prop} {g : Int → Int → V} {m n : Int} (c : C m n) (q : Q (g m n) H) : rI C g (.int m) (.int n) H Q := ⟨m, n, rfl, rfl, c, q⟩
theorem s_addI {m n : Int} (q : Q (.int (m + n)) H) : rAddU K (.int m) (.int n) H Q := .inl (s_I0 q)
theorem s_mulI {m n : Int} (c : CMul m n) (q : Q (.int (m * n)) H) : rMulU (.int m) (.int n) H Q := .inl (s_I c q)
theorem s_eq (h : scal x y = true) (q : Q (.bl (decide (x = y))) H) : rEqU K x y H Q := .inl ⟨h, q⟩
theorem s_ne (h : scal x y = true) (q : Q (.bl (!decide (x = y))) H) : rNeU K x y H Q := .inl ⟨h, q⟩
theorem s_eqI {m n : Int} (q : Q (.bl (decide (m = n))) H) : rEqU K (.int m) (.int n) H Q := .inl ⟨rfl, by rw [show decide (V.int m = V.int n) = decide (m = n) from by simp]; exact q⟩
theorem s_neI {m n : Int} (q : Q (.bl (!decide (m = n))) H) : rNeU K (.int m) (.int n) H Q := .inl ⟨rfl, by rw [show decide (V.int m = V.int n) = decide (m = n) from by simp]; exact q⟩
theorem s_eqB {m n : Bool} (q : Q (.bl (decide (m = n))) H) : rEqU K (.bl m) (.bl n) H Q := .inl ⟨rfl, by rw [show decide (V.bl m = V.bl n) = decide (m = n) from by simp]; exact q⟩
theorem s_neB {m n : Bool} (q : Q (.bl (!decide (m = n))) H) : rNeU K (.bl m) (.bl n) H Q := .inl ⟨rfl, by rw [show decide (V.bl m = V.bl n) = decide (m = n) from by simp]; exact q⟩
theorem s_eqD {d e : PyData} (h1 : Dp K H x d) (h2 : Dp K H y e) (s1 : SeqAt.shaped d = true) (s2 : SeqAt.shaped e = true) (q : Q (.bl (PyData.eqv d e)) H) : rEqU K x y H Q := .inr ⟨d, e, h1, h2, s1, s2, q⟩
theorem s_neD {d e : PyData} (h1 : Dp K H x d) (h2 : Dp K H y e) (s1 : SeqAt.shaped d = true) (s2 : SeqAt.shaped e = true) (q : Q (.bl (!PyData.eqv d e)) H) : rNeU K x y H Q := .inr ⟨d, e, h1, h2, s1, s2, q⟩
theorem s_chain {r r' : R2} {tc : TE} (h : ta σ H fun x H1 => tb σ H1 fun y H2 => r x y H2 fun z H3 => ∃ k, z = .bl k ∧ if k = true then tc σ H3 fun w H4 => r' y w H4 Q else Q (.bl false) H3) : tChain r r' ta tb tc σ H Q := h
/-! calls -/
theorem s_cons (h : ta σ H fun x H1 => tr σ H1 fun xs H2 => QA (x :: xs) H2) : tCons ta tr σ H QA := h
theorem s_nil (q : QA [] H) : tNil σ H QA := q
theorem s_call {sp : Sp} {E : XK} (h : tr σ H fun vs H1 => sp vs H1 Q E) : tCall sp [] E tr σ H Q := by
  show tr σ H fun vs H1 => sp (vs ++ []) H1 Q E
  simp only [List.append_nil]
  exact h
theorem s_cb {r : List V → Hp → VK → Prop} (h : tr σ H fun vs H1 => r vs H1 Q) : tCB r tr σ H Q := h
theorem s_meth {C : Addr} {m : Str} {sp : Sp} {E : XK} (h : ta σ H fun x H1 => ∃ a dx fs, x = .ref a ∧ H1 a = some (.ins C dx fs) ∧ fs.lookup m = none ∧ tr σ H1 fun vs H2 => sp (x :: vs) H2 Q E) : tMeth C m sp [] E ta tr σ H Q := by
  show ta σ H fun x H1 => ∃ a dx fs, x = .ref a ∧ H1 a = some (.ins C dx fs) ∧ fs.lookup m = none ∧ tr σ H1 fun vs H2 => sp (x :: (vs ++ [])) H2 Q E
  simp only [List.append_nil]
  exact h
theorem s_make {C : Addr} {sp : Sp} {E : XK} (h : tr σ H fun vs H1 => ∀ x dx, H1 x = none → H1 dx = none → dx ≠ x → sp (.ref x :: vs) (upd (upd H1 dx (.own x)) x (.ins C dx [])) (fun v H2 => v = .non ∧ Q (.ref x) H2) E) : tMake C sp [] E tr σ H Q := by
  show tr σ H fun vs H1 => ∀ x dx, H1 x = none → H1 dx = none → dx ≠ x → sp (.ref x :: (vs ++ [])) (upd (upd H1 dx (.own x)) x (.ins C dx [])) (fun v H2 => v = .non ∧ Q (.ref x) H2) E
  simp only [List.append_nil]
  exact h
theorem s_tup (h : tr σ H fun xs H1 => xs.length ≤ sizeLine ∧ ∀ p, H1 p = none → Q (.ref p) (upd H1 p (.tup xs))) : tTup tr σ H Q := h
theorem s_lst (h : tr σ H fun xs H1 => xs.length ≤ sizeLine ∧ ∀ p, H1 p = none → Q (.ref p) (upd H1 p (.lst xs))) : tLst tr σ H Q := h
theorem s_bm {T : String} {r : V → List V → Hp → VK → Prop} (h : te σ H fun x H1 => tyV K T x H1 ∧ tr σ H1 fun xs H2 => r x xs H2 Q) : tBM K T r te tr σ H Q := h
theorem s_bm0 {T : String} {r : V → List V → Hp → VK → Prop} (h : te σ H fun x H1 => tyV K T x H1 ∧ r x [] H1 Q) : tBM0 K T r te σ H Q := h
theorem s_bmT {r : V → List V → Hp → VK → Prop} (h : te σ H fun x H1 => (∃ p ob ys, x = .ref p ∧ H1 p = some (.frz ob (.tup ys)) ∧ ob.dict = none) ∧ tr σ H1 fun xs H2 => r x xs H2 Q) : tBMT r te tr σ H Q := h
theorem s_tupleF (h : SqL K H p xs) (q : ∀ l (ob : Obj), ob.dict = none → H l = none → Q (.ref l) (upd H l (.frz ob (.tup xs)))) : rTupleF K [.ref p] H Q := ⟨p, xs, rfl, h, q⟩
theorem s_fld {f : Str} (h : ta σ H fun x H1 => ∃ a C dx fs v, x = .ref a ∧ H1 a = some (.ins C dx fs) ∧ Cls K C ∧ NoAttr K C f ∧ fs.lookup f = some v ∧ Q v H1) : tFld K ta f σ H Q := h
theorem s_dget (h : ta σ H fun x H1 => tb σ H1 fun y H2 => ∃ a v, x = .ref a ∧ DGet H2 a y (some v) ∧ Q v H2) : tDGet ta tb σ H Q := h
theorem s_sl {r : V → Option Int → Option Int → Hp → VK → Prop} {tl th : TO} (h : te σ H fun x H1 => tl σ H1 fun l H2 => th σ H2 fun u H3 => r x l u H3 Q) : tSl r te tl th σ H Q := h
theorem s_part {QO : Option Int → Hp → Prop} (h : te σ H fun x H1 => ∃ i, x = .int i ∧ QO (some i) H1) : tPart te σ H QO := h
theorem s_nopart {QO : Option Int → Hp → Prop} (h : QO none H) : tNoPart σ H QO := h
theorem s_int {m : Int} {P : Int → Prop} (h : P m) : ∃ i, V.int m = .int i ∧ P i := ⟨m, rfl, h⟩
/-! sequences -/
theorem s_ixT {m : Int} (h : SqT K H p xs) (hv : atI xs m = some v) (q : Q v H) : rIx K (.ref p) (.int m) H Q := .inr (.inl ⟨p, xs, m, v, rfl, rfl, h, hv, q⟩)
theorem s_ixL {m : Int} (h : SqL K H p xs) (hv : atI xs m = some v) (q : Q v H) : rIx K (.ref p) (.int m) H Q := .inl ⟨p, xs, m, v, rfl, rfl, h, hv, q⟩
theorem s_lenL (h : SqL K H p xs) (q : Q (.int xs.length) H) : rLen K [.ref p] H Q := ⟨p, xs, rfl, .inl h, q⟩
theorem s_lenT (h : SqT K H p xs) (q : Q (.int xs.length) H) : rLen K [.ref p] H Q := ⟨p, xs, rfl, .inr h, q⟩
theorem s_sumL {ns : List Int} (h : SqL K H p (ns.map V.int)) (q : Q (.int ns.sum) H) : rSumU K [.ref p] H Q := .inl ⟨p, ns, rfl, h, q⟩
theorem s_sumT {ns : List Int} (h : SqT K H p (ns.map V.int)) (q : Q (.int ns.sum) H) : rSumU K [.ref p] H Q := .inr ⟨p, ns, rfl, h, q⟩
theorem s_all {bs : List Bool} (h : SqL K H p (bs.map V.bl)) (q : Q (.bl (bs.all id)) H) : rAll K [.ref p] H Q := ⟨p, bs, rfl, h, q⟩
theorem s_any {bs : List Bool} (h : SqL K H p (bs.map V.bl)) (q : Q (.bl (bs.any id)) H) : rAny K [.ref p] H Q := ⟨p, bs, rfl, h, q⟩
theorem s_listL (h : SqL K H p xs) (q : ∀ l, H l = none → Q (.ref l) (upd H l (.lst xs))) : rListOf K [.ref p] H Q := ⟨p, xs, rfl, .inl h, q⟩
theorem s_listT (h : SqT K H p xs) (q : ∀ l, H l = none → Q (.ref l) (upd H l (.lst xs))) : rListOf K [.ref p] H Q := ⟨p, xs, rfl, .inr h, q⟩
theorem s_tupleL (h : SqL K H p xs) (q : ∀ l, H l = none → Q (.ref l) (upd H l (.tup xs))) : rTupleOf K [.ref p] H Q := ⟨p, xs, rfl, .inl ⟨h, q⟩⟩
theorem s_isi {c : V} {ty u : Value} {b : Bool} (hc : ClsV c u) (ht : TyX K H x ty) (hk : PySem.W.kitOne K ty u = some b) (q : Q (.bl b) H) : rIsi K [x, c] H Q := ⟨x, c, ty, u, b, rfl, hc, ht, hk, q⟩
theorem s_abs {m : Int} (q : Q (.int (if m < 0 then -m else m)) H) : ∃ i, [V.int m] = [V.int i] ∧ Q (V.int (if i < 0 then -i else i)) H := ⟨m, rfl, q⟩
theorem s_dgetK {kvs : List (Key × V)} {s : Str} (h : H a = some (.dK kvs)) (hv : valV kvs (Sum.inr s) = some v) (q : Q v H) : ∃ a' v', V.ref a = .ref a' ∧ DGet H a' (.str s) (some v') ∧ Q v' H := ⟨a, v, rfl, hv ▸ DGet.k (k := Sum.inr s) h, q⟩
/-! ### statements -/
variable {nx bk ct : L2.St → Hp → Prop}
theorem s_seq (h : ts ⟨us ⟨nx, Q, bk, ct⟩, Q, bk, ct⟩ σ H) : tSeq ts us ⟨nx, Q, bk, ct⟩ σ H := h
theorem s_next (h : nx σ H) : tNext ⟨nx, Q, bk, ct⟩ σ H := h
theorem s_asg {g : TG} (h : te σ H fun x H1 => g x σ H1 nx) : tAsg te g ⟨nx, Q, bk, ct⟩ σ H := h
theorem s_gn {R : L2.St → Hp → Prop} (h : R (σ.set i (some v)) H) : gName i v σ H R := h
theorem s_gt {R : L2.St → Hp → Prop} {n : Nat} {tg : TGs} (h : SqT K H a xs) (hl : xs.length = n) (q : tg xs σ H R) : gTup K n tg (.ref a) σ H R := ⟨a, xs, rfl, h, hl, q⟩
theorem s_gc {R : L2.St → Hp → Prop} {g : TG} {tg : TGs} (q : g v σ H fun σ' H' => tg xs σ' H' R) : gCons g tg (v :: xs) σ H R := ⟨v, xs, rfl, q⟩
theorem s_g0 {R : L2.St → Hp → Prop} (q : R σ H) : gNil [] σ H R := ⟨rfl, q⟩
theorem s_gs {R : L2.St → Hp → Prop} {tset : TSet} (q : ta σ H fun o H1 => tb σ H1 fun i H2 => tset o i v H2 fun H3 => R σ H3) : gSub ta tb tset v σ H R := q
theorem s_ret (h : te σ H Q) : tRet te ⟨nx, Q, bk, ct⟩ σ H := h
theorem s_ifS (h : t σ H fun b H1 => if b = true then ts ⟨nx, Q, bk, ct⟩ σ H1 else us ⟨nx, Q, bk, ct⟩ σ H1) : tIfS t ts us ⟨nx, Q, bk, ct⟩ σ H := h
theorem s_drop (h : te σ H fun _ H1 => nx σ H1) : tDrop te ⟨nx, Q, bk, ct⟩ σ H := h
theorem s_aug {ti : TIp} (hx : σ[i]? = some (some x)) (h : te σ H fun y H1 => ti x y H1 fun z H2 => nx (σ.set i (some z)) H2) : tAug i te ti ⟨nx, Q, bk, ct⟩ σ H := ⟨x, hx, h⟩
theorem s_augS {ti : TE} {tget : V → V → Hp → VK → Prop} {tip : TIp} {tset : TSet} (h : ta σ H fun o H1 => ti σ H1 fun i H2 => tget o i H2 fun x H3 => te σ H3 fun y H4 => tip x y H4 fun z H5 => tset o i z H5 fun H6 => nx σ H6) : tAugS ta ti te tget tip tset ⟨nx, Q, bk, ct⟩ σ H := h
theorem s_ipI {f : Int → Int → Int} {m n : Int} (q : Q (.int (f m n)) H) : ipI f (.int m) (.int n) H Q := ⟨m, n, rfl, rfl, q⟩
theorem s_getL {m : Int} (h : SqL K H p xs) (hv : atI xs m = some v) (q : Q v H) : rIxL K (.ref p) (.int m) H Q := ⟨p, xs, m, v, rfl, rfl, h, hv, q⟩
theorem s_setL {m : Int} {j : Nat} {R : Hp → Prop} (h : H p = some (.lst xs)) (hj : ixN xs.length m = some j) (q : R (upd H p (.lst (xs.set j v)))) : rSetL (.ref p) (.int m) v H R := ⟨p, xs, m, j, rfl, rfl, h, hj, q⟩
theorem s_app (h : H p = some (.lst xs)) (hl : xs.length < 100000) (q : Q .non (upd H p (.lst (xs ++ [v])))) : rAppend (.ref p) [v] H Q := ⟨p, xs, v, rfl, rfl, h, Nat.lt_of_lt_of_le hl (by decide), q⟩
theorem s_extd {b : Addr} (h : H p = some (.lst xs)) (hb : H b = some (.lst ys)) (hl : xs.length + ys.length ≤ 100000) (q : Q .non (upd H p (.lst (xs ++ ys)))) : rExtend (.ref p) [.ref b] H Q := ⟨p, b, xs, ys, rfl, rfl, h, hb, Nat.le_trans hl (by decide), q⟩
/-! loops -/
def ForB (J : It) (g : TG) (tb : TS) (nx : L2.St → Hp → Prop) (Q : VK) (σ : L2.St) (H1 : Hp) : Prop := ∃ W : Nat → Nat → L2.St → Hp → Prop, (∃ m, W 0 m σ H1) ∧ ∀ i m σ H, W i m σ H →
  (J.stop i H ∧ nx σ H) ∨ (J.go i H ∧ ∃ N : L2.St → Hp → Prop, (∀ σ' H', N σ' H' → ∃ m', m' < m ∧ W (i + 1) m' σ' H') ∧ ∀ x H', J.yld i H x H' → g x σ H' fun σ2 H2 => tb ⟨N, Q, nx, N⟩ σ2 H2)
theorem s_for {wi : TI} {g : TG} {tb : TS} (h : wi σ H fun J H1 => ForB J g tb nx Q σ H1) : tFor wi g tb ⟨nx, Q, bk, ct⟩ σ H := h
theorem for_w {J : It} {n : Nat} {G : Hp → Prop} {Y : Nat → Hp → V → Hp → Prop} {g : TG} {tb : TS} (w : Walk J n G Y) (Pv : Nat → L2.St → Hp → Prop) (h0 : Pv 0 σ H) (hG : ∀ i σ H, i ≤ n → Pv i σ H → G H)
    (hs : ∀ i x σ H H', i < n → Pv i σ H → Y i H x H' → g x σ H' fun σ2 H2 => tb ⟨Pv (i + 1), Q, nx, Pv (i + 1)⟩ σ2 H2) (hd : ∀ σ H, Pv n σ H → nx σ H) : ForB J g tb nx Q σ H :=
  for_it w (D := ⟨nx, Q, fun _ _ => False, fun _ _ => False⟩) Pv h0 hG hs hd
theorem s_iseq {R : It → Hp → Prop} (h : te σ H fun x H1 => (∃ a, x = .ref a ∧ (∃ xs, SqL K H1 a xs) ∧ R (Itl K a) H1) ∨ (∃ a, x = .ref a ∧ (∃ xs, SqT K H1 a xs) ∧ R (Itt K a) H1)) : iSeq K te σ H R := h
theorem s_itL {R : It → Hp → Prop} (h : SqL K H a xs) (q : R (Itl K a) H) : (∃ b, V.ref a = .ref b ∧ (∃ xs, SqL K H b xs) ∧ R (Itl K b) H) ∨ (∃ b, V.ref a = .ref b ∧ (∃ xs, SqT K H b xs) ∧ R (Itt K b) H) := .inl ⟨a, rfl, ⟨xs, h⟩, q⟩
theorem s_itT {R : It → Hp → Prop} (h : SqT K H a xs) (q : R (Itt K a) H) : (∃ b, V.ref a = .ref b ∧ (∃ xs, SqL K H b xs) ∧ R (Itl K b) H) ∨ (∃ b, V.ref a = .ref b ∧ (∃ xs, SqT K H b xs) ∧ R (Itt K b) H) := .inr ⟨a, rfl, ⟨xs, h⟩, q⟩
theorem s_rng1 {R : It → Hp → Prop} (h : tr σ H fun vs H1 => ∃ j : Int, vs = [.int j] ∧ -(2 ^ 62) ≤ j ∧ j < 2 ^ 62 ∧ R (Itr 0 j.toNat) H1) : iRng1 tr σ H R := h
theorem s_rngI {R : It → Hp → Prop} {m : Int} (h : -1000000 ≤ m ∧ m ≤ 1000000) (q : R (Itr 0 m.toNat) H) : ∃ j : Int, [V.int m] = [.int j] ∧ -(2 ^ 62) ≤ j ∧ j < 2 ^ 62 ∧ R (Itr 0 j.toNat) H := ⟨m, rfl, by omega, by omega, q⟩
theorem s_izip {R : It → Hp → Prop} (h : tr σ H fun vs H1 => ∃ j k a b xs ys, vs = [.ref a, .ref b] ∧ SqB j K H1 a xs ∧ SqB k K H1 b ys ∧ R (ItzM j k K a b) H1) : iZipM K tr σ H R := h
def LcB (J : It) (g : TG) (tt : TT) (te : TE) (vs : List Nat) (σ : L2.St) (H1 : Hp) (Q : VK) : Prop := ∀ D, H1 D = none → ∃ W : Nat → Nat → Hp → Prop, (∃ m, W 0 m (upd H1 D (.lst []))) ∧ ∀ i m H, W i m H →
  (J.stop i H ∧ Q (.ref D) H) ∨ (J.go i H ∧ ∃ Nx : Hp → Prop, (∀ H', Nx H' → ∃ m', m' < m ∧ W (i + 1) m' H') ∧ ∀ x H', J.yld i H x H' → g x (wipe σ vs) H' fun σ2 H2 => wipe σ2 vs = wipe σ vs ∧ tt σ2 H2 fun b H3 =>
    if b = true then te σ2 H3 fun y H4 => ∃ acc, H4 D = some (.lst acc) ∧ acc.length < sizeLine ∧ Nx (upd H4 D (.lst (acc ++ [y]))) else Nx H3)
theorem s_lc {wi : TI} {g : TG} {tt : TT} {vs : List Nat} (h : wi σ H fun J H1 => LcB J g tt te vs σ H1 Q) : tLc wi g tt te vs σ H Q := h
theorem walk_zipM {j k : Bool} {a b : Addr} {xs ys : List V} {n : Nat} (hn : n = min xs.length ys.length) : Walk (ItzM j k K a b) n (fun H => SqB j K H a xs ∧ SqB k K H b ys) (YPair (fun i => xs[i]?) (fun i => ys[i]?)) := by
  subst hn
  refine ⟨fun i _ hi q => ?_, fun _ q => ⟨xs, ys, q.1, q.2, by omega, by omega, by omega⟩, fun i H v H' _ q y => ?_⟩
  · have h1 : i < xs.length := by omega
    have h2 : i < ys.length := by omega
    exact ⟨xs, ys, xs[i], ys[i], q.1, q.2, by simp [h1], by simp [h2]⟩
  · obtain ⟨T, x, z, h1, h2, h3, h4, h5⟩ := y
    exact ⟨T, x, z, h1, h2, h3, h4 xs q.1, h5 ys q.2⟩
/-- a comprehension whose element changes nothing that stood -/
theorem lc_mapH {J : It} {n : Nat} {G : Hp → Prop} {Y : Nat → Hp → V → Hp → Prop} (w : Walk J n G Y) {F H1 : Hp} {g : TG} {vs : List Nat} (hF : Same F H1) (hn : n < 100000) (hG : ∀ H', Same H1 H' → G H')
    (R : Nat → Hp → V → Prop) (Rm : ∀ i H H' v, Same H H' → R i H v → R i H' v)
    (turn : ∀ i x F' H H' D (Z : VK), i < n → Ext F H1 F' H → F' D = none → H D ≠ none → Y i H x H' → (∀ y F4 H4, Ext F' H F4 H4 → R i F4 y → Z y H4) → g x (wipe σ vs) H' fun σ2 H2 => wipe σ2 vs = wipe σ vs ∧ te σ2 H2 Z)
    (fin : ∀ D ys F' H', H1 D = none → Ext F H1 F' H' → F' D = some (.lst ys) → ys.length = n → (∀ i v, ys[i]? = some v → R i F' v) → Q (.ref D) H') :
    LcB J g tYes te vs σ H1 Q := by
  intro D hD
  refine lc_it w (fun i H => ∃ F' acc, Ext F H1 F' H ∧ F' D = none ∧ H D = some (.lst acc) ∧ acc.length = i ∧ ∀ j v, acc[j]? = some v → R j F' v) ?_ ?_ ?_ ?_
  · exact ⟨F, [], (Ext.refl hF).mut hD, sub_none hF hD, upd_same, rfl, fun j v h => by simp at h⟩
  · rintro i H _ ⟨F', acc, e, _⟩
    exact hG H e.hh
  · rintro i x H H' hi ⟨F', acc, e, fd, hd, hl, hr⟩ y
    refine turn i x F' H H' D _ hi e fd (by rw [hd]; simp) y fun z F4 H4 e4 r4 => ?_
    have hd4 := e4.hh D _ hd
    refine ⟨acc, hd4, Nat.lt_of_lt_of_le (show acc.length < 100000 by omega) (by decide), F4, acc ++ [z], ?_, ?_, upd_same, by simp [hl], ?_⟩
    · exact (e.trans e4).chg hD (e4.fr D (by rw [hd]; simp) fd)
    · exact e4.fr D (by rw [hd]; simp) fd
    · intro j v hv
      by_cases hj : j < acc.length
      · rw [List.getElem?_append_left hj] at hv
        exact Rm _ _ _ _ e4.ff (hr j v hv)
      · have : j = acc.length := by
          have := (List.getElem?_eq_some_iff.mp hv).1
          simp at this
          omega
        subst this
        rw [List.getElem?_append_right (Nat.le_refl _)] at hv
        simp at hv
        rw [← hv, hl]
        exact r4
  · rintro H ⟨F', acc, e, fd, hd, hl, hr⟩
    exact fin D acc (upd F' D (.lst acc)) H hD (e.frz hD fd hd) upd_same hl fun i v hv => Rm _ _ _ _ (same_upd fd) (hr i v hv)
theorem lc_map {J : It} {n : Nat} {G : Hp → Prop} {Y : Nat → Hp → V → Hp → Prop} (w : Walk J n G Y) {F H1 : Hp} {g : TG} {vs : List Nat} (hF : Same F H1) (hn : n < 100000) (hG : ∀ H', Same F H' → G H')
    (R : Nat → Hp → V → Prop) (Rm : ∀ i H H' v, Same H H' → R i H v → R i H' v)
    (turn : ∀ i x F' H H' D (Z : VK), i < n → Ext F H1 F' H → F' D = none → H D ≠ none → Y i H x H' → (∀ y F4 H4, Ext F' H F4 H4 → R i F4 y → Z y H4) → g x (wipe σ vs) H' fun σ2 H2 => wipe σ2 vs = wipe σ vs ∧ te σ2 H2 Z)
    (fin : ∀ D ys F' H', H1 D = none → Ext F H1 F' H' → F' D = some (.lst ys) → ys.length = n → (∀ i v, ys[i]? = some v → R i F' v) → Q (.ref D) H') :
    LcB J g tYes te vs σ H1 Q :=
  lc_mapH w hF hn (fun H' s' => hG H' (hF.trans s')) R Rm turn fin
/-- .. with a test; the elements known values -/
theorem lc_filt {J : It} {n : Nat} {G : Hp → Prop} {Y : Nat → Hp → V → Hp → Prop} (w : Walk J n G Y) {F H1 : Hp} {g : TG} {tt : TT} {vs : List Nat} (hF : Same F H1) (hn : n < 100000) (hG : ∀ H', Same F H' → G H')
    (keep : Nat → Bool) (val : Nat → V)
    (turn : ∀ i x F' H H' D (Z1 : VK) (Z0 : Hp → Prop), i < n → Ext F H1 F' H → F' D = none → H D ≠ none → Y i H x H' → (∀ F4 H4, Ext F' H F4 H4 → keep i = true → Z1 (val i) H4) → (∀ F4 H4, Ext F' H F4 H4 → keep i = false → Z0 H4) →
      g x (wipe σ vs) H' fun σ2 H2 => wipe σ2 vs = wipe σ vs ∧ tt σ2 H2 fun b H3 => if b = true then te σ2 H3 Z1 else Z0 H3)
    (fin : ∀ D F' H', H1 D = none → Ext F H1 F' H' → F' D = some (.lst (((List.range n).filter keep).map val)) → Q (.ref D) H') :
    LcB J g tt te vs σ H1 Q := by
  intro D hD
  refine lc_it w (fun i H => ∃ F', Ext F H1 F' H ∧ F' D = none ∧ H D = some (.lst (((List.range i).filter keep).map val))) ?_ ?_ ?_ ?_
  · exact ⟨F, (Ext.refl hF).mut hD, sub_none hF hD, upd_same⟩
  · rintro i H _ ⟨F', e, _⟩
    exact hG H (e.ff.trans e.fh)
  · rintro i x H H' hi ⟨F', e, fd, hd⟩ y
    refine turn i x F' H H' D _ _ hi e fd (by rw [hd]; simp) y (fun F4 H4 e4 k1 => ?_) (fun F4 H4 e4 k0 => ?_)
    · have hd4 := e4.hh D _ hd
      have hl : (((List.range i).filter keep).map val).length < 100000 := by
        rw [List.length_map]
        exact Nat.lt_of_le_of_lt (List.length_filter_le _ _) (by rw [List.length_range]; omega)
      refine ⟨_, hd4, Nat.lt_of_lt_of_le hl (by decide), F4, (e.trans e4).chg hD (e4.fr D (by rw [hd]; simp) fd), e4.fr D (by rw [hd]; simp) fd, ?_⟩
      rw [upd_same, List.range_succ, List.filter_append, List.map_append]
      simp [k1]
    · refine ⟨F4, e.trans e4, e4.fr D (by rw [hd]; simp) fd, ?_⟩
      rw [e4.hh D _ hd, List.range_succ, List.filter_append, List.map_append]
      simp [k0]
  · rintro H ⟨F', e, fd, hd⟩
    exact fin D (upd F' D _) H hD (e.frz hD fd hd) upd_same
/-! two clauses -/
def InB (J1 : It) (g1 : TG) (tt1 : TT) (te : TE) (vs1 : List Nat) (σ2 : L2.St) (H4 : Hp) (D : Addr) (Nx : Hp → Prop) : Prop := ∃ W1 : Nat → Nat → Hp → Prop, (∃ m, W1 0 m H4) ∧ ∀ j k H, W1 j k H →
  (J1.stop j H ∧ Nx H) ∨ (J1.go j H ∧ ∃ Nx1 : Hp → Prop, (∀ H', Nx1 H' → ∃ k', k' < k ∧ W1 (j + 1) k' H') ∧ ∀ x H', J1.yld j H x H' → g1 x (wipe σ2 vs1) H' fun σ3 H5 => wipe σ3 vs1 = wipe σ2 vs1 ∧ tt1 σ3 H5 fun b H6 =>
    if b = true then te σ3 H6 fun y H7 => ∃ acc, H7 D = some (.lst acc) ∧ acc.length < sizeLine ∧ Nx1 (upd H7 D (.lst (acc ++ [y]))) else Nx1 H6)
def Lc2B (J : It) (g : TG) (tt : TT) (wi1 : TI) (g1 : TG) (tt1 : TT) (te : TE) (vs vs1 : List Nat) (σ : L2.St) (H1 : Hp) (Q : VK) : Prop := ∀ D, H1 D = none → ∃ W : Nat → Nat → Hp → Prop, (∃ m, W 0 m (upd H1 D (.lst []))) ∧ ∀ i m H, W i m H →
  (J.stop i H ∧ Q (.ref D) H) ∨ (J.go i H ∧ ∃ Nx : Hp → Prop, (∀ H', Nx H' → ∃ m', m' < m ∧ W (i + 1) m' H') ∧ ∀ x H', J.yld i H x H' → g x (wipe σ vs) H' fun σ2 H2 => wipe σ2 vs = wipe σ vs ∧ tt σ2 H2 fun b H3 =>
    if b = true then wi1 σ2 H3 fun J1 H4 => InB J1 g1 tt1 te vs1 σ2 H4 D Nx else Nx H3)
theorem s_lc2 {wi wi1 : TI} {g g1 : TG} {tt tt1 : TT} {vs vs1 : List Nat} (h : wi σ H fun J H1 => Lc2B J g tt wi1 g1 tt1 te vs vs1 σ H1 Q) : tLc2 wi g tt wi1 g1 tt1 te vs vs1 σ H Q := h
theorem in_map {J1 : It} {m : Nat} {G1 : Hp → Prop} {Y1 : Nat → Hp → V → Hp → Prop} (w : Walk J1 m G1 Y1) {F H4 : Hp} {g1 : TG} {vs1 : List Nat} {σ2 : L2.St} {D : Addr} {acc : List V} {Nx : Hp → Prop} (hF : Same F H4) (hG : ∀ H', Same F H' → G1 H') (fd : F D = none) (hd : H4 D = some (.lst acc)) (row : List V) (hm : row.length = m) (small : acc.length + m < 100000)
    (turn : ∀ (j : Nat) x y H H' (Z : VK), row[j]? = some y → Same F H → H D ≠ none → Y1 j H x H' → (∀ H7, Same H H7 → Z y H7) → g1 x (wipe σ2 vs1) H' fun σ3 H5 => wipe σ3 vs1 = wipe σ2 vs1 ∧ te σ3 H5 Z)
    (fin : ∀ H', Same F H' → (∀ b o, b ≠ D → H4 b = some o → H' b = some o) → H' D = some (.lst (acc ++ row)) → Nx H') : InB J1 g1 tYes te vs1 σ2 H4 D Nx := by
  refine ⟨fun j k H => k = m - j ∧ j ≤ m ∧ Same F H ∧ (∀ b o, b ≠ D → H4 b = some o → H b = some o) ∧ H D = some (.lst (acc ++ row.take j)), ⟨m, rfl, Nat.zero_le _, hF, fun _ _ _ h => h, by simpa using hd⟩, ?_⟩
  rintro j k H ⟨rfl, hj, e, e2, hD⟩
  by_cases hlt : j < m
  · refine .inr ⟨w.goes j H hlt (hG H e), fun H' => Same F H' ∧ (∀ b o, b ≠ D → H4 b = some o → H' b = some o) ∧ H' D = some (.lst (acc ++ row.take (j + 1))), fun H' h => ⟨m - (j + 1), by omega, rfl, hlt, h.1, h.2.1, h.2.2⟩, fun x H' y => ?_⟩
    have hr : row[j]? = some row[j] := List.getElem?_eq_getElem (by omega)
    refine turn j x row[j] H H' _ hr e (by rw [hD]; simp) (w.yields j H x H' hlt (hG H e) y) fun H7 e7 => ?_
    have hD7 := e7 D _ hD
    refine ⟨_, hD7, Nat.lt_of_lt_of_le (show _ < 100000 by simp; omega) (by decide), same_updR (e.trans e7) fd, fun b o hb h => ?_, ?_⟩
    · rw [upd_ne hb]
      exact e7 b o (e2 b o hb h)
    · rw [upd_same, List.append_assoc, List.take_add_one, hr]
      rfl
  · have : j = m := by omega
    subst this
    refine .inl ⟨w.stops H (hG H e), fin H e e2 ?_⟩
    rw [hD, List.take_of_length_le (by omega)]
theorem lc2_mapH {J : It} {n : Nat} {G : Hp → Prop} {Y : Nat → Hp → V → Hp → Prop} (w : Walk J n G Y) {F H1 : Hp} {g g1 : TG} {wi1 : TI} {vs vs1 : List Nat} (hF : Same F H1) (hG : ∀ H', Same H1 H' → G H') (rows : List (List V)) (hn : rows.length = n) (small : rows.flatten.length < 100000)
    (turn : ∀ (i : Nat) x row F' H H' D (Nx : Hp → Prop), rows[i]? = some row → Ext F H1 F' H → F' D = none → (∃ acc, H D = some (.lst acc) ∧ acc.length + row.length < 100000) → Y i H x H' →
      (∀ acc, H D = some (.lst acc) → ∀ H'', Same F' H'' → (∀ b o, b ≠ D → H b = some o → H'' b = some o) → H'' D = some (.lst (acc ++ row)) → Nx H'') →
      g x (wipe σ vs) H' fun σ2 H2 => wipe σ2 vs = wipe σ vs ∧ wi1 σ2 H2 fun J1 H4 => InB J1 g1 tYes te vs1 σ2 H4 D Nx)
    (fin : ∀ D F' H', H1 D = none → Ext F H1 F' H' → F' D = some (.lst rows.flatten) → Q (.ref D) H') : Lc2B J g tYes wi1 g1 tYes te vs vs1 σ H1 Q := by
  intro D hD
  refine ⟨fun i m H => m = n - i ∧ i ≤ n ∧ Ext F H1 F H ∧ H D = some (.lst (rows.take i).flatten), ⟨n, rfl, Nat.zero_le _, (Ext.refl hF).mut hD, by rw [upd_same]; rfl⟩, ?_⟩
  have fd : F D = none := sub_none hF hD
  rintro i m H ⟨rfl, hi, e, hd⟩
  have sz : ∀ i : Nat, (rows.take i).flatten.length ≤ rows.flatten.length := fun i => by
    conv => rhs; rw [← List.take_append_drop i rows, List.flatten_append, List.length_append]
    omega
  by_cases hlt : i < n
  · have hr : rows[i]? = some rows[i] := List.getElem?_eq_getElem (by omega)
    have ht : (rows.take (i + 1)).flatten = (rows.take i).flatten ++ rows[i] := by
      rw [List.take_add_one, hr, List.flatten_append]
      simp
    refine .inr ⟨w.goes i H hlt (hG H e.hh), fun H' => Ext F H1 F H' ∧ H' D = some (.lst (rows.take (i + 1)).flatten), fun H' h => ⟨n - (i + 1), by omega, rfl, hlt, h.1, h.2⟩, fun x H' y => ?_⟩
    refine turn i x rows[i] F H H' D _ hr e fd ⟨_, hd, ?_⟩ (w.yields i H x H' hlt (hG H e.hh) y) fun acc ha H'' f1 f2 f3 => ?_
    · have := sz (i + 1)
      rw [ht, List.length_append] at this
      omega
    · rw [hd] at ha
      cases ha
      refine ⟨⟨fun b o hb => f2 b o (ne_of_none hb hD) (e.hh b o hb), Same.refl F, f1, fun _ _ h => h⟩, ?_⟩
      rw [f3, ht]
  · have : i = n := by omega
    subst this
    refine .inl ⟨w.stops H (hG H e.hh), ?_⟩
    rw [List.take_of_length_le (by omega)] at hd
    exact fin D (upd F D (.lst rows.flatten)) H hD (e.frz hD fd hd) upd_same
theorem lc2_map {J : It} {n : Nat} {G : Hp → Prop} {Y : Nat → Hp → V → Hp → Prop} (w : Walk J n G Y) {F H1 : Hp} {g g1 : TG} {wi1 : TI} {vs vs1 : List Nat} (hF : Same F H1) (hG : ∀ H', Same F H' → G H') (rows : List (List V)) (hn : rows.length = n) (small : rows.flatten.length < 100000)
    (turn : ∀ (i : Nat) x row F' H H' D (Nx : Hp → Prop), rows[i]? = some row → Ext F H1 F' H → F' D = none → (∃ acc, H D = some (.lst acc) ∧ acc.length + row.length < 100000) → Y i H x H' →
      (∀ acc, H D = some (.lst acc) → ∀ H'', Same F' H'' → (∀ b o, b ≠ D → H b = some o → H'' b = some o) → H'' D = some (.lst (acc ++ row)) → Nx H'') →
      g x (wipe σ vs) H' fun σ2 H2 => wipe σ2 vs = wipe σ vs ∧ wi1 σ2 H2 fun J1 H4 => InB J1 g1 tYes te vs1 σ2 H4 D Nx)
    (fin : ∀ D F' H', H1 D = none → Ext F H1 F' H' → F' D = some (.lst rows.flatten) → Q (.ref D) H') : Lc2B J g tYes wi1 g1 tYes te vs vs1 σ H1 Q :=
  lc2_mapH w hF (fun H' s' => hG H' (hF.trans s')) rows hn small turn fin
theorem s_lstRg {te : L2.St → Hp → (Int → Int → Hp → Prop) → Prop} (h : te σ H fun a b H1 => RgOk a b ∧ ∀ q, H1 q = none → Q (.ref q) (upd H1 q (.lst (rgV a b)))) : tLstRg te σ H Q := h
theorem s_rg1 {R : Int → Int → Hp → Prop} (h : te σ H fun x H1 => ∃ n, x = .int n ∧ R 0 n H1) : tRg1 te σ H R := h
theorem s_sfld {f : Str} (h : tb σ H fun y H1 => ta σ H1 fun x H2 => ∃ a C dx fs, x = .ref a ∧ H2 a = some (.ins C dx fs) ∧ Cls K C ∧ NoAttr K C f ∧ fs.length < 1000 ∧ nx σ (upd H2 a (.ins C dx (putF f y fs)))) : sFld K ta tb f ⟨nx, Q, bk, ct⟩ σ H := h
theorem s_ienum {R : It → Hp → Prop} (h : tr σ H fun vs H1 => ∃ a xs, vs = [.ref a] ∧ SqL K H1 a xs ∧ R (Ite K a) H1) : iEnum K tr σ H R := h
/-! ### reading through new objects -/
theorem rT_at : SqT K (upd H p (.tup xs)) p xs := .inl (.inl upd_same)
theorem rL_at : SqL K (upd H p (.lst xs)) p xs := .inl (.inl upd_same)
theorem rT_new (h : H p = none) (r : SqT K H a xs) : SqT K (upd H p o) a xs := sqT_mono (same_upd h) r
theorem rL_new (h : H p = none) (r : SqL K H a xs) : SqL K (upd H p o) a xs := sqL_mono (same_upd h) r
theorem rH_new {o' : HO} (h : H p = none) (r : H a = some o') : upd H p o a = some o' := by rw [upd_ne (ne_of_none r h)]; exact r
theorem rD_new {d : PyData} (h : H p = none) (r : Dp K H v d) : Dp K (upd H p o) v d := dp_mono (same_upd h) r
theorem ty_tup (h : SqT K H a xs) : TyX K H (.ref a) (.type "tuple") := by
  rcases h with (h | ⟨o, h⟩) | ⟨o, _, _, hk, hc, _⟩
  · exact .base (.tup h)
  · exact .fTuple h
  · exact .kTuple hk hc
theorem ty_lst (h : SqL K H a xs) : TyX K H (.ref a) (.type "list") := by
  rcases h with (h | ⟨o, h⟩) | ⟨o, _, _, hk, hc, _⟩
  · exact .base (.lst h)
  · exact .base (.frz h)
  · exact .kList hk hc
theorem tyV_lst (h : H a = some (.lst xs)) : tyV K "list" (.ref a) H := Or.inl ⟨rfl, _, Or.inl (Or.inl h)⟩
end
end G

namespace G
open PySem PySem.Spec PyProof.Rows L2

/-! ### benches as data -/
structure BD where
  hard : List Int
  places : Nat
  told : List (Nat × Nat × List Nat)
def BD.heavy (B : BD) : List Int := B.hard.flatMap fun h => List.replicate B.places h
def pairsOf (n : Nat) (g : Nat × Nat × List Nat) : List (Nat × Nat) := (List.range n).map fun x => (g.1 * n + x, g.2.1 * n + g.2.2.getD x 0)
def BD.meets (B : BD) : List (List (Nat × Nat)) := B.told.map (pairsOf B.places)
def gD (g : Nat × Nat × List Nat) : PyData := .tuple [.int g.1, .int g.2.1, .tuple (g.2.2.map fun (x : Nat) => PyData.int (x : Int))]
def pD (p : Nat × Nat) : PyData := .tuple [.int p.1, .int p.2]
structure BOk (B : BD) : Prop where
  plates : 2 ≤ B.hard.length ∧ B.hard.length ≤ 4
  hard : ∀ h ∈ B.hard, 1 ≤ h ∧ h ≤ 9
  places : 1 ≤ B.places ∧ B.places ≤ 3
  told : 1 ≤ B.told.length ∧ B.told.length ≤ 6
  each : ∀ g ∈ B.told, g.1 < B.hard.length ∧ g.2.1 < B.hard.length ∧ g.1 ≠ g.2.1 ∧ g.2.2.Perm (List.range B.places)
theorem flat_len (l : List Int) (n : Nat) : (l.flatMap fun h => List.replicate n h).length = l.length * n := by
  induction l with
  | nil => simp
  | cons a l ih => rw [List.flatMap_cons, List.length_append, ih, List.length_replicate, List.length_cons, Nat.add_mul, Nat.one_mul, Nat.add_comm]
theorem BD.heavy_len (B : BD) : B.heavy.length = B.hard.length * B.places := flat_len _ _
theorem BOk.heavy {B : BD} (h : BOk B) : ∀ x ∈ B.heavy, 1 ≤ x ∧ x ≤ 9 := by
  intro x hx
  obtain ⟨y, hy, hm⟩ := List.mem_flatMap.mp hx
  rw [List.mem_replicate] at hm
  rw [hm.2]
  exact h.hard y hy
theorem BOk.heavy_lt {B : BD} (h : BOk B) : B.heavy.length ≤ 12 := by
  rw [B.heavy_len]
  have h1 := h.plates.2
  have h2 := h.places.2
  calc B.hard.length * B.places ≤ 4 * 3 := Nat.mul_le_mul h1 h2
    _ = 12 := rfl
theorem BOk.pair {B : BD} (h : BOk B) {g : Nat × Nat × List Nat} (hg : g ∈ B.told) {p : Nat × Nat} (hp : p ∈ pairsOf B.places g) : p.1 < B.heavy.length ∧ p.2 < B.heavy.length := by
  obtain ⟨x, hx, rfl⟩ := List.mem_map.mp hp
  obtain ⟨h1, h2, h3, h4⟩ := h.each g hg
  have hx' : x < B.places := List.mem_range.mp hx
  have hy : g.2.2.getD x 0 < B.places := by
    have hl : g.2.2.length = B.places := by rw [h4.length_eq, List.length_range]
    have : g.2.2.getD x 0 ∈ g.2.2 := by
      rw [List.getD_eq_getElem?_getD, List.getElem?_eq_getElem (by omega)]
      exact List.getElem_mem _
    exact List.mem_range.mp (h4.mem_iff.mp this)
  rw [B.heavy_len]
  constructor
  · show g.1 * B.places + x < B.hard.length * B.places
    calc g.1 * B.places + x < g.1 * B.places + B.places := by omega
      _ = (g.1 + 1) * B.places := by rw [Nat.add_mul, Nat.one_mul]
      _ ≤ B.hard.length * B.places := Nat.mul_le_mul_right _ h1
  · show g.2.1 * B.places + g.2.2.getD x 0 < B.hard.length * B.places
    calc g.2.1 * B.places + g.2.2.getD x 0 < g.2.1 * B.places + B.places := by omega
      _ = (g.2.1 + 1) * B.places := by rw [Nat.add_mul, Nat.one_mul]
      _ ≤ B.hard.length * B.places := Nat.mul_le_mul_right _ h2
theorem getD_mem {l : List Int} {i : Nat} (h : i < l.length) : l.getD i 0 ∈ l := by
  rw [List.getD_eq_getElem?_getD, List.getElem?_eq_getElem h]
  exact List.getElem_mem _
theorem BOk.w9 {B : BD} (h : BOk B) {u : Nat} (hu : u < B.heavy.length) : 1 ≤ B.heavy.getD u 0 ∧ B.heavy.getD u 0 ≤ 9 := h.heavy _ (getD_mem hu)
theorem BOk.row {B : BD} (h : BOk B) {r : List (Nat × Nat)} (hr : r ∈ B.meets) {p : Nat × Nat} (hp : p ∈ r) : p.1 < B.heavy.length ∧ p.2 < B.heavy.length := by
  obtain ⟨g, hg, rfl⟩ := List.mem_map.mp hr
  exact h.pair hg hp
theorem BOk.row_len {B : BD} (h : BOk B) {r : List (Nat × Nat)} (hr : r ∈ B.meets) : r.length = B.places := by
  obtain ⟨g, hg, rfl⟩ := List.mem_map.mp hr
  simp [pairsOf]
theorem BD.meets_len (B : BD) : B.meets.length = B.told.length := List.length_map ..

/-! ### a bench stands -/
def bflds (l1 : Addr) (n : Int) (l2 l3 l4 : Addr) : List (Str × V) := [("hard", V.ref l1), ("places", V.int n), ("told", V.ref l2), ("heavy", V.ref l3), ("meets", V.ref l4)]
structure Txt (K : PySem.W.Frag) (mg : Str → Option Value) (C : Addr) : Prop where
  cl : Cls K C
  n_hard : NoAttr K C "hard"
  n_places : NoAttr K C "places"
  n_told : NoAttr K C "told"
  n_heavy : NoAttr K C "heavy"
  n_meets : NoAttr K C "meets"
  m_Bench : mg "Bench" = some (.ref C)
  g_MOST_PLATES : ∃ t, mg "MOST_PLATES" = some (.int 4 t)
  g_MOST_HARDNESS : ∃ t, mg "MOST_HARDNESS" = some (.int 9 t)
  g_MOST_PLACES : ∃ t, mg "MOST_PLACES" = some (.int 3 t)
  g_MOST_GRINDINGS : ∃ t, mg "MOST_GRINDINGS" = some (.int 6 t)
structure BenchAt (K : PySem.W.Frag) (C : Addr) (H : Hp) (b : Addr) (B : BD) : Prop where
  ex : ∃ dx l1 l2 l3 l4, H b = some (.ins C dx (bflds l1 B.places l2 l3 l4)) ∧ SqL K H l1 (B.hard.map V.int) ∧ Dp K H (.ref l2) (.list (B.told.map gD)) ∧ SqL K H l3 (B.heavy.map V.int) ∧ Dp K H (.ref l4) (.list (B.meets.map fun r => .list (r.map pD)))
theorem BenchAt.mono {K : PySem.W.Frag} {C : Addr} {H H' : Hp} {b : Addr} {B : BD} (e : Same H H') (h : BenchAt K C H b B) : BenchAt K C H' b B := by
  obtain ⟨dx, l1, l2, l3, l4, hb, h1, h2, h3, h4⟩ := h.ex
  exact ⟨dx, l1, l2, l3, l4, e _ _ hb, sqL_mono e h1, dp_mono e h2, sqL_mono e h3, dp_mono e h4⟩
theorem fl_hard {l1 l2 l3 l4 : Addr} {n : Int} : (bflds l1 n l2 l3 l4).lookup ("hard" : Str) = some (V.ref l1) := by rfl
theorem fl_places {l1 l2 l3 l4 : Addr} {n : Int} : (bflds l1 n l2 l3 l4).lookup ("places" : Str) = some (V.int n) := by rfl
theorem fl_told {l1 l2 l3 l4 : Addr} {n : Int} : (bflds l1 n l2 l3 l4).lookup ("told" : Str) = some (V.ref l2) := by rfl
theorem fl_heavy {l1 l2 l3 l4 : Addr} {n : Int} : (bflds l1 n l2 l3 l4).lookup ("heavy" : Str) = some (V.ref l3) := by rfl
theorem fl_meets {l1 l2 l3 l4 : Addr} {n : Int} : (bflds l1 n l2 l3 l4).lookup ("meets" : Str) = some (V.ref l4) := by rfl
theorem fl_no {l1 l2 l3 l4 : Addr} {n : Int} : (bflds l1 n l2 l3 l4).lookup ("pair_weights" : Str) = none := by rfl

/-! ### data lists, item by item -/
theorem dpAll_get {K : PySem.W.Frag} {H : Hp} : ∀ {vs : List V} {ds : List PyData} {i : Nat} {d : PyData}, DpAll K H vs ds → ds[i]? = some d → ∃ v, vs[i]? = some v ∧ Dp K H v d
  | _, _, _, _, .nil, h => by simp at h
  | _, _, 0, _, .cons h _, e => by simp at e; subst e; exact ⟨_, rfl, h⟩
  | _, _, i + 1, _, .cons _ t, e => by
    obtain ⟨v, h1, h2⟩ := dpAll_get (i := i) t (by simpa using e)
    exact ⟨v, by simpa using h1, h2⟩
theorem dpAll_len {K : PySem.W.Frag} {H : Hp} : ∀ {vs : List V} {ds : List PyData}, DpAll K H vs ds → vs.length = ds.length
  | _, _, .nil => rfl
  | _, _, .cons _ t => by rw [List.length_cons, List.length_cons, dpAll_len t]
theorem dpAll_of {K : PySem.W.Frag} {H : Hp} : ∀ {vs : List V} {ds : List PyData}, vs.length = ds.length → (∀ (i : Nat) v d, vs[i]? = some v → ds[i]? = some d → Dp K H v d) → DpAll K H vs ds
  | [], [], _, _ => .nil
  | [], _ :: _, h, _ => by simp at h
  | _ :: _, [], h, _ => by simp at h
  | v :: vs, d :: ds, h, f => .cons (f 0 v d rfl rfl) (dpAll_of (by simpa using h) fun i v d h1 h2 => f (i + 1) v d (by simpa using h1) (by simpa using h2))
theorem dp_list {K : PySem.W.Frag} {H : Hp} {a : Addr} {ds : List PyData} (h : Dp K H (.ref a) (.list ds)) : ∃ xs, SqL K H a xs ∧ DpAll K H xs ds := by
  cases h with
  | lst h hs => exact ⟨_, h, hs⟩
theorem dp_tuple {K : PySem.W.Frag} {H : Hp} {a : Addr} {ds : List PyData} (h : Dp K H (.ref a) (.tuple ds)) : ∃ xs, SqT K H a xs ∧ DpAll K H xs ds := by
  cases h with
  | tup h hs => exact ⟨_, h, hs⟩
theorem dp_refT {K : PySem.W.Frag} {H : Hp} {v : V} {ds : List PyData} (h : Dp K H v (.tuple ds)) : ∃ a xs, v = .ref a ∧ SqT K H a xs ∧ DpAll K H xs ds := by
  cases h with
  | tup h hs => exact ⟨_, _, rfl, h, hs⟩
theorem dp_refL {K : PySem.W.Frag} {H : Hp} {v : V} {ds : List PyData} (h : Dp K H v (.list ds)) : ∃ a xs, v = .ref a ∧ SqL K H a xs ∧ DpAll K H xs ds := by
  cases h with
  | lst h hs => exact ⟨_, _, rfl, h, hs⟩
theorem dpAll_ints {K : PySem.W.Frag} {H : Hp} : ∀ {vs : List V} {ns : List Int}, DpAll K H vs (ns.map PyData.int) → vs = ns.map V.int
  | [], [], _ => rfl
  | [], _ :: _, h => by cases h
  | _ :: _, [], h => by cases h
  | v :: vs, n :: ns, h => by
    cases h with
    | cons h1 h2 =>
      cases h1
      rw [dpAll_ints h2]
      rfl
theorem ints_dpAll {K : PySem.W.Frag} {H : Hp} : ∀ (ns : List Int), DpAll K H (ns.map V.int) (ns.map PyData.int)
  | [] => .nil
  | n :: ns => .cons (.int n) (ints_dpAll ns)
theorem pD_at {K : PySem.W.Frag} {H : Hp} {v : V} {p : Nat × Nat} (h : Dp K H v (pD p)) : ∃ a, v = .ref a ∧ SqT K H a [.int p.1, .int p.2] := by
  obtain ⟨a, xs, rfl, h1, h2⟩ := dp_refT h
  have := dpAll_ints (ns := [(p.1 : Int), (p.2 : Int)]) h2
  subst this
  exact ⟨a, rfl, h1⟩
/-- an item of a list of ints at a place -/
theorem at_int {ns : List Int} {i : Nat} (h : i < ns.length) : atI (ns.map V.int) (i : Int) = some (.int (ns.getD i 0)) := by
  refine atI_nat ?_
  rw [List.getElem?_map, List.getElem?_eq_getElem h, List.getD_eq_getElem?_getD, List.getElem?_eq_getElem h]
  rfl
theorem ix_int {n i : Nat} (h : i < n) : ixN n (i : Int) = some i := by
  unfold ixN
  rw [if_pos (by omega), if_pos (by omega)]
  simp
theorem set_map (ns : List Int) (i : Nat) (x : Int) : (ns.map V.int).set i (.int x) = (ns.set i x).map V.int := by rw [List.map_set]

/-! ### what is ground off -/
def tn (s b : Int) : Int := if 0 ≤ s then s / b else -((-s) / b)
def grain (w hs : List Int) (p : Nat × Nat) : Int := tn (hs.getD p.1 0 + hs.getD p.2 0) (w.getD p.1 0 + w.getD p.2 0)
def take1 (w hs : List Int) (p : Nat × Nat) (g : Int) : List Int :=
  (hs.set p.1 (hs.getD p.1 0 - w.getD p.2 0 * g)).set p.2 ((hs.set p.1 (hs.getD p.1 0 - w.getD p.2 0 * g)).getD p.2 0 - w.getD p.1 0 * g)
theorem take1_len (w hs : List Int) (p : Nat × Nat) (g : Int) : (take1 w hs p g).length = hs.length := by simp [take1]
def takeAll (w : List Int) : List Int → List (Nat × Nat) → List Int → List Int
  | hs, p :: ps, g :: gs => takeAll w (take1 w hs p g) ps gs
  | hs, _, _ => hs
theorem takeAll_len (w : List Int) : ∀ (hs : List Int) (ps : List (Nat × Nat)) (gs : List Int), (takeAll w hs ps gs).length = hs.length
  | hs, p :: ps, g :: gs => by rw [takeAll, takeAll_len w _ ps gs, take1_len]
  | hs, [], _ => by rw [takeAll]; intro _ _ _ _ h; cases h
  | hs, _ :: _, [] => by rw [takeAll]; intro _ _ _ _ _ h; cases h
def dust (w hs : List Int) (r : List (Nat × Nat)) : List Int := r.map (grain w hs)
def after (w hs : List Int) (r : List (Nat × Nat)) : List Int := takeAll w hs r (dust w hs r)
def takesOff (w hs : List Int) (r : List (Nat × Nat)) : Bool := r.any fun p => grain w hs p != 0

/-! ### data that may be compared -/
def Sh (n : Nat) (d : PyData) : Prop := d.canLay0 = true ∧ d.depth ≤ n
theorem sh_shaped {n : Nat} {d : PyData} (h : Sh n d) (hn : n ≤ 64 := by decide) : SeqAt.shaped d = true := by
  unfold SeqAt.shaped
  rw [h.1, decide_eq_true (Nat.le_trans h.2 hn)]
  rfl
theorem sh_mono {n m : Nat} {d : PyData} (h : Sh n d) (hn : n ≤ m) : Sh m d := ⟨h.1, Nat.le_trans h.2 hn⟩
theorem sh_int (i : Int) : Sh 0 (.int i) := ⟨rfl, Nat.le_refl _⟩
theorem sh_bool (i : Bool) : Sh 0 (.bool i) := ⟨rfl, Nat.le_refl _⟩
theorem sh_none : Sh 0 .none := ⟨rfl, Nat.le_refl _⟩
theorem sh_all {n : Nat} : ∀ {ds : List PyData}, (∀ d ∈ ds, Sh n d) → PyData.canLayAll0 ds = true ∧ PyData.depthAll ds ≤ n
  | [], _ => ⟨rfl, Nat.zero_le _⟩
  | d :: ds, h => by
    obtain ⟨h1, h2⟩ := h d (List.mem_cons_self ..)
    obtain ⟨h3, h4⟩ := sh_all (ds := ds) fun x hx => h x (List.mem_cons_of_mem _ hx)
    constructor
    · show (PyData.canLay0 d && PyData.canLayAll0 ds) = true
      rw [h1, h3]
      rfl
    · show max (PyData.depth d) (PyData.depthAll ds) ≤ n
      omega
theorem sh_list {n : Nat} {ds : List PyData} (h : ∀ d ∈ ds, Sh n d) : Sh (n + 1) (.list ds) := ⟨(sh_all h).1, Nat.succ_le_succ (sh_all h).2⟩
theorem sh_tuple {n : Nat} {ds : List PyData} (h : ∀ d ∈ ds, Sh n d) : Sh (n + 1) (.tuple ds) := ⟨(sh_all h).1, Nat.succ_le_succ (sh_all h).2⟩
theorem sh_ints (ns : List Int) : ∀ d ∈ ns.map PyData.int, Sh 0 d := fun d h => by
  obtain ⟨n, _, rfl⟩ := List.mem_map.mp h
  exact sh_int n
theorem sh_listI (ns : List Int) : Sh 1 (.list (ns.map PyData.int)) := sh_list (sh_ints ns)
theorem sh_tupleI (ns : List Int) : Sh 1 (.tuple (ns.map PyData.int)) := sh_tuple (sh_ints ns)
theorem eqv_self {n : Nat} {d : PyData} (h : Sh n d) : PyData.eqv d d = true := SeqAt.eqv_refl d h.1
theorem eqvAll_ints : ∀ ns ms : List Int, PyData.eqvAll (ns.map PyData.int) (ms.map PyData.int) = decide (ns = ms)
  | [], [] => rfl
  | [], _ :: _ => rfl
  | _ :: _, [] => rfl
  | n :: ns, m :: ms => by
    show ((n == m) && PyData.eqvAll (ns.map PyData.int) (ms.map PyData.int)) = _
    rw [eqvAll_ints ns ms]
    by_cases h : n = m
    · subst h
      simp
    · simp [h]
theorem dp_tupI {K : PySem.W.Frag} {H : Hp} {a : Addr} {ns : List Int} (h : SqT K H a (ns.map V.int)) : Dp K H (.ref a) (.tuple (ns.map PyData.int)) := .tup h (ints_dpAll ns)
theorem dp_lstI {K : PySem.W.Frag} {H : Hp} {a : Addr} {ns : List Int} (h : SqL K H a (ns.map V.int)) : Dp K H (.ref a) (.list (ns.map PyData.int)) := .lst h (ints_dpAll ns)
end G

namespace G
open PySem PySem.Spec PyProof.Rows L2

/-! ### a state list st that changes from draw to draw -/
def StOk (s : List V) : Prop := (∃ n, s = [.int n]) ∨ ∃ n m c : Int, s = [.int n, .int m, .int c]
structure SExt (st : Addr) (F H F' H' : Hp) : Prop where
  ext : Ext F (del H st) F' (del H' st)
  st : ∃ s', H' st = some (.lst s') ∧ StOk s'
theorem del_same' {H H' : Hp} {a : Addr} (e : Same H H') : Same (del H a) (del H' a) := fun b o h => by
  by_cases z : b = a
  · rw [z, del_same] at h; cases h
  · rw [del_ne z] at h ⊢; exact e b o h
theorem SExt.refl {st : Addr} {F H : Hp} {s : List V} (e : Same F (del H st)) (h : H st = some (.lst s)) (ok : StOk s) : SExt st F H F H := ⟨Ext.refl e, s, h, ok⟩
theorem SExt.trans {st : Addr} {F H F1 H1 F2 H2 : Hp} (a : SExt st F H F1 H1) (b : SExt st F1 H1 F2 H2) : SExt st F H F2 H2 := ⟨a.ext.trans b.ext, b.st⟩
theorem SExt.f0 {st : Addr} {F H F1 H1 : Hp} (a : SExt st F H F1 H1) : F1 st = none := sub_none a.ext.fh del_same
theorem SExt.fh {st : Addr} {F H F1 H1 : Hp} (a : SExt st F H F1 H1) : Same F1 H1 := a.ext.fh.trans del_sub
theorem SExt.ne {st p : Addr} {F H F1 H1 : Hp} (a : SExt st F H F1 H1) (h : H1 p = none) : p ≠ st := fun e => by
  obtain ⟨s, hs, _⟩ := a.st
  rw [e, hs] at h
  cases h
theorem SExt.new {st p : Addr} {F H F1 H1 : Hp} {o : HO} (a : SExt st F H F1 H1) (h : H1 p = none) : SExt st F H (upd F1 p o) (upd H1 p o) := by
  have ne := a.ne h
  obtain ⟨s, hs, ok⟩ := a.st
  refine ⟨?_, s, by rw [upd_ne (Ne.symm ne)]; exact hs, ok⟩
  rw [del_upd_ne ne]
  exact a.ext.new (by rw [del_ne ne]; exact h)
theorem SExt.mut {st p : Addr} {F H F1 H1 : Hp} {o : HO} (a : SExt st F H F1 H1) (h : H1 p = none) : SExt st F H F1 (upd H1 p o) := by
  have ne := a.ne h
  obtain ⟨s, hs, ok⟩ := a.st
  refine ⟨?_, s, by rw [upd_ne (Ne.symm ne)]; exact hs, ok⟩
  rw [del_upd_ne ne]
  exact a.ext.mut (by rw [del_ne ne]; exact h)
theorem SExt.chg {st p : Addr} {F H F1 H1 : Hp} {o : HO} (a : SExt st F H F1 H1) (ne : p ≠ st) (h : H p = none) (hf : F1 p = none) : SExt st F H F1 (upd H1 p o) := by
  obtain ⟨s, hs, ok⟩ := a.st
  refine ⟨?_, s, by rw [upd_ne (Ne.symm ne)]; exact hs, ok⟩
  rw [del_upd_ne ne]
  exact a.ext.chg (by rw [del_ne ne]; exact h) hf
theorem SExt.frz {st p : Addr} {F H F1 H1 : Hp} {o : HO} (a : SExt st F H F1 H1) (ne : p ≠ st) (h : H p = none) (hf : F1 p = none) (ho : H1 p = some o) : SExt st F H (upd F1 p o) H1 :=
  ⟨a.ext.frz (by rw [del_ne ne]; exact h) hf (by rw [del_ne ne]; exact ho), a.st⟩
/-- a def that changes nothing that stood -/
theorem SExt.pure {st : Addr} {F H F1 H1 F2 H2 : Hp} (a : SExt st F H F1 H1) (b : Ext F1 H1 F2 H2) : SExt st F H F2 H2 := by
  obtain ⟨s, hs, ok⟩ := a.st
  have f2 : F2 st = none := b.fr st (by rw [hs]; simp) a.f0
  refine ⟨a.ext.trans ⟨del_same' b.hh, b.ff, fun c o h => ?_, fun c h1 h2 => ?_⟩, s, b.hh _ _ hs, ok⟩
  · have : c ≠ st := fun z => by rw [z, f2] at h; cases h
    rw [del_ne this]
    exact b.fh c o h
  · by_cases z : c = st
    · rw [z]; exact f2
    · rw [del_ne z] at h1
      exact b.fr c h1 h2
/-- what stands beside the state stays -/
theorem SExt.keep {st b : Addr} {F H F1 H1 : Hp} {o : HO} (a : SExt st F H F1 H1) (ne : b ≠ st) (h : H b = some o) : H1 b = some o := by
  have := a.ext.hh b o (by rw [del_ne ne]; exact h)
  rw [del_ne ne] at this
  exact this
theorem SExt.fr {st b : Addr} {F H F1 H1 : Hp} (a : SExt st F H F1 H1) (ne : b ≠ st) (h : H b ≠ none) (hf : F b = none) : F1 b = none := a.ext.fr b (by rw [del_ne ne]; exact h) hf
theorem SExt.back {st p : Addr} {F H F1 H1 : Hp} (a : SExt st F H F1 H1) (h : H1 p = none) : H p = none := by
  have ne := a.ne h
  have := a.ext.hh.free (l := p) (by rw [del_ne ne]; exact h)
  rw [del_ne ne] at this
  exact this
section
variable {K : PySem.W.Frag} {σ : L2.St} {H F : Hp} {Q : VK} {te : TE} {nx bk ct : L2.St → Hp → Prop} {ts us : TS}
/-- what a statement reaches, told ahead of what follows -/
theorem s_cut (R : L2.St → Hp → Prop) (h : ∀ U : L2.St → Hp → Prop, (∀ σ' H', R σ' H' → U σ' H') → ts ⟨U, Q, bk, ct⟩ σ H) (k : ∀ σ' H', R σ' H' → us ⟨nx, Q, bk, ct⟩ σ' H') : tSeq ts us ⟨nx, Q, bk, ct⟩ σ H := h _ k
theorem lc_mapS {st : Addr} {J : It} {n : Nat} {G : Hp → Prop} {Y : Nat → Hp → V → Hp → Prop} (w : Walk J n G Y) {F0 H0 F H1 : Hp} {g : TG} {vs : List Nat} (h01 : SExt st F0 H0 F H1) (hn : n < 100000) (hG : ∀ H', Same F H' → G H')
    (R : Nat → Hp → V → Prop) (Rm : ∀ i H H' v, Same H H' → R i H v → R i H' v)
    (turn : ∀ i x F' H H' D (Z : VK), i < n → SExt st F H1 F' H → F' D = none → H D ≠ none → D ≠ st → Y i H x H' → (∀ y F4 H4, SExt st F' H F4 H4 → R i F4 y → Z y H4) → g x (wipe σ vs) H' fun σ2 H2 => wipe σ2 vs = wipe σ vs ∧ te σ2 H2 Z)
    (fin : ∀ D ys F' H', H1 D = none → SExt st F H1 F' H' → F' D = some (.lst ys) → ys.length = n → (∀ i v, ys[i]? = some v → R i F' v) → Q (.ref D) H') :
    LcB J g tYes te vs σ H1 Q := by
  intro D hD
  have nD : D ≠ st := h01.ne hD
  obtain ⟨s1, hs1, ok1⟩ := h01.st
  have r1 : SExt st F H1 F H1 := SExt.refl h01.ext.fh hs1 ok1
  refine lc_it w (fun i H => ∃ F' acc, SExt st F H1 F' H ∧ F' D = none ∧ H D = some (.lst acc) ∧ acc.length = i ∧ ∀ j v, acc[j]? = some v → R j F' v) ?_ ?_ ?_ ?_
  · exact ⟨F, [], r1.mut hD, sub_none r1.fh hD, upd_same, rfl, fun j v h => by simp at h⟩
  · rintro i H _ ⟨F', acc, e, _⟩
    exact hG H (e.ext.ff.trans e.fh)
  · rintro i x H H' hi ⟨F', acc, e, fd, hd, hl, hr⟩ y
    refine turn i x F' H H' D _ hi e fd (by rw [hd]; simp) nD y fun z F4 H4 e4 r4 => ?_
    have hd4 := e4.keep nD hd
    have fd4 := e4.fr nD (by rw [hd]; simp) fd
    refine ⟨acc, hd4, Nat.lt_of_lt_of_le (show acc.length < 100000 by omega) (by decide), F4, acc ++ [z], (e.trans e4).chg nD hD fd4, fd4, upd_same, by simp [hl], ?_⟩
    intro j v hv
    by_cases hj : j < acc.length
    · rw [List.getElem?_append_left hj] at hv
      exact Rm _ _ _ _ e4.ext.ff (hr j v hv)
    · have : j = acc.length := by
        have := (List.getElem?_eq_some_iff.mp hv).1
        simp at this
        omega
      subst this
      rw [List.getElem?_append_right (Nat.le_refl _)] at hv
      simp at hv
      rw [← hv, hl]
      exact r4
  · rintro H ⟨F', acc, e, fd, hd, hl, hr⟩
    exact fin D acc (upd F' D (.lst acc)) H hD (e.frz nD hD fd hd) upd_same hl fun i v hv => Rm _ _ _ _ (same_upd fd) (hr i v hv)
theorem s_disp {trs : List (TE × TE)} (h : ∀ p, H p = none → tPairs trs σ (upd H p (.dK [])) fun ps H2 => H2 p = some (.dK []) ∧ ∃ kvs : List (Key × V), ps = kvs.map (fun kv => (kV kv.1, kv.2)) ∧ kvs.length ≤ 15 ∧ Q (.ref p) (upd H2 p (.dK (mergeK [] kvs)))) : tDisp trs σ H Q := h
theorem s_pc {tk tv : TE} {trs : List (TE × TE)} {QP : List (V × V) → Hp → Prop} (h : tk σ H fun k H1 => tv σ H1 fun v H2 => tPairs trs σ H2 fun ps H3 => QP ((k, v) :: ps) H3) : tPairs ((tk, tv) :: trs) σ H QP := h
theorem s_pn {QP : List (V × V) → Hp → Prop} (h : QP [] H) : tPairs [] σ H QP := h
end
/-! ### the law's own bench: a dict -/
def mkvs (l1 : Addr) (n : Int) (l2 l3 l4 : Addr) : List (Key × V) := [(Sum.inr "hard", .ref l1), (Sum.inr "places", .int n), (Sum.inr "told", .ref l2), (Sum.inr "heavy", .ref l3), (Sum.inr "meets", .ref l4)]
/-- a grinding told: its turn is a tuple that is known by its object (so that .index may be asked of it) -/
def Gx (K : PySem.W.Frag) (F : Hp) (v : V) (g : Nat × Nat × List Nat) : Prop := ∃ a t ob, v = .ref a ∧ SqT K F a [.int (g.1 : Int), .int (g.2.1 : Int), .ref t] ∧ F t = some (.frz ob (.tup ((g.2.2.map fun (x : Nat) => (x : Int)).map V.int))) ∧ ob.dict = none
theorem Gx.mono {K : PySem.W.Frag} {H H' : Hp} {v : V} {g : Nat × Nat × List Nat} (e : Same H H') (h : Gx K H v g) : Gx K H' v g := by
  obtain ⟨a, t, ob, rfl, h1, h2, h3⟩ := h
  exact ⟨a, t, ob, rfl, sqT_mono e h1, e _ _ h2, h3⟩
inductive TXs (K : PySem.W.Frag) (F : Hp) : List V → List (Nat × Nat × List Nat) → Prop
  | nil : TXs K F [] []
  | cons {v : V} {g : Nat × Nat × List Nat} {vs : List V} {gs : List (Nat × Nat × List Nat)} : Gx K F v g → TXs K F vs gs → TXs K F (v :: vs) (g :: gs)
theorem TXs.mono {K : PySem.W.Frag} {H H' : Hp} (e : Same H H') : ∀ {vs : List V} {gs : List (Nat × Nat × List Nat)}, TXs K H vs gs → TXs K H' vs gs
  | _, _, .nil => .nil
  | _, _, .cons h t => .cons (h.mono e) (t.mono e)
theorem TXs.take {K : PySem.W.Frag} {H : Hp} : ∀ {vs : List V} {gs : List (Nat × Nat × List Nat)} (n : Nat), TXs K H vs gs → TXs K H (vs.take n) (gs.take n)
  | _, _, 0, _ => .nil
  | _, _, _ + 1, .nil => .nil
  | _, _, n + 1, .cons h t => .cons h (t.take n)
def TX (K : PySem.W.Frag) (F : Hp) (l : Addr) (gs : List (Nat × Nat × List Nat)) : Prop := ∃ vs, SqL K F l vs ∧ TXs K F vs gs
theorem TX.mono {K : PySem.W.Frag} {H H' : Hp} {l : Addr} {gs : List (Nat × Nat × List Nat)} (e : Same H H') (h : TX K H l gs) : TX K H' l gs := by
  obtain ⟨vs, h1, h2⟩ := h
  exact ⟨vs, sqL_mono e h1, h2.mono e⟩
structure ModelAt (K : PySem.W.Frag) (F : Hp) (m : Addr) (B : BD) : Prop where
  ix : ∃ l1 l2 l3 l4, F m = some (.dK (mkvs l1 B.places l2 l3 l4)) ∧ TX K F l2 B.told
  ex : ∃ l1 l2 l3 l4, F m = some (.dK (mkvs l1 B.places l2 l3 l4)) ∧ SqL K F l1 (B.hard.map V.int) ∧ Dp K F (.ref l2) (.list (B.told.map gD)) ∧ SqL K F l3 (B.heavy.map V.int) ∧ Dp K F (.ref l4) (.list (B.meets.map fun r => .list (r.map pD)))
theorem ModelAt.mono {K : PySem.W.Frag} {H H' : Hp} {b : Addr} {B : BD} (e : Same H H') (h : ModelAt K H b B) : ModelAt K H' b B := by
  obtain ⟨l1, l2, l3, l4, hb, h1, h2, h3, h4⟩ := h.ex
  obtain ⟨m1, m2, m3, m4, hc, h5⟩ := h.ix
  exact ⟨⟨m1, m2, m3, m4, e _ _ hc, h5.mono e⟩, l1, l2, l3, l4, e _ _ hb, sqL_mono e h1, dp_mono e h2, sqL_mono e h3, dp_mono e h4⟩
theorem mv_hard {l1 l2 l3 l4 : Addr} {n : Int} : valV (mkvs l1 n l2 l3 l4) (Sum.inr "hard") = some (V.ref l1) := by rfl
theorem mv_places {l1 l2 l3 l4 : Addr} {n : Int} : valV (mkvs l1 n l2 l3 l4) (Sum.inr "places") = some (V.int n) := by rfl
theorem mv_told {l1 l2 l3 l4 : Addr} {n : Int} : valV (mkvs l1 n l2 l3 l4) (Sum.inr "told") = some (V.ref l2) := by rfl
theorem mv_heavy {l1 l2 l3 l4 : Addr} {n : Int} : valV (mkvs l1 n l2 l3 l4) (Sum.inr "heavy") = some (V.ref l3) := by rfl
theorem mv_meets {l1 l2 l3 l4 : Addr} {n : Int} : valV (mkvs l1 n l2 l3 l4) (Sum.inr "meets") = some (V.ref l4) := by rfl
theorem merge_mkvs {l1 l2 l3 l4 : Addr} {n : Int} : mergeK [] (mkvs l1 n l2 l3 l4) = mkvs l1 n l2 l3 l4 := by rfl
end G

namespace G
open PySem PySem.Spec PyProof.Rows L2
/-! ### what is ground off, place by place -/
def Apart (p q : Nat × Nat) : Prop := p.1 ≠ q.1 ∧ p.1 ≠ q.2 ∧ p.2 ≠ q.1 ∧ p.2 ≠ q.2
structure Disj (r : List (Nat × Nat)) : Prop where
  own : ∀ p ∈ r, p.1 ≠ p.2
  two : r.Pairwise Apart
theorem mul_lt_apart {a b n x y : Nat} (h : a ≠ b) (hx : x < n) (hy : y < n) : a * n + x ≠ b * n + y := by
  intro e
  rcases Nat.lt_or_gt_of_ne h with h | h
  · have : (a + 1) * n ≤ b * n := Nat.mul_le_mul_right _ h
    rw [Nat.add_mul, Nat.one_mul] at this
    omega
  · have : (b + 1) * n ≤ a * n := Nat.mul_le_mul_right _ h
    rw [Nat.add_mul, Nat.one_mul] at this
    omega
theorem BOk.disj {B : BD} (h : BOk B) {r : List (Nat × Nat)} (hr : r ∈ B.meets) : Disj r := by
  obtain ⟨g, hg, rfl⟩ := List.mem_map.mp hr
  obtain ⟨h1, h2, h3, h4⟩ := h.each g hg
  have nd : g.2.2.Nodup := h4.nodup_iff.mpr List.nodup_range
  have len : g.2.2.length = B.places := by rw [h4.length_eq, List.length_range]
  have lt : ∀ x, x < B.places → ∃ hx : x < g.2.2.length, g.2.2.getD x 0 = g.2.2[x] ∧ g.2.2[x] < B.places := fun x hx => by
    have hx' : x < g.2.2.length := by omega
    refine ⟨hx', by rw [List.getD_eq_getElem?_getD, List.getElem?_eq_getElem hx']; rfl, ?_⟩
    exact List.mem_range.mp (h4.mem_iff.mp (List.getElem_mem hx'))
  constructor
  · intro p hp
    obtain ⟨x, hx, rfl⟩ := List.mem_map.mp hp
    obtain ⟨hx', e, l⟩ := lt x (List.mem_range.mp hx)
    exact mul_lt_apart h3 (List.mem_range.mp hx) (by rw [e]; exact l)
  · refine List.pairwise_map.mpr (List.Pairwise.imp_of_mem (fun {x y} hx hy hxy => ?_) List.pairwise_lt_range)
    have hx1 := List.mem_range.mp hx
    have hy1 := List.mem_range.mp hy
    obtain ⟨hx', ex, lx⟩ := lt x hx1
    obtain ⟨hy', ey, ly⟩ := lt y hy1
    refine ⟨?_, ?_, ?_, ?_⟩
    · show g.1 * B.places + x ≠ g.1 * B.places + y; omega
    · exact mul_lt_apart h3 hx1 (by rw [ey]; exact ly)
    · exact mul_lt_apart (Ne.symm h3) (by rw [ex]; exact lx) hy1
    · show g.2.1 * B.places + g.2.2.getD x 0 ≠ g.2.1 * B.places + g.2.2.getD y 0
      intro e
      have e2 : g.2.2[x] = g.2.2[y] := by rw [← ex, ← ey]; omega
      have := (List.getElem_inj nd).mp e2
      omega
theorem getD_set (l : List Int) (i j : Nat) (x : Int) : (l.set i x).getD j 0 = if i = j ∧ i < l.length then x else l.getD j 0 := by
  rw [List.getD_eq_getElem?_getD, List.getElem?_set, List.getD_eq_getElem?_getD]
  by_cases h : i = j
  · subst h
    by_cases h2 : i < l.length
    · simp [h2]
    · simp [h2]
  · simp [h]
theorem take1_out (w hs : List Int) (p : Nat × Nat) (g : Int) (j : Nat) (h1 : p.1 ≠ j) (h2 : p.2 ≠ j) : (take1 w hs p g).getD j 0 = hs.getD j 0 := by
  unfold take1
  rw [getD_set, getD_set]
  simp [h1, h2]
theorem take1_fst (w hs : List Int) (p : Nat × Nat) (g : Int) (h : p.1 ≠ p.2) (h1 : p.1 < hs.length) : (take1 w hs p g).getD p.1 0 = hs.getD p.1 0 - w.getD p.2 0 * g := by
  unfold take1
  rw [getD_set, getD_set]
  simp [Ne.symm h, h1]
theorem take1_snd (w hs : List Int) (p : Nat × Nat) (g : Int) (h : p.1 ≠ p.2) (h2 : p.2 < hs.length) : (take1 w hs p g).getD p.2 0 = hs.getD p.2 0 - w.getD p.1 0 * g := by
  unfold take1
  rw [getD_set, getD_set]
  simp [h, h2]
theorem takeAll_out (w : List Int) (j : Nat) : ∀ (r : List (Nat × Nat)) (gs hs : List Int), (∀ p ∈ r, p.1 ≠ j ∧ p.2 ≠ j) → (takeAll w hs r gs).getD j 0 = hs.getD j 0
  | [], _, hs, _ => by cases hs <;> simp [takeAll]
  | _ :: _, [], hs, _ => by simp [takeAll]
  | p :: r, g :: gs, hs, h => by
    rw [takeAll, takeAll_out w j r gs _ fun q hq => h q (List.mem_cons_of_mem _ hq)]
    obtain ⟨h1, h2⟩ := h p (List.mem_cons_self ..)
    exact take1_out w hs p g j h1 h2
theorem takeAll_at (w : List Int) : ∀ (r : List (Nat × Nat)) (gs hs : List Int) (i : Nat) (p : Nat × Nat) (g : Int), Disj r → (∀ p ∈ r, p.1 < hs.length ∧ p.2 < hs.length) → r[i]? = some p → gs[i]? = some g →
    (takeAll w hs r gs).getD p.1 0 = hs.getD p.1 0 - w.getD p.2 0 * g ∧ (takeAll w hs r gs).getD p.2 0 = hs.getD p.2 0 - w.getD p.1 0 * g
  | [], _, _, _, _, _, _, _, h, _ => by simp at h
  | _ :: _, [], _, _, _, _, _, _, _, h => by simp at h
  | q :: r, g' :: gs, hs, 0, p, g, d, hin, h1, h2 => by
    have e1 : q = p := by simpa using h1
    have e2 : g' = g := by simpa using h2
    subst e1 e2
    have tw := List.pairwise_cons.mp d.two
    have ow := d.own q (List.mem_cons_self ..)
    obtain ⟨l1, l2⟩ := hin q (List.mem_cons_self ..)
    rw [takeAll, takeAll_out w q.1 r gs _ fun z hz => ⟨Ne.symm (tw.1 z hz).1, Ne.symm (tw.1 z hz).2.1⟩, takeAll_out w q.2 r gs _ fun z hz => ⟨Ne.symm (tw.1 z hz).2.2.1, Ne.symm (tw.1 z hz).2.2.2⟩]
    exact ⟨take1_fst w hs q g' ow l1, take1_snd w hs q g' ow l2⟩
  | q :: r, g' :: gs, hs, i + 1, p, g, d, hin, h1, h2 => by
    have tw := List.pairwise_cons.mp d.two
    have hp : p ∈ r := List.mem_of_getElem? (by simpa using h1)
    have ap := tw.1 p hp
    obtain ⟨i1, i2⟩ := takeAll_at w r gs (take1 w hs q g') i p g ⟨fun z hz => d.own z (List.mem_cons_of_mem _ hz), tw.2⟩ (fun z hz => by rw [take1_len]; exact hin z (List.mem_cons_of_mem _ hz)) (by simpa using h1) (by simpa using h2)
    rw [takeAll]
    rw [i1, i2, take1_out w hs q g' p.1 ap.1 ap.2.2.1, take1_out w hs q g' p.2 ap.2.1 ap.2.2.2]
    exact ⟨rfl, rfl⟩
theorem take1_zero (w hs : List Int) (p : Nat × Nat) : take1 w hs p 0 = hs := by
  have e : ∀ (l : List Int) (i : Nat), l.set i (l.getD i 0) = l := fun l i => by
    refine List.ext_getElem? fun j => ?_
    rw [List.getElem?_set]
    by_cases h : i = j
    · subst h
      by_cases h2 : i < l.length
      · simp [h2]
      · simp [h2]
    · simp [h]
  unfold take1
  simp only [Int.mul_zero, Int.sub_zero, e]
theorem takeAll_zero (w : List Int) : ∀ (r : List (Nat × Nat)) (gs hs : List Int), (∀ g ∈ gs, g = 0) → takeAll w hs r gs = hs
  | [], _, hs, _ => by cases hs <;> simp [takeAll]
  | _ :: _, [], hs, _ => by simp [takeAll]
  | p :: r, g :: gs, hs, h => by
    have : g = 0 := h g (List.mem_cons_self ..)
    subst this
    rw [takeAll, take1_zero, takeAll_zero w r gs hs fun g hg => h g (List.mem_cons_of_mem _ hg)]
/-- something is taken off just where the heights change -/
theorem takes_iff {B : BD} (ok : BOk B) {r : List (Nat × Nat)} (hr : r ∈ B.meets) {hs : List Int} (hl : hs.length = B.heavy.length) : decide (after B.heavy hs r = hs) = !takesOff B.heavy hs r := by
  by_cases h : ∀ p ∈ r, grain B.heavy hs p = 0
  · have e1 : after B.heavy hs r = hs := takeAll_zero _ _ _ _ fun g hg => by
      obtain ⟨p, hp, rfl⟩ := List.mem_map.mp hg
      exact h p hp
    have e2 : takesOff B.heavy hs r = false := by
      unfold takesOff
      rw [List.any_eq_false]
      intro p hp
      simp [h p hp]
    rw [e2, decide_eq_true e1]
    rfl
  · simp only [Classical.not_forall] at h
    obtain ⟨p, hp, hg⟩ := h
    have e2 : takesOff B.heavy hs r = true := by
      unfold takesOff
      rw [List.any_eq_true]
      exact ⟨p, hp, by simp [hg]⟩
    have e1 : after B.heavy hs r ≠ hs := fun e => by
      obtain ⟨i, hi⟩ := List.getElem?_of_mem hp
      have hin := fun q hq => ok.row hr (p := q) hq
      have := (takeAll_at B.heavy r (dust B.heavy hs r) hs i p (grain B.heavy hs p) (ok.disj hr) (fun q hq => by rw [hl]; exact hin q hq) hi (by simp [dust, hi])).1
      unfold after at e
      rw [e] at this
      have w1 := ok.heavy _ (show B.heavy.getD p.2 0 ∈ B.heavy by
        rw [List.getD_eq_getElem?_getD, List.getElem?_eq_getElem (hin p hp).2]
        exact List.getElem_mem _)
      have z : B.heavy.getD p.2 0 * grain B.heavy hs p = 0 := by omega
      rcases Int.mul_eq_zero.mp z with z | z
      · omega
      · exact hg z
    rw [e2, decide_eq_false e1]
    rfl
/-- what stays of a sum -/
theorem tn_left {s b : Int} (hb : 0 < b) : (s - b * tn s b).natAbs < b.natAbs ∧ 0 ≤ (s - b * tn s b) * s := by
  unfold tn
  by_cases h : 0 ≤ s
  · rw [if_pos h]
    have e := Int.emod_add_mul_ediv s b
    have h1 := Int.emod_nonneg s (show b ≠ 0 by omega)
    have h2 := Int.emod_lt_of_pos s hb
    have : s - b * (s / b) = s % b := by omega
    rw [this]
    exact ⟨by omega, Int.mul_nonneg h1 h⟩
  · rw [if_neg h]
    have e := Int.emod_add_mul_ediv (-s) b
    have h1 := Int.emod_nonneg (-s) (show b ≠ 0 by omega)
    have h2 := Int.emod_lt_of_pos (-s) hb
    have : s - b * (-(-s / b)) = -((-s) % b) := by rw [Int.mul_neg]; omega
    rw [this]
    refine ⟨by omega, ?_⟩
    have := Int.mul_nonneg h1 (show 0 ≤ -s by omega)
    rw [Int.mul_neg] at this
    rw [Int.neg_mul]
    exact this
theorem tn_law (s b : Int) : (if 0 < s then (if s < 0 then -s else s) / b else 0 - (if s < 0 then -s else s) / b) = tn s b := by
  unfold tn
  by_cases h : 0 < s
  · rw [if_pos h, if_neg (by omega), if_pos (by omega)]
  · rw [if_neg h]
    by_cases h2 : s < 0
    · rw [if_pos h2, if_neg (by omega)]
      omega
    · have : s = 0 := by omega
      subst this
      simp
end G

namespace G
open PySem PySem.Spec PyProof.Rows L2

/-! ### an instance's own __eq__, __len__; != by it -/
section
variable {X : Cx} {k : Nat} {C : Addr} {ps : List Str} {sp : Sp} {pins : List (Addr × Obj)} {σ : L2.St} {H : Hp} {s : Shared}
theorem run_at {f : Addr} {fd : FuncData} {Q : VK} {us : List Value} {vs : List V} {A : Around} (F : FnOk X.prog X.w X.K X.mg X.base CX0 k f fd ps sp) (hA : A.frames = X.A.frames) (hr : Room k A) (hb : Binds X.K fd ps [])
    (I : Inv X pins σ H s) (r : Vals vs us) (h : sp vs H Q E0) : wpAny (model X.prog X.w) A (call (.ref f) us) (EP X pins σ Q) X.xe s := by
  have hl : us.length = ps.length := by rw [← r.length]; exact F.len _ _ _ _ h
  have e := I.env0
  have e0 : Env0 X.prog X.w X.K X.mg X.base A X.stack s H := ⟨by rw [hA]; exact e.frames, e.mod, e.bs, e.bsz, e.funs, e.frf, e.hok, e.bare⟩
  refine wpAny_call (codeAny_mono (F.run A X.stack s H ⟨us, []⟩ us vs Q E0 hr e0 (by
    have := hb s us I.kIn (by simpa using hl)
    simpa using this) r h) fun r s' hq => ?_)
  cases r with
  | error e => exact pass0 pins σ H s e s' I hq
  | ok fl =>
    cases fl with
    | ret u => exact I.after hq
    | next => exact False.elim hq
    | brk => exact False.elim hq
    | cont => exact False.elim hq
def rOwnEq (K : PySem.W.Frag) (C : Addr) (sp : Sp) (g : Bool → Bool) : R2 := fun x y H Q => ∃ a dx fs ty, x = .ref a ∧ H a = some (.ins C dx fs) ∧ TyX K H y ty ∧ PySem.W.notFirst K C ty = true ∧ sp [x, y] H (fun v H' => ∃ b, v = .bl b ∧ Q (.bl (g b)) H') E0
theorem op_ownEq (D : DefM X.prog X.w X.K X.mg X.base k C "__eq__" ps sp) (hr : Room k X.A) : OpR X (compareOp .Eq) (rOwnEq X.K C sp id) := by
  intro pins s σ H x y v u Q I rx ry h
  obtain ⟨a, dx, fs, ty, rfl, ha, hty, nf, hsp⟩ := h
  obtain rfl : v = Value.ref a := rx
  obtain ⟨f, fd, F, hb, hm⟩ := D.ex
  obtain ⟨mA, J, _⟩ := ins_get I.hok ha
  obtain ⟨od, J, _⟩ := J.look
  obtain ⟨m, hF⟩ := I.fr
  obtain ⟨PH, KX, hPH, _⟩ := kit_of I ry hty
  show wpAny (model X.prog X.w) X.A (richCompare .Eq (.ref a) u) (EP X pins σ Q) X.xe s
  refine PySem.W.cmp_K (op := .Eq) (tb := ty) hr.units0 hF I.ok.mod.kin J (KX.ty _ _ I.kIn hPH) nf hm.1 hm.2 ?_
  refine wpAny_mono (run_at (vs := [.ref a, y]) F rfl hr hb I (.cons rfl (.cons ry .nil)) hsp) (fun r s' hq => ?_) fun _ _ e => e
  obtain ⟨z, H', I', rz, b, rfl, q⟩ := hq
  obtain rfl : r = Value.bool b := rz
  exact ⟨.bl b, H', I', rfl, q⟩
theorem op_ownNe (D : DefM X.prog X.w X.K X.mg X.base k C "__eq__" ps sp) (hr : Room (k + 2) X.A) (hne : PySem.W.findIn X.K (.ref C) "__ne__" = some (some (.builtin "object.__ne__"))) (hob : PySem.W.mroIn X.K C (.type "object") = some true) : OpR X (compareOp .NotEq) (rOwnEq X.K C sp not) := by
  intro pins s σ H x y v u Q I rx ry h
  obtain ⟨a, dx, fs, ty, rfl, ha, hty, nf, hsp⟩ := h
  obtain rfl : v = Value.ref a := rx
  obtain ⟨f, fd, F, hb, hm⟩ := D.ex
  obtain ⟨mA, J, _⟩ := ins_get I.hok ha
  obtain ⟨od, J, _⟩ := J.look
  obtain ⟨m, hF⟩ := I.fr
  obtain ⟨PH, KX, hPH, _⟩ := kit_of I ry hty
  have hX := I.kIn
  show wpAny (model X.prog X.w) X.A (richCompare .NotEq (.ref a) u) (EP X pins σ Q) X.xe s
  have two : wpAny (model X.prog X.w) X.A.in1 (callSpecialIfBound? (.ref a) (Str.ofString "__eq__") [u]) (fun r s' => ∃ b, r = some (Value.bool b) ∧ EP X pins σ Q (Value.bool (!b)) s') X.xe s := by
    refine PySem.W.ifBound_K hX J hm.1 hm.2 ?_
    refine wpAny_mono (run_at (vs := [.ref a, y]) F rfl ((hr.mono (show k + 1 ≤ k + 2 by omega)).in1) hb I (.cons rfl (.cons ry .nil)) hsp) (fun r s' hq => ?_) fun _ _ e => e
    obtain ⟨z, H', I', rz, b, rfl, q⟩ := hq
    obtain rfl : r = Value.bool b := rz
    exact ⟨b, rfl, .bl (!b), H', I', rfl, q⟩
  have three : wpAny (model X.prog X.w) X.A (call (.builtin "object.__ne__") [.ref a, u]) (fun v s' => ∃ b, v = Value.bool b ∧ EP X pins σ Q v s') X.xe s := by
    refine wpAny_call (codeAny_call_builtin (by decide +kernel) PySem.F.cmpEntry_ne (PySem.W.check_slot PySem.F.cmpKind_ne PySem.F.cmpSplit_ne (J.type.andThen (PySem.W.looks_mroIn hX hob)) (PySem.F.cmpArgs_ne _ _) ?_))
    unfold Builtin.«object.__ne__»
    refine wpAny_bind (m := slotArgs "__ne__" 1 _) (wpAny_pure ?_)
    refine wpAny_bind (wpAny_cRoomFor (show X.A.in1.units < cLine from by have := hr.un; show X.A.units + 1 < _; omega) ?_)
    refine wpAny_bind (m := callSpecialIfBound? (.ref a) (Str.ofString "__eq__") [u]) (wpAny_mono two (fun r s' h => ?_) fun _ _ e => e)
    obtain ⟨b, rfl, h⟩ := h
    refine wpAny_bind (m := truthy (.bool b)) (wpAny_truthy_bool ?_)
    exact wpAny_pure ⟨_, rfl, h⟩
  have one : wpAny (model X.prog X.w) X.A (tryCompare (.ref a) "__ne__" u) (fun r s' => ∃ v, r = some v ∧ EP X pins σ Q v s') X.xe s := by
    unfold tryCompare
    refine wpAny_bind ?_
    have fin : wpAny (model X.prog X.w) X.A (call (.builtin "object.__ne__") ([.ref a] ++ [u]) >>= fun v => pure (some v)) (fun r s' => ∃ b, r = some (Value.bool b) ∧ EP X pins σ Q (Value.bool b) s') X.xe s := wpAny_bind (wpAny_mono three (fun v s' h' => by obtain ⟨b, rfl, h'⟩ := h'; exact wpAny_pure ⟨b, rfl, h'⟩) fun _ _ h' => h')
    have mid : wpAny (model X.prog X.w) X.A (callSpecialIfBound? (.ref a) "__ne__" [u]) (fun r s' => ∃ b, r = some (Value.bool b) ∧ EP X pins σ Q (Value.bool b) s') X.xe s := by
      simp only [callSpecialIfBound?, bindSpecialIfBound?]
      refine wpAny_holding (wpAny_bind (wpAny_bind (wpAny_bind (J.type.here ((PySem.W.looks_findIn hX hne).here ?_)))))
      refine wpAny_bind (wpAny_askSetting (wpAny_ite ?_))
      split
      · refine wpAny_bind ?_
        rw [PySem.F.slot_object_ne.bind]
        exact wpAny_pure (wpAny_pure fin)
      · refine wpAny_tryCatch (wpAny_bind ?_)
        rw [PySem.F.slot_object_ne.bind]
        exact wpAny_pure (wpAny_pure fin)
    refine wpAny_mono mid (fun r s' h => ?_) fun _ _ e => e
    obtain ⟨b, rfl, h⟩ := h
    exact wpAny_pure ⟨_, rfl, h⟩
  unfold richCompare
  simp only [oneThing_ref]
  refine wpAny_holding (wpAny_bind (wpAny_cRoomFor hr.units0 ?_))
  refine wpAny_bind (J.type.here (wpAny_bind ((KX.ty _ _ I.kIn hPH).here ?_)))
  split
  · rename_i q
    have e : PySem.W.subIn X.K ty (.ref C) = some false := by
      rcases Bool.or_eq_true_iff.mp nf with e | e
      · rw [beq_iff_eq.mp e] at q; simp at q
      · exact beq_iff_eq.mp e
    refine wpAny_bind ((PySem.W.looks_subIn hX e).here ?_)
    simp only [Bool.false_eq_true, if_false]
    refine wpAny_bind (wpAny_mono one (fun r s' z => ?_) fun _ _ e => e)
    obtain ⟨v, rfl, hq⟩ := z
    exact wpAny_pure hq
  · refine wpAny_bind (wpAny_pure ?_)
    simp only [Bool.false_eq_true, if_false]
    refine wpAny_bind (wpAny_mono one (fun r s' z => ?_) fun _ _ e => e)
    obtain ⟨v, rfl, hq⟩ := z
    exact wpAny_pure hq
/-- len(o) by an own __len__ -/
def rOwnLen (C : Addr) (sp : Sp) : List V → Hp → VK → Prop := fun vs H Q => ∃ a dx fs, vs = [.ref a] ∧ H a = some (.ins C dx fs) ∧ sp vs H (fun v H' => ∃ n : Nat, v = .int n ∧ n < 1000000 ∧ Q (.int n) H') E0
theorem call_ownLen (D : DefM X.prog X.w X.K X.mg X.base k C "__len__" ps sp) (hr : Room (k + 1) X.A) : CallR X (.builtin "len") (rOwnLen C sp) := by
  intro pins s σ H vs us Q I r h
  obtain ⟨a, dx, fs, rfl, ha, hsp⟩ := h
  obtain ⟨f, fd, F, hb, hm⟩ := D.ex
  obtain ⟨mA, J, _⟩ := ins_get I.hok ha
  obtain ⟨od, J, _⟩ := J.look
  obtain ⟨m, hF⟩ := I.fr
  cases r with
  | cons r1 r2 =>
    cases r2
    obtain rfl := r1
    refine PySem.W.len_K hF I.ok.mod.kin J hm.1 hm.2 ?_
    refine wpAny_mono (run_at (vs := [.ref a]) F rfl hr.in1 hb I (.cons rfl .nil) hsp) (fun r s' hq => ?_) fun _ _ e => e
    obtain ⟨z, H', I', rz, n, rfl, hn, q⟩ := hq
    obtain ⟨t, rfl⟩ := rz
    refine ⟨⟨by omega, by omega⟩, .int n, H', I'.tok _, ⟨_, rfl⟩, q⟩
/-! ### == of two dicts of the same keys, their values data -/
def rEqDK (K : PySem.W.Frag) : R2 := fun x y H Q => ∃ a b kvs lvs ds es, x = .ref a ∧ y = .ref b ∧ H a = some (.dK kvs) ∧ H b = some (.dK lvs) ∧ kvs.map (·.1) = lvs.map (·.1) ∧ (kvs.map (·.1)).Nodup ∧ DpAll K H (kvs.map (·.2)) ds ∧ DpAll K H (lvs.map (·.2)) es ∧
  (∀ d ∈ ds, SeqAt.shaped d = true) ∧ (∀ d ∈ es, SeqAt.shaped d = true) ∧ Q (.bl (PyData.eqvAll ds es)) H
theorem valV_at {κ : Type} [DecidableEq κ] : ∀ {lvs : List (κ × V)} {i : Nat} {k : κ} {w : V}, (lvs.map (·.1)).Nodup → lvs[i]? = some (k, w) → valV lvs k = some w
  | [], _, _, _, _, h => by simp at h
  | p :: lvs, 0, k, w, _, h => by
    have : p = (k, w) := by simpa using h
    subst this
    simp [valV]
  | p :: lvs, i + 1, k, w, nd, h => by
    have h' : lvs[i]? = some (k, w) := by simpa using h
    rw [List.map_cons, List.nodup_cons] at nd
    have ne : ¬ p.1 = k := fun e => nd.1 (by rw [e]; exact List.mem_map.mpr ⟨_, List.mem_of_getElem? h', rfl⟩)
    have ih := valV_at nd.2 h'
    unfold valV at ih ⊢
    rw [List.find?_cons_of_neg (by simpa using ne)]
    exact ih
theorem hits_data {A : Around} (I : Inv X pins σ H s) (hu : A.units + 65 < cLine) {lvs : List (Key × V)} {vb : List (Key × Value)} (rb : KV lvs vb) : ∀ {kvs : List (Key × V)} {va : List (Key × Value)} {ds es : List PyData}, KV kvs va → DpAll X.K H (kvs.map (·.2)) ds →
    es.length = kvs.length → (∀ (i : Nat) key v e, kvs[i]? = some (key, v) → es[i]? = some e → ∃ w, valV lvs key = some w ∧ Dp X.K H w e) → (∀ d ∈ ds, SeqAt.shaped d = true) → (∀ d ∈ es, SeqAt.shaped d = true) → PySem.W.KeqHitsP X.prog X.w A s vb va (PyData.eqvAll ds es)
  | [], _, ds, es, ra, hd, hl, _, _, _ => by
    cases ra
    cases hd
    cases es with
    | nil => exact .nil
    | cons _ _ => simp at hl
  | (k, v) :: kvs, va, ds, es, ra, hd, hl, f, s1, s2 => by
    cases hd with
    | cons h1 h2 =>
      cases es with
      | nil => simp at hl
      | cons e es =>
        cases ra with
        | cons r1 r2 =>
          rename_i d ds q qs
          obtain ⟨qk, qv⟩ := q
          obtain ⟨e1, e2⟩ := r1
          have e1' : k = qk := e1
          subst e1'
          obtain ⟨w, hw, dw⟩ := f 0 k v e rfl rfl
          have rr : RelO (some w) (valueAt vb k) := by rw [← hw]; exact rb.val k
          obtain ⟨y, hy, ry⟩ := rr.some_of
          have t1 := s1 d List.mem_cons_self
          have t2 := s2 e List.mem_cons_self
          obtain ⟨as, q1⟩ := Dp.reads I d v qv h1 e2
          obtain ⟨bs, q2⟩ := Dp.reads I e w y dw ry
          show PySem.W.KeqHitsP _ _ _ _ _ _ (PyData.eqv d e && PyData.eqvAll ds es)
          refine .hit hy (SeqAt.eqAt_reads d e A s qv y as bs q1 q2 (SeqAt.canLay_of_shaped t1) (SeqAt.canLay_of_shaped t2) (SeqAt.room_of_shaped t1 (by omega))).eqP ?_
          exact hits_data I hu rb r2 h2 (by simpa using hl) (fun i key v e a b => f (i + 1) key v e (by simpa using a) (by simpa using b)) (fun d hd => s1 d (List.mem_cons_of_mem _ hd)) (fun d hd => s2 d (List.mem_cons_of_mem _ hd))
theorem op_eqDK (hu : X.A.units + 66 < cLine) : OpR X (compareOp .Eq) (rEqDK X.K) := by
  intro pins s σ H x y v u Q I rx ry h
  obtain ⟨a, b, kvs, lvs, ds, es, rfl, rfl, ha, hb, hk, nd, hd, he, s1, s2, q⟩ := h
  obtain rfl : v = Value.ref a := rx
  obtain rfl : u = Value.ref b := ry
  obtain ⟨_, ya, va, ra, da⟩ := (show ObjOk X.prog X.w H s.heap a (.dK kvs) from I.hok a _ ha)
  obtain ⟨_, yb, vb, rb, db⟩ := (show ObjOk X.prog X.w H s.heap b (.dK lvs) from I.hok b _ hb)
  have kl : kvs.length = lvs.length := by
    have := congrArg List.length hk
    simpa using this
  have el : es.length = lvs.length := by
    have := dpAll_len he
    simpa using this.symm
  show wpAny (model X.prog X.w) X.A (richCompare .Eq (.ref a) (.ref b)) (EP X pins σ Q) X.xe s
  refine PySem.W.rcP_dicts (knd := mixKind X.prog X.w) (r := PyData.eqvAll ds es) ya yb da db (by omega) (fun _ => hits_data (A := X.A.in1) I (by show X.A.units + 1 + 65 < cLine; omega) rb ra hd (by omega) (fun i key w e h1 h2 => ?_) s1 s2) _ _ ?_
  · obtain ⟨w', h3, h4⟩ := dpAll_get (i := i) he h2
    rw [List.getElem?_map] at h3
    cases hl : lvs[i]? with
    | none => rw [hl] at h3; cases h3
    | some p =>
      rw [hl] at h3
      cases h3
      have k2 : (lvs.map (·.1))[i]? = some key := by rw [← hk, List.getElem?_map, h1]; rfl
      rw [List.getElem?_map, hl] at k2
      have k3 : p.1 = key := by simpa using k2
      exact ⟨p.2, valV_at (hk ▸ nd) (by rw [hl, ← k3]), h4⟩
  · have e : va.length = vb.length := by rw [← ra.length, ← rb.length]; exact kl
    rw [show (va.length == vb.length && PyData.eqvAll ds es) = PyData.eqvAll ds es from by rw [e]; simp]
    exact ⟨.bl _, H, I, rfl, q⟩
end
end G

namespace G
open PySem PySem.Spec PyProof.Rows L2
/-! ### tuples cut and put together -/
theorem k_catA {X : Cx} {K : PySem.W.Frag} (h : X.K = K) : OpR X (binaryOp .Add) (rCatA K) := by
  subst h
  exact op_catA
abbrev rAddA (K : PySem.W.Frag) : R2 := fun x y H Q => rAddU K x y H Q ∨ rCatA K x y H Q
theorem k_addA {X : Cx} {K : PySem.W.Frag} (h : X.K = K) : OpR X (binaryOp .Add) (rAddA K) := op_or (k_add h) (k_catA h)
theorem s_catA {K : PySem.W.Frag} {st a b : Addr} {F0 H0 F H : Hp} {xs ys : List V} {Q : VK} (r : SExt st F0 H0 F H) (ha : SqT K F a xs) (hb : SqT K F b ys) (hz : xs.length + ys.length ≤ 1000) (q : ∀ p F' H', SExt st F0 H0 F' H' → Same F F' → SqT K F' p (xs ++ ys) → Q (.ref p) H') : rAddA K (.ref a) (.ref b) H Q := by
  refine .inr ⟨a, b, xs, ys, rfl, rfl, sqT_mono r.fh ha, sqT_mono r.fh hb, Nat.le_trans hz (by decide), fun e => ?_, fun _ e => ?_, fun _ _ p np => ?_⟩
  · subst e
    exact q b F H r (Same.refl _) hb
  · subst e
    exact q a F H r (Same.refl _) (by rw [List.append_nil]; exact ha)
  · exact q p _ _ (r.new np) (same_upd (sub_none r.fh np)) rT_at
theorem cut_from (ns : List Int) (n : Nat) (h : n ≤ ns.length) : cutV (ns.map V.int) (some (n : Int)) none = (ns.drop n).map V.int := by
  unfold cutV
  rw [HT.sIx_none, HT.sIx_nat]
  rw [List.length_map, Nat.min_eq_left h, List.take_of_length_le (by rw [List.length_drop, List.length_map]; omega), List.map_drop]
theorem s_cutT {K : PySem.W.Frag} {st a : Addr} {F0 H0 F H : Hp} {ns : List Int} {lo hi : Option Int} {ms : List Int} {Q : VK} (r : SExt st F0 H0 F H) (ha : SqT K F a (ns.map V.int)) (hw : ¬ (HT.sIx ns.length 0 lo = 0 ∧ HT.sIx ns.length ns.length hi = ns.length)) (hc : cutV (ns.map V.int) lo hi = ms.map V.int)
    (q : ∀ p F' H', SExt st F0 H0 F' H' → Same F F' → SqT K F' p (ms.map V.int) → Q (.ref p) H') : rSlU K (.ref a) lo hi H Q := by
  refine .inr ⟨a, _, rfl, sqT_mono r.fh ha, by rw [List.length_map]; exact hw, fun p np => ?_⟩
  rw [hc]
  exact q p _ _ (r.new np) (same_upd (sub_none r.fh np)) rT_at
theorem nw_hi {n k : Nat} (h : k < n) : ¬ (HT.sIx n 0 none = 0 ∧ HT.sIx n n (some (k : Int)) = n) := by
  rw [HT.sIx_nat]
  omega
theorem nw_lo {n k : Nat} (h : 1 ≤ k) (hn : 1 ≤ n) : ¬ (HT.sIx n 0 (some (k : Int)) = 0 ∧ HT.sIx n n none = n) := by
  rw [HT.sIx_nat]
  omega
/-! ### xs.extend(ys), ys any list -/
section
open AutoSeq1 (wpAny_loadPart')
theorem list_extend_any (l : Addr) (items : Array Value) (n : Nat) (b : Addr) (items2 : Array Value) (n2 : Nat) (dd2 : Option Addr) (sl2 : Array (Option Value)) (hc0 : ¬(!items.isEmpty && Builtin.List.listTooLong (items.size + items2.size)) = true) (hc1 : items.size ≤ sizeLine) (hs2 : items.size + items2.size ≤ sizeLine + 1) :
    Meets (Builtin.«list.extend» ⟨[.ref l, .ref b], []⟩) (fun _ R s => s.heap.get? l = some { cls := .type "list", dict := none, data := .seq items n, slots := #[] } ∧ s.heap.get? b = some { cls := .type "list", dict := dd2, data := .seq items2 n2, slots := sl2 } ∧ R (.ok (.ret Value.none)) { s with heap := s.heap.update l (Obj.mapSeq fun x => x ++ items2), toks := s.toks }) :=
  .of_wp fun prog w A R s h => by
    obtain ⟨hp, g, d, tk, os⟩ := s
    obtain ⟨hl, hb, h⟩ := h
    have f1 := AutoSeq1.idx_int
    have f2 := AutoSeq1.sub_tuple_tuple
    have f3 := AutoSeq1.sub_list_list
    have f4 := AutoSeq1.sub_tuple_list
    have f5 := AutoSeq1.sub_list_tuple
    have hz' : (items ++ items2).size ≤ sizeLine + 1 := by rw [Array.size_append]; exact hs2
    wp_walk using (wpAny_updateSeq hl rfl (hz := hc1) (_hz' := hz')), wpAny_loadPart' hl, wpAny_loadPart' hb
    exact ⟨_, rfl, h⟩
end
def rExtendS (K : PySem.W.Frag) : V → List V → Hp → VK → Prop := fun x vs H Q => ∃ l b xs zs, x = .ref l ∧ vs = [.ref b] ∧ H l = some (.lst xs) ∧ SqL K H b zs ∧ xs.length + zs.length ≤ 100000 ∧ Q .non (upd H l (.lst (xs ++ zs)))
theorem mt_extendS {X : Cx} : MtR X "list.extend" (rExtendS X.K) := by
  intro pins s σ H x vs v us Q I rx rv h
  obtain ⟨l, b, xs, zs, rfl, rfl, hH, hB, hz, q⟩ := h
  have hz : xs.length + zs.length ≤ sizeLine := Nat.le_trans hz (by decide)
  cases rx
  obtain ⟨u, rfl, ru⟩ := rv.one
  cases ru
  obtain ⟨z, its, n, r, hl, e⟩ := I.lstM hH
  obtain ⟨its2, r2, ⟨⟨oc, od, dt, sl⟩, n2, e2, hc, _, hd⟩, _⟩ := I.list hB
  dsimp only at hc hd
  subst hc hd
  have hl2 := r2.length
  have hsz : its.toArray.size + its2.toArray.size ≤ sizeLine := by rw [List.size_toArray, List.size_toArray]; omega
  have hlong : ¬ (!its.toArray.isEmpty && Builtin.List.listTooLong (its.toArray.size + its2.toArray.size)) = true := by
    rw [notLongL hsz, Bool.and_false]
    exact Bool.false_ne_true
  refine call_meets F.slot_list_extend ⟨_, e, rfl⟩ F.entry_list_extend (F.args_list_extend_2 _ _)
    (list_extend_any l its.toArray n b its2.toArray n2 od sl hlong (by rw [List.size_toArray]; omega) (by omega)) ⟨e, e2, ?_⟩
  refine ⟨.non, _, I.lset (its' := its ++ its2) hH e (by simp) (r.append r2) ?_, rfl, q⟩
  rw [List.length_append]
  omega
theorem k_extendS {X : Cx} {K : PySem.W.Frag} (h : X.K = K) : MtR X "list.extend" (rExtendS K) := by subst h; exact mt_extendS
theorem s_extS {K : PySem.W.Frag} {H : Hp} {p b : Addr} {xs ys : List V} {Q : VK} (h : H p = some (.lst xs)) (hb : SqL K H b ys) (hl : xs.length + ys.length ≤ 100000) (q : Q .non (upd H p (.lst (xs ++ ys)))) : rExtendS K (.ref p) [.ref b] H Q := ⟨p, b, xs, ys, rfl, rfl, h, hb, hl, q⟩
end G

namespace G
open PySem PySem.Spec PyProof.Rows L2
/-! ### enumerate of a list or a tuple -/
theorem meets_enumB {v : Value} {o : Obj} {H : Heap → Prop} (B : Begins v o H) :
    Meets (Builtin.«enumerate.__new__» ⟨[.type "enumerate", v], []⟩) (fun _ R s => H s.heap ∧
      R (.ok (.ret (.ref (s.heap.push o).objs.size))) { s with heap := (s.heap.push o).push { cls := .type "enumerate", data := .fields #[.none, .bool false, .ref s.heap.objs.size, rawInt 0, .none, .none] } }) :=
  .of_wp fun prog w A R s h => by
    obtain ⟨hp, g, d, tk, os⟩ := s
    obtain ⟨h1, h⟩ := h
    have hsub := sub_enumerate
    have q1 : ∀ {A' : Around} {E : Value → Shared → Prop} {Q : Value → Shared → Prop}, Q (.ref hp.objs.size) ⟨hp.push o, g, d, tk, os⟩ → wpAny (model prog w) A' (pyIter v) Q E ⟨hp, g, d, tk, os⟩ :=
      fun q => B.iter prog w _ _ ⟨hp, g, d, tk, os⟩ _ h1 q
    wp_walk using q1
    refine wpAny_stack_any fun st => wpAny_pure ?_
    split
    · rename_i c _ _ _ _ _
      cases (c == Value.type "enumerate")
      · wp_walk using q1
        exact ⟨_, rfl, h⟩
      · wp_walk using q1
        exact ⟨_, rfl, h⟩
    · wp_walk using q1
      exact ⟨_, rfl, h⟩
theorem enum_begins1 {prog : Program} {w : World} {A : Around} {E : Value → Shared → Prop} {s : Shared} {v : Value} {o : Obj} {H : Heap → Prop} {Q : Value → Shared → Prop} (B : Begins v o H) (h1 : H s.heap)
    (h : ∀ h', IsEnum h' (s.heap.objs.size + 1) s.heap.objs.size 0 .none → h'.get? s.heap.objs.size = some o → h'.objs.size = s.heap.objs.size + 2 →
      (∀ b o, s.heap.get? b = some o → h'.get? b = some o) → Q (.ref (s.heap.objs.size + 1)) { s with heap := h' }) :
    wpAny (model prog w) A (call (.type "enumerate") [v]) Q E s := by
  refine callType_new F.called_enumerate (by decide) (F.typeCall_enumerate_1 _) (F.newCall_enumerate_1 _) (fun obj => F.args_object_init_2 obj _) F.entry_enumerate_new (meets_enumB B) ⟨h1, ?_⟩
  have hz : (s.heap.push o).objs.size = s.heap.objs.size + 1 := Heap.size_push ..
  show _ ∧ _
  rw [hz]
  have he : IsEnum ((s.heap.push o).push { cls := .type "enumerate", data := .fields #[.none, .bool false, .ref s.heap.objs.size, rawInt 0, .none, .none] }) (s.heap.objs.size + 1) s.heap.objs.size 0 .none := by
    have := Heap.get?_push_size (s.heap.push o) (o := { cls := .type "enumerate", data := .fields #[.none, .bool false, .ref s.heap.objs.size, rawInt 0, .none, .none] }) rfl
    rw [hz] at this
    exact this
  refine ⟨⟨_, he, rfl⟩, h _ he (Heap.get?_push_of_some _ (Heap.get?_push_size _ B.free)) (by rw [Heap.size_push, hz]) fun b o x => Heap.get?_push_of_some _ (Heap.get?_push_of_some _ x)⟩
def IteM (j : Bool) (K : PySem.W.Frag) (a : Addr) : It :=
  ⟨fun i H => ∃ (xs : List V) (x : V), SqB j K H a xs ∧ xs[i]? = some x, fun i H v H' => ∃ T x, v = .ref T ∧ H T = none ∧ H' = upd H T (.tup [.int (i : Nat), x]) ∧ ∀ xs, SqB j K H a xs → xs[i]? = some x, fun i H => ∃ xs : List V, SqB j K H a xs ∧ xs.length = i⟩
theorem turn_enumM {P : Program} {w : World} {K : PySem.W.Frag} {j : Bool} {elts : List Expr} {kk : Nat} {tpos : Pos} (a e it : Addr) (nai : a ≠ it) (nea : e ≠ a) (nei : e ≠ it) :
    Turn P w K (.Tuple elts kk tpos) (IteM j K a) [e, it] e (fun i h => (∃ old, IsEnum h e it ((i : Nat) : Int) old) ∧ ItB j h it a i) where
  mem := by simp
  obj := fun i h st b hb => by
    obtain ⟨⟨old, he⟩, hi⟩ := st
    have e' : b = e ∨ b = it := by simpa using hb
    rcases e' with z | z
    · rw [z]; exact ⟨_, he, fun v q => nomatch q⟩
    · rw [z]; exact hi.obj
  keep := fun i h h' st k => let ⟨⟨old, he⟩, hi⟩ := st; ⟨⟨old, k e (by simp) _ he⟩, hi.at fun o q => k it (by simp) o q⟩
  item := by
    intro X hP hw hK hc i pins s σ H E I hf st hg
    subst hP hw hK
    obtain ⟨⟨old, he⟩, hit⟩ := st
    obtain ⟨xs, x, hq, hx⟩ := hg
    obtain ⟨its, rv, p, hz⟩ := sqb_at I hq
    obtain ⟨u, hu, ru⟩ := rv.get hx
    have hel : e < s.heap.objs.size := Heap.lt_size he
    have hil : it < s.heap.objs.size := by obtain ⟨_, q, _⟩ := hit.obj; exact Heap.lt_size q
    have l1 : i < its.toArray.size := by rw [List.size_toArray]; exact (List.getElem?_eq_some_iff.mp hu).1
    refine wpAny_pyNext_enum_itemD (drawsB (A := X.A.in1) j (I.ok.hd hc) it a nai its.toArray) he ⟨hit, p⟩ l1 nei (by simp [nei, nea]) fun y h' tk ey ho hit' hT hsz hk => ?_
    have ew : y = u := by
      have : its[i]? = some y := by simpa using ey
      rw [hu] at this
      exact (Option.some.inj this).symm
    subst ew
    refine ⟨_, rfl, wpAny_letOwnedTupleGo_enum (s := { s with heap := h', toks := tk + 1 }) ho fun h'' he' sb => ?_⟩
    have hT2 : h''.get? s.heap.objs.size = some { cls := .type "tuple", data := .seq #[.int i tk, y] } := (sb.2 _ (Nat.ne_of_gt hel)).trans hT
    have new : ObjOk X.prog X.w (upd H s.heap.objs.size (.tup [.int (i : Nat), x])) h'' s.heap.objs.size (.tup [.int (i : Nat), x]) :=
      ⟨by show 2 ≤ sizeLine; decide, [.int i tk, y], .cons ⟨_, rfl⟩ (.cons ru .nil), ⟨_, hT2, rfl, _, rfl⟩⟩
    have I1 : Inv X pins σ (upd H s.heap.objs.size (.tup [.int (i : Nat), x])) { s with heap := h'', toks := tk + 1 } :=
      I.turnedNew (t' := tk + 1) (ch := [e, it]) (fun b ob hb q => (sb.2 b (fun z => hb (by simp [z]))).trans (hk b ob (fun z => hb (by simp [z])) (fun z => hb (by simp [z])) q)) hf (Nat.le_refl _) new
    refine ⟨.ref s.heap.objs.size, _, I1, rfl, ⟨_, x, rfl, I.hok.fresh (Nat.le_refl _), rfl, fun ys hy => by rw [sqb_inj I hy hq]; exact hx⟩, ⟨⟨y, ?_⟩, hit'.1.at fun o q => (sb.2 it (Ne.symm nei)).trans q⟩, fun b hb => ?_⟩
    · have e1 : ((i + 1 : Nat) : Int) = (i : Int) + 1 := by omega
      rw [e1]
      exact he'
    · have hb' : b < s.heap.objs.size := by
        have e' : b = e ∨ b = it := by simpa using hb
        rcases e' with z | z
        · rw [z]; exact hel
        · rw [z]; exact hil
      rw [upd_ne (Nat.ne_of_lt hb')]
      exact (hf b hb).1
  done := by
    intro X hP hw hK hc i pins s σ H E I hf st hg
    subst hP hw hK
    obtain ⟨⟨old, he⟩, hit⟩ := st
    obtain ⟨xs, hq, hx⟩ := hg
    obtain ⟨its, rv, p, hz⟩ := sqb_at I hq
    obtain ⟨f0, f1, f2, f3, f4, f5⟩ := hf it (by simp)
    have hl : its.toArray.size = i := by rw [List.size_toArray, ← hx]; exact rv.length.symm
    exact wpAny_pyNext_enum_endD (drawsB (A := X.A.in1) j (I.ok.hd hc) it a nai its.toArray) he (by rw [hl]; exact ⟨hit, p⟩) fun h' eb => ⟨rfl, I.turned (t' := s.toks) (fun b o hb q => eb b o hb q) f0 f1 f3 f4 f5⟩
  self := fun A i s Q E st h => let ⟨⟨_, he⟩, _⟩ := st; wpAny_pyIter_enum he h
def iEnumM (K : PySem.W.Frag) (ta : TA) : TI := fun σ H R => ta σ H fun vs H1 => ∃ j a xs, vs = [.ref a] ∧ SqB j K H1 a xs ∧ R (IteM j K a) H1
theorem pi_enumM {X : Cx} {e : Expr} {ta : TA} {p pos tpos : Pos} {elts : List Expr} {kk : Nat} (hg : Gl X "enumerate") (hm : X.mg "enumerate" = none) (ha : PA X [e] ta) (hs : starEach [e] X.env = [(false, eval e X.env)] := by rfl) :
    PI X (.Tuple elts kk tpos) (.Call (.Name "enumerate" p) [e] [] pos) (iEnumM X.K ta) := by
  refine ⟨fun pins s σ H R I h => ?_⟩
  refine Call_ (ld_blt I hg hm boot_enumerate (PyProof.Rows.callWith_type1 (thn (ha.run pos pins s σ H _ I h) fun us s1 ⟨vs, H1, I1, r1, q1⟩ => ?_) hs rfl))
  obtain ⟨j, a, xs, ex, hq, q⟩ := q1
  subst ex
  cases r1 with
  | cons r rr =>
    cases rr
    cases r
    obtain ⟨its, rv, p', hz⟩ := sqb_at I1 hq
    refine enum_begins1 (beginsB j a its.toArray) p' fun h' he hit hsz hk => wpAny_pyIter_enum he ?_
    have I2 : Inv X pins σ H1 { s1 with heap := h' } := I1.kept (t' := s1.toks) hk
    have hib : ItB j h' s1.heap.objs.size a 0 := by
      cases j with
      | true => exact ⟨_, hit, rfl, rfl⟩
      | false => exact ⟨_, hit, rfl, rfl⟩
    refine ⟨s1.heap.objs.size + 1, [s1.heap.objs.size + 1, s1.heap.objs.size], _, _, H1, rfl, I2, turn_enumM (j := j) a (s1.heap.objs.size + 1) s1.heap.objs.size (Nat.ne_of_lt hz) (Nat.ne_of_gt (Nat.lt_succ_of_lt hz)) (Nat.succ_ne_self _), ⟨⟨.none, he⟩, hib⟩, fun b hb => ?_, q⟩
    have e' : b = s1.heap.objs.size + 1 ∨ b = s1.heap.objs.size := by simpa using hb
    have hle : s1.heap.objs.size ≤ b := by
      rcases e' with z | z
      · rw [z]; exact Nat.le_add_right _ _
      · rw [z]; exact Nat.le_refl _
    exact I1.fpOk hle (I1.hok.fresh hle)
theorem k_enumM {X : Cx} {K : PySem.W.Frag} {e : Expr} {ta : TA} {p pos tpos : Pos} {elts : List Expr} {kk : Nat} (h : X.K = K) (hg : Gl X "enumerate") (hm : X.mg "enumerate" = none) (ha : PA X [e] ta) (hs : starEach [e] X.env = [(false, eval e X.env)] := by rfl) :
    PI X (.Tuple elts kk tpos) (.Call (.Name "enumerate" p) [e] [] pos) (iEnumM K ta) := by subst h; exact pi_enumM hg hm ha hs
theorem s_ienumM {K : PySem.W.Frag} {σ : L2.St} {H : Hp} {tr : TA} {R : It → Hp → Prop} (h : tr σ H fun vs H1 => ∃ j a xs, vs = [.ref a] ∧ SqB j K H1 a xs ∧ R (IteM j K a) H1) : iEnumM K tr σ H R := h
theorem walk_enumT {K : PySem.W.Frag} {a : Addr} {xs : List V} : Walk (IteM false K a) xs.length (fun H => SqT K H a xs) (YPair (fun i => some (.int (i : Nat))) (fun i => xs[i]?)) := by
  refine ⟨fun i _ hi q => ⟨xs, xs[i], q, by simp [hi]⟩, fun _ q => ⟨xs, q, rfl⟩, fun i H v H' _ q y => ?_⟩
  obtain ⟨T, x, h1, h2, h3, h4⟩ := y
  exact ⟨T, .int (i : Nat), x, h1, h2, h3, rfl, h4 xs q⟩
/-! ### min of a list of whole numbers -/
theorem k_min {X : Cx} {K : PySem.W.Frag} (h : X.K = K) (hc : X.calm = true) : CallR X (.builtin "min") (rMin K) := by subst h; exact cr_min hc
theorem bb_min : bootBuiltins "min" = some (.builtin "min") := by decide +kernel
end G

namespace G
open PySem PySem.Spec PyProof.Rows L2
/-! ### for .. in d.items(), the keys of d being tuples -/
/-- the pairs of the locked dict at d, each a new tuple -/
def ItiT (d : Addr) (o : Obj) (kvs : List (List Key × V)) : It :=
  ⟨fun i H => H d = some (.frz o (.dT kvs)) ∧ i < kvs.length, fun i H x H' => ∃ (T q : Addr) (k : List Key) (v : V), kvs[i]? = some (k, v) ∧ x = .ref T ∧ H T = none ∧ H q = some (.tup (k.map kV)) ∧ H' = upd H T (.tup [.ref q, v]), fun i H => H d = some (.frz o (.dT kvs)) ∧ kvs.length ≤ i⟩
section
variable {X : Cx} {pins : List (Addr × Obj)} {σ : L2.St} {H : Hp} {s : Shared} {d : Addr} {o : Obj}
theorem frzT2 {kvs : List (List Key × V)} (I : Inv X pins σ H s) (h : H d = some (.frz o (.dT kvs))) :
    (d == sysModules) = false ∧ s.heap.get? d = some o ∧ o.ExactDict ∧ ∃ (es : Array DictEntry) (ep : Nat), o.data = .dict es ep ∧ es.size = kvs.length ∧
      ∀ (i : Nat) (k : List Key) (v : V), kvs[i]? = some (k, v) → ∃ (en : DictEntry) (q : Addr), es[i]? = some en ∧ en.key = .ref q ∧ H q = some (.tup (k.map kV)) ∧ RelV v en.val := by
  obtain ⟨hd, z, hs, xs, pr, o', es, ep, ho, hx, hdt, he, _⟩ := I.hok d _ h
  rw [hd] at ho
  cases ho
  refine ⟨hs, hd, hx, es, ep, hdt, ?_, fun i k v e => ?_⟩
  · have l1 : es.size = xs.length := size_of_entries he
    have l2 : kvs.length = xs.length := Paired.length pr
    omega
  · obtain ⟨b, hb, e1, e2, e3⟩ := L2.paired_get pr e
    have q := entry_at he i
    rw [hb] at q
    exact ⟨_, b.2.1, q, rfl, e2, e3⟩
end
section
variable {P : Program} {w : World} {K : PySem.W.Frag} {d : Addr} {o : Obj} {es : Array DictEntry} {ep : Nat}
theorem turn_itemsT {kvs : List (List Key × V)} {elts : List Expr} {kk : Nat} {tpos : Pos} (it : Addr) (hod : o.data = .dict es ep) :
    Turn P w K (.Tuple elts kk tpos) (ItiT d o kvs) [it] it (fun i h => ∃ ok ov, h.get? it = some (DVw.itmOb d .none i kvs.length ep ok ov)) where
  mem := by simp
  obj := fun i h st b hb => by
    have e : b = it := by simpa using hb
    subst e
    obtain ⟨ok, ov, e⟩ := st
    exact ⟨_, e, fun v z => nomatch z⟩
  keep := fun i h h' st k => let ⟨ok, ov, e⟩ := st; ⟨ok, ov, k it (by simp) _ e⟩
  item := by
    intro X hP hw hK hc i pins s σ H E I hf st hg
    subst hP hw hK
    obtain ⟨hd, hi⟩ := hg
    obtain ⟨hs, hgd, hx, es', ep', hdt, hsz, ent⟩ := frzT2 I hd
    obtain ⟨rfl, rfl⟩ := dict_ep hod hdt
    obtain ⟨⟨k, v⟩, hkv⟩ : ∃ p, kvs[i]? = some p := ⟨kvs[i], List.getElem?_eq_getElem hi⟩
    obtain ⟨en, q, hen, hkey, hq, ru⟩ := ent i k v hkv
    obtain ⟨ok, ov, hit⟩ := st
    have hlt : it < s.heap.objs.size := Heap.lt_size hit
    refine DVw.itm_item hit hgd hdt hsz hen fun h' b1 b2 b3 b4 => ?_
    refine ⟨_, rfl, wpAny_letOwnedTupleGo_items (s := { s with heap := h' }) (d := d) (i := i + 1) (n := kvs.length) (ep := ep') (ok := en.key) (ov := en.val) b1 fun h'' he' sb => ?_⟩
    have hT2 : h''.get? s.heap.objs.size = some { cls := .type "tuple", data := .seq #[en.key, en.val] } := (sb.2 _ (Nat.ne_of_gt hlt)).trans b2
    have new : ObjOk X.prog X.w (upd H s.heap.objs.size (.tup [.ref q, v])) h'' s.heap.objs.size (.tup [.ref q, v]) :=
      ⟨by show 2 ≤ sizeLine; decide, [en.key, en.val], .cons (by rw [hkey]; rfl) (.cons ru .nil), ⟨_, hT2, rfl, _, rfl⟩⟩
    have I1 : Inv X pins σ (upd H s.heap.objs.size (.tup [.ref q, v])) { s with heap := h'' } :=
      I.turnedNew (t' := s.toks) (ch := [it]) (fun b ob hb z => (sb.2 b (by simpa using hb)).trans (b4 b ob (by simpa using hb) z)) hf (Nat.le_refl _) new
    refine ⟨.ref s.heap.objs.size, _, I1, rfl, ⟨_, q, k, v, hkv, rfl, I.hok.fresh (Nat.le_refl _), hq, rfl⟩, ⟨en.key, en.val, he'⟩, fun b hb => ?_⟩
    have z : b = it := by simpa using hb
    rw [z, upd_ne (Nat.ne_of_lt hlt)]
    exact (hf it (by simp)).1
  done := by
    intro X hP hw hK hc i pins s σ H E I hf st hg
    subst hP hw hK
    obtain ⟨hd, hi⟩ := hg
    obtain ⟨f0, f1, f2, f3, f4, f5⟩ := hf it (by simp)
    obtain ⟨hs, hgd, hx, es', ep', hdt, hsz, ent⟩ := frzT2 I hd
    obtain ⟨rfl, rfl⟩ := dict_ep hod hdt
    obtain ⟨ok, ov, hit⟩ := st
    have he : es'[i]? = none := Array.getElem?_eq_none (by rw [hsz]; exact hi)
    exact DVw.itm_end (I.ok.hd hc) hit hgd hdt hsz he fun h' eb => ⟨rfl, I.turned (t' := s.toks) (fun b ob hb e => eb b ob hb e) f0 f1 f3 f4 f5⟩
  self := fun A i s Q E st h => let ⟨_, _, e⟩ := st; PySem.W.kcp_self e h
end
def iItemsT (td : TE) : TI := fun σ H R => td σ H fun x H1 => ∃ d o kvs, x = .ref d ∧ H1 d = some (.frz o (.dT kvs)) ∧ R (ItiT d o kvs) H1
section
variable {X : Cx} {e : Expr} {td : TE} {apos cpos : Pos}
theorem pi_itemsT {elts : List Expr} {kk : Nat} {tpos : Pos} (he : PE X e td) (hbase : attributeBase e "items" X.env (eval e X.env) = eval e X.env := by rfl) (hline : (apos.endLine == cpos.line) = true := by rfl) :
    PI X (.Tuple elts kk tpos) (.Call (.Attribute e "items" apos) [] [] cpos) (iItemsT td) := by
  refine ⟨fun pins s σ H R I h => ?_⟩
  refine wpAny_Call_method (T := "dict") (id := "dict.items") hbase rfl hline PySem.F.plainAttrs_dict PySem.F.slot_dict_items PySem.F.type_dict_items (thn (he.run pins s σ H _ I h) fun u s1 ⟨x, H1, I1, rx, d, o, kvs, ex, hd, q⟩ => ?_)
  subst ex
  obtain rfl : u = Value.ref d := rx
  obtain ⟨hs, hgd, hx, es, ep, hdt, hsz, ent⟩ := frzT2 I1 hd
  have raw : DT.Raw s1.heap d es ep := ⟨o, hgd, hx, hdt⟩
  refine ⟨raw.typeIs, fun a ea => by cases ea; exact ⟨o, hgd, hx.2.1⟩, ?_⟩
  have I2 : Inv X pins σ H1 { s1 with heap := s1.heap.push { cls := .type "dict_items", data := .fields #[.ref d] } } := I1.kept (t' := s1.toks) fun b ob q => Heap.get?_push_of_some _ q
  have fin : wpAny (model X.prog X.w) X.A (pyIter (.ref s1.heap.objs.size)) (PIE X pins σ (.Tuple elts kk tpos) R) X.xe { s1 with heap := s1.heap.push { cls := .type "dict_items", data := .fields #[.ref d] } } := by
    refine DT.iterI (d := d) ⟨_, Heap.get?_push_size _ rfl, rfl, rfl⟩ (raw.push _) (pi_one (tk := s1.toks) I2 _ (turn_itemsT _ hdt) ⟨.none, .none, ?_⟩ q)
    rw [← hsz]
    exact Heap.get?_push_size _ rfl
  show wpAny _ _ (callWith cpos (.builtin "dict.items") [.ref d] [] []) _ X.xe s1
  exact method_meetsIn PySem.F.slot_dict_items PySem.F.entry_dict_items rfl (PySem.evalArgs_none ⟨rfl, raw.typeIs, PySem.F.args_dict_items_1 _, _, DT.meetsItems (es := es) (ep := ep) hs, raw, fin⟩)
end
theorem walk_itemsT {d : Addr} {o : Obj} {kvs : List (List Key × V)} : Walk (ItiT d o kvs) kvs.length (fun H => H d = some (.frz o (.dT kvs))) (fun i H x H' => ∃ (T q : Addr) (k : List Key) (v : V), kvs[i]? = some (k, v) ∧ x = .ref T ∧ H T = none ∧ H q = some (.tup (k.map kV)) ∧ H' = upd H T (.tup [.ref q, v])) :=
  ⟨fun _ _ hi q => ⟨q, hi⟩, fun _ q => ⟨q, Nat.le_refl _⟩, fun _ _ _ _ _ _ y => y⟩
end G

namespace G
open PySem PySem.Spec PyProof.Rows L2
/-! ### defs that may raise -/
section
variable {P : Program} {w : World} {K : PySem.W.Frag} {mg : Str → Option Value} {base : Heap}
structure DefX (P : Program) (w : World) (K : PySem.W.Frag) (mg : Str → Option Value) (base : Heap) (k : Nat) (x : Str) (ps : List Str) (sp : Sp) : Prop where
  ex : ∃ f fd, FnOk P w K mg base (L2.CX P w) k f fd ps sp ∧ Binds K fd ps [] ∧ mg x = some (.ref f) ∧ PySem.W.keepIn K (.ref f) = true
theorem FunAt.defX {x : Str} {st : Stmt} {N ps : List Str} {k : Nat} {sp : Sp} (F : FunAt K mg x st ps) (S : FnScope N ps (defScope st)) (len : ∀ vs H Q E, sp vs H Q E → vs.length = ps.length)
    (hbody : ∀ (f : Addr) (cdv : Value) (A : Around) (outer : List Env) (s : Shared) (H : Hp) (vs : List V) (Q : VK) (E : XK), Room k (A.deeper (envOfC x (defScope st) s.heap.objs.size f cdv)) → sp vs H Q E →
      ∃ t, PSs (cxOf (L2.CX P w) P w K mg base N x (defScope st) f cdv A outer s H E) (defBody st) t ∧ t { nx := fun _ H' => Q .non H', rt := Q } (start N vs) H) : DefX P w K mg base (k + 1) x ps sp := by
  obtain ⟨f, fd, F, m, b⟩ := F.ex
  exact ⟨f, fd, F.okX S len (hbody f), b, m, F.kp⟩
structure DefMX (P : Program) (w : World) (K : PySem.W.Frag) (mg : Str → Option Value) (base : Heap) (k : Nat) (C : Addr) (m : Str) (ps : List Str) (sp : Sp) : Prop where
  ex : ∃ f fd, FnOk P w K mg base (L2.CX P w) k f fd ps sp ∧ Binds K fd ps [] ∧ Meth K C m f
theorem MethAt.defX {C : Addr} {m qual : Str} {st : Stmt} {N ps : List Str} {k : Nat} {sp : Sp} (F : MethAt K C m qual st ps) (S : FnScope N ps (defScope st)) (len : ∀ vs H Q E, sp vs H Q E → vs.length = ps.length)
    (hbody : ∀ (f : Addr) (cdv : Value) (A : Around) (outer : List Env) (s : Shared) (H : Hp) (vs : List V) (Q : VK) (E : XK), Room k (A.deeper (envOfC qual (defScope st) s.heap.objs.size f cdv)) → sp vs H Q E →
      ∃ t, PSs (cxOf (L2.CX P w) P w K mg base N qual (defScope st) f cdv A outer s H E) (defBody st) t ∧ t { nx := fun _ H' => Q .non H', rt := Q } (start N vs) H) : DefMX P w K mg base (k + 1) C m ps sp := by
  obtain ⟨f, fd, F, m, b⟩ := F.ex
  exact ⟨f, fd, F.okX S len (hbody f), b, m⟩
end
section
variable {X : Cx} {W : WX} {k : Nat} {x : Str} {ps : List Str} {sp : Sp} {e : Expr} {es : List Expr} {t : TA} {p pos : Pos}
theorem pe_dx (D : DefX X.prog X.w X.K X.mg X.base k x ps sp) (hr : Room k X.A) (hg : Gl X x) (tk : Takes X W) (ha : PA X (e :: es) t) (hdb : (x == ("__debug__" : Str)) = false := by decide)
    (he : starEach (e :: es) X.env = (false, eval e X.env) :: starEach es X.env := by rfl) (hpl : (backTo pos (starEach es X.env)).any (·.1) = false := by rfl) :
    PE X (.Call (.Name x p) (e :: es) [] pos) (tCallS sp (WE W) t) := by
  obtain ⟨f, fd, F, b, m, kp⟩ := D.ex
  exact pe_callS F hr hg m kp b (fun σ => passAt tk σ) ha hdb he hpl
end
theorem s_callS {σ : L2.St} {H : Hp} {Q : VK} {sp : Sp} {E : L2.St → XK} {tr : TA} (h : tr σ H fun vs H1 => sp vs H1 Q (E σ)) : tCallS sp E tr σ H Q := h
/-! ### isinstance of a caught exception -/
structure ExcK (K : PySem.W.Frag) (D : Addr) : Prop where
  c : ExcC K D
  cl : (PySem.W.clsIn K D).isSome = true
/-- isinstance(e, c) and isinstance(e, (c, ..)), e the exception that the suite holds -/
def rIsX (K : PySem.W.Frag) (cls : Value) (d : Option Addr) (a : Addr) : List V → Hp → VK → Prop := fun xs H Q => ∃ D, cls = .ref D ∧ ExcK K D ∧ (d = none ∨ ∃ dd fs, d = some dd ∧ H dd = some (.xd fs)) ∧
  ((∃ c u b, xs = [.ref a, c] ∧ ClsV c u ∧ PySem.W.kitOne K (.ref D) u = some b ∧ Q (.bl b) H) ∨ (∃ tp cs us b, xs = [.ref a, .ref tp] ∧ H tp = some (.tup cs) ∧ Paired ClsV cs us ∧ PySem.W.kitAny K (.ref D) us = some b ∧ Q (.bl b) H))
theorem call_isX {X : Cx} {a : Addr} {cls : Value} {d : Option Addr} {oe : Obj} {pn : List (Addr × Obj)} (hz : Zc cls d oe) (hf : ∃ vs, oe.data = .fields vs) : CallR (X.suite a ((a, oe) :: pn)) (.builtin "isinstance") (rIsX X.K cls d a) := by
  intro pins s σ H xs us Q I r h
  obtain ⟨D, rfl, ⟨C, cl⟩, hd, h⟩ := h
  obtain ⟨hget, _⟩ := I.pin (a, oe) (List.mem_append.mpr (.inl List.mem_cons_self))
  obtain ⟨vs, hv⟩ := hf
  have J : ∃ od, PySem.W.InstAt s.heap a oe D od := by
    obtain ⟨oc, odd, oda, osl⟩ := oe
    obtain ⟨h1, h2⟩ := hz
    dsimp only at h1 h2 hv
    subst h1 h2 hv
    rcases hd with rfl | ⟨dd, fs, rfl, hdd⟩
    · exact ⟨none, hget, rfl, rfl, trivial⟩
    · obtain ⟨_, ⟨od, _, _, e, _⟩, _⟩ := (show ObjOk X.prog X.w H s.heap dd (.xd fs) from I.hok dd _ hdd)
      exact ⟨some od, hget, rfl, rfl, e⟩
  obtain ⟨od, J⟩ := J
  have Z := PySem.W.kitx_exc (x := a) (ox := oe) (od := od) cl C.hg C.hk C.hs C.ha C.hn C.ht C.hm
  rcases h with ⟨c, u, b, rfl, k, e, q⟩ | ⟨tp, cs, ws, b, rfl, hT, k, e, q⟩
  · obtain ⟨u1, u2, rfl, r1, r2⟩ := vals2 r
    cases (show u1 = Value.ref a from r1)
    have e2 := k.eq r2
    subst e2
    exact PySem.W.kia_one Z I.kIn J e (fun z => nomatch z) fun tk => ⟨.bl b, H, I.tok tk, rfl, q⟩
  · obtain ⟨u1, u2, rfl, r1, r2⟩ := vals2 r
    cases (show u1 = Value.ref a from r1)
    cases (show u2 = Value.ref tp from r2)
    obtain ⟨_, its, rv, o, h1, h2, n, h3⟩ := (show ObjOk X.prog X.w H s.heap tp (.tup cs) from I.hok tp _ hT)
    have e3 := ClsV.all k rv
    subst e3
    obtain ⟨oc, od, dt, sl⟩ := o
    simp only at h2 h3
    subst h2 h3
    exact PySem.W.kia_tup Z I.kIn J h1 e (fun z => nomatch z) fun tk => ⟨.bl b, H, I.tok tk, rfl, q⟩
end G

namespace G
open PySem PySem.Spec PyProof.Rows L2
/-! ### try .. except x as n: .. (others behind it), where x's clause takes it -/
def wFst (K : PySem.W.Frag) (c : Value) (i : Nat) (ts : Addr → Value → Option Addr → TS) (D : Ends) : WX := fun cls d σ H =>
  PySem.W.exmOne K cls c = some true ∧ ∀ a, H a = none → ts a cls d ⟨fun σ' H' => D.nx (σ'.set i none) H', D.rt, fun σ' H' => D.bk (σ'.set i none) H', fun σ' H' => D.ct (σ'.set i none) H'⟩ (σ.set i (some (.ref a))) H
section
variable {X : Cx} {x n : Str} {c : Value} {i : Nat} {bd st : List Stmt} {s0 : Stmt} {q1 q2 q3 : Pos} {more : List ExceptHandler} {tb : WX → TS} {ts : Addr → Value → Option Addr → TS}
theorem ps_try_first (e1 : X.stack = X.env :: X.outer) (e2 : X.env.frame = some X.env.locals) (nd : X.N.Nodup) (e3 : X.N[i]? = some n) (e4 : X.env.kindOf n = some .local) (nm : Names X x c)
    (hb : ∀ (W : WX) (pn : List (Addr × Obj)) (xe : Value → Shared → Prop), Takes (X.tr pn xe) W → PassesOwn (model X.prog X.w) X.A X.env xe → PSs (X.tr pn xe) bd (tb W))
    (hh : ∀ (a : Addr) (oe : Obj) (cls : Value) (d : Option Addr) (pn : List (Addr × Obj)), Zc cls d oe → (∃ vs, oe.data = .fields vs) → PSs (X.suite a ((a, oe) :: pn)) (s0 :: st) (ts a cls d)) :
    PS X (.Try bd (.ExceptHandler (some (.Name x q1)) (some n) (s0 :: st) q2 :: more) [] [] q3) (fun D σ H => tb (wFst X.K c i ts D) D σ H) := by
  refine ⟨fun pins s σ H D J h => ?_⟩
  have k0 := J.ok
  have fr0 : X.A.frames = some (X.env :: X.outer) := by rw [k0.frames, e1]
  refine wpAny_Try_except (wpAny_mono ((hb (wFst X.K c i ts D) (X.pn ++ pins) (fun u t1 => wpAny (model X.prog X.w) X.A (noteFrame u X.env) (fun _ t2 => wpAny (model X.prog X.w) X.A (setFlight u none) (fun _ t3 =>
    wpAny (model X.prog X.w) X.A (handleBy u X.env (.ExceptHandler (some (.Name x q1)) (some n) (s0 :: st) q2 :: more)) (SP X pins D) X.xe t3) X.xe t2) X.xe t1) (fun u t0 z => ?_) PassesOwn.looking).run [] s σ H D (J.toTry _) h) (fun f t0 z => ?_) fun _ _ z => z)
  · obtain ⟨a, B, tI, ps', σ1, H1, cls, d, rfl, J1, nb, up, sky, na, os, ag, ma, go⟩ := z
    have J2 : Inv X pins σ1 H1 tI := J1.ofTry k0
    show wpAny (model X.prog X.w) X.A (noteFrame (.ref a) X.env) _ _ _
    refine Sky.land Zc.steady fr0 e2 (by rw [← e1]; exact sky) fun g3 fl3 up3 => ?_
    have J3 : Inv X pins σ1 H1 { t0 with heap := g3 } := J2.landed nb fl3.1 (up.trans up3) os ag
    obtain ⟨o3, v3, at3, z3, d3⟩ := fl3.there
    have off : a ∉ frs (X.env :: X.outer) := fun hm => by
      obtain ⟨_, o', g', no⟩ := fl3.2.2.1.mem hm
      rw [at3] at g'
      cases g'
      exact no _ d3
    have offL : a ≠ X.env.locals := fun w => off (List.mem_filterMap.mpr ⟨X.env, List.mem_cons_self, by rw [e2, w]⟩)
    have offF : a ∉ X.fs := fun hm => by
      obtain ⟨v, hv, w⟩ := List.mem_filterMap.mp hm
      exact off (List.mem_filterMap.mpr ⟨v, List.mem_cons_of_mem _ hv, w⟩)
    have U3 := J3.suite at3 d3 na offL offF
    have look := PySem.W.exm_one (M := model X.prog X.w) J3.kIn (fun A Q E s k q => wpAny_typeOf_ref (k _ _ at3) (by rw [z3.1]; exact q)) ma
    refine wpAny_handleBy_cons (codeAny_handlers_test ?_) (by intro w; cases w)
    have name : ∀ {Q : Value → Shared → Prop} {E : Value → Shared → Prop}, Q c { t0 with heap := g3 } → wpAny (model X.prog X.w) (X.A.mark (some (.ref a))) (eval (.Name x q1) X.env) Q E { t0 with heap := g3 } := fun {Q E} w => by
      rcases nm with ⟨g1, g2, g4 | ⟨g4, g5, g6⟩⟩
      · exact ld_glob (X := X.suite a ((a, o3) :: (X.pn ++ pins))) U3 g1 g4 w g2
      · exact ld_blt (X := X.suite a ((a, o3) :: (X.pn ++ pins))) U3 g1 g4 g5 w g6 g2
    refine name (look.here (codeAny_handlers_suite_as (HandSPX.lands_againZ fl3 fun g4 fl4 up4 => ?_)))
    have J4 : Inv X pins σ1 H1 { t0 with heap := g4 } := J2.landed nb fl4.1 ((up.trans up3).trans up4) os ag
    obtain ⟨o4, v4, at4, z4, d4⟩ := fl4.there
    refine store_ok (X := X.suite a ((a, o4) :: (X.pn ++ pins))) (v := .ref a) (J4.suite at4 d4 na offL offF) nd e3 (.inl e4) rfl (fun t5 U5 => ?_) (.inr e4)
    refine wpAny_mono ((hh a o4 cls d (X.pn ++ pins) z4 ⟨_, d4⟩).run [] t5 _ H1 _ U5 (go a na)) (fun f t6 w => ?_) (fun _ _ w => w.elim)
    cases f with
    | ret u => obtain ⟨v, σ6, H6, U6, r6, w⟩ := w; exact gone_ok (U6.unsuite k0) nd e3 e4 fun t7 J7 => ⟨_, _, _, J7, r6, w⟩
    | _ => obtain ⟨σ6, H6, U6, w⟩ := w; exact gone_ok (U6.unsuite k0) nd e3 e4 fun t7 J7 => ⟨_, _, J7, w⟩
  · cases f with
    | next => obtain ⟨σ1, H1, J1, w⟩ := z; exact wpAny_execs_nil ⟨σ1, H1, J1.ofTry k0, w⟩
    | ret u => obtain ⟨v, σ1, H1, J1, r, w⟩ := z; exact ⟨v, σ1, H1, J1.ofTry k0, r, w⟩
    | _ => obtain ⟨σ1, H1, J1, w⟩ := z; exact ⟨σ1, H1, J1.ofTry k0, w⟩
end
/-! ### Base.__init__(self, ..), Base an own class over ValueError without an __init__ of its own -/
structure GeC (K : PySem.W.Frag) (mg : Str → Option Value) (x : Str) (Gb : Addr) : Prop where
  m : mg x = some (.ref Gb)
  k : PySem.W.keepIn K (.ref Gb) = true
  sp : PySem.W.specialIn K (.ref Gb) "__getattribute__" = some (some (.builtin "type.__getattribute__"))
  rd : PySem.W.readsIn K Gb (.type "type") = true
  fd : PySem.W.findCls K (.ref Gb) (.type "type") "__init__" = some (.val (.builtin "ValueError.__init__"))
section
variable {X : Cx} {e : Expr} {es : List Expr} {ta : TA} {p1 p2 pos : Pos} {x : Str} {Gb : Addr}
theorem pe_geinit {pl : Sem Bool} (C : GeC X.K X.mg x Gb) (hg : Gl X x) (ha : PA X (e :: es) ta)
    (hc : eval (.Call (.Attribute (.Name x p1) "__init__" p2) (e :: es) [] pos) X.env = (do
      let ov ← eval (.Name x p1) X.env
      standAt p2.atName
      let (f, first) ← holding [ov] (getMethod ov "__init__" pl)
      callWith pos f first (backTo pos (starEach (e :: es) X.env)) (backToKw pos (keywordEach [] X.env))) := by rfl)
    (hdb : (x == ("__debug__" : Str)) = false := by decide) (he : starEach (e :: es) X.env = (false, eval e X.env) :: starEach es X.env := by rfl) (hpl : (backTo pos (starEach es X.env)).any (·.1) = false := by rfl) :
    PE X (.Call (.Attribute (.Name x p1) "__init__" p2) (e :: es) [] pos) (tVeI X.K ta) := by
  refine ⟨fun pins s σ H Q I h => PySem.W.methodCall_KW (ld_glob I hg C.m ?_ hdb) hc⟩
  refine PySem.W.method_cls I.kIn C.sp (PySem.W.cls_value I.kIn C.rd C.fd (by decide +kernel) ?_)
  show wpAny _ _ (callWith pos (Value.builtin "ValueError.__init__") [] (backTo pos (starEach (e :: es) X.env)) []) _ _ _
  refine PyProof.Rows.callWith_method1 (thn (ha.run pos pins _ σ H _ (I.tok _) h) fun us t ⟨vs, H1, I1, r1, a, D, ws, ev, hl, T, ea, q⟩ => ?_) he hpl
  subst ev
  cases r1 with
  | @cons _ u0 _ ur r2 r3 =>
    cases (show u0 = Value.ref a from r2)
    exact oinit_ok T I1 ea (by rw [← Paired.length r3, sizeLine_eq]; omega) fun t' J => ⟨.non, H1, J, rfl, q⟩
end
end G

namespace G
open PySem PySem.Spec PyProof.Rows L2
local macro_rules | `(tactic| walk_at "lk") => `(tactic| first | assumption | exact rT_at | exact rL_at | exact upd_same | (refine sqT_mono ?_ (by assumption); assumption) | (refine sqL_mono ?_ (by assumption); assumption) | (refine rT_new (by assumption) ?_; walk_at "lk") | (refine rL_new (by assumption) ?_; walk_at "lk") | (refine rH_new (by assumption) ?_; walk_at "lk") | (refine rD_new (by assumption) ?_; walk_at "lk") | (refine dp_mono ?_ (by assumption); assumption))
local macro_rules | `(tactic| walk_at "r1") => `(tactic| first | ((with_reducible show tVar _ _ _ _); refine s_var rfl ?_) | with_reducible refine s_c ?_ | with_reducible refine s_op ?_ | with_reducible refine s_un ?_ | with_reducible refine s_neg ?_ | with_reducible refine s_test ?_ | with_reducible refine s_B ?_ | with_reducible refine s_bl ?_ | with_reducible refine s_not ?_ | with_reducible refine s_yes ?_ | with_reducible refine s_and ?_ | with_reducible refine s_or ?_ | with_reducible refine s_notV ?_ | with_reducible refine s_andV ?_ | with_reducible refine s_orV ?_ | with_reducible refine s_if ?_ | with_reducible refine s_cT ?_ | with_reducible refine s_cF ?_ | with_reducible refine s_nT ?_ | with_reducible refine s_nF ?_ | with_reducible refine s_addI ?_ | with_reducible refine s_eqI ?_ | with_reducible refine s_neI ?_ | with_reducible refine s_eqB ?_ | with_reducible refine s_neB ?_ | with_reducible refine s_I0 ?_ | with_reducible refine s_non ?_ | with_reducible refine s_int ?_ | with_reducible refine s_chain ?_ | with_reducible refine s_cons ?_ | with_reducible refine s_nil ?_ | with_reducible refine s_call ?_ | with_reducible refine s_cb ?_ | with_reducible refine s_meth ?_ | with_reducible refine s_make ?_ | with_reducible refine s_tup ?_ | with_reducible refine s_lst ?_ | with_reducible refine s_bm ?_ | with_reducible refine s_bm0 ?_ | with_reducible refine s_bmT ?_ | with_reducible refine s_fld ?_ | with_reducible refine s_dget ?_ | with_reducible refine s_sl ?_ | with_reducible refine s_part ?_ | with_reducible refine s_nopart ?_ | with_reducible refine s_seq ?_ | with_reducible refine s_next ?_ | with_reducible refine s_asg ?_ | with_reducible refine s_gn ?_ | with_reducible refine s_gc ?_ | with_reducible refine s_g0 ?_ | with_reducible refine s_gs ?_ | with_reducible refine s_ret ?_ | with_reducible refine s_ifS ?_ | with_reducible refine s_drop ?_ | with_reducible refine s_augS ?_ | ((with_reducible show tAug _ _ _ _ _ _); refine s_aug rfl ?_) | with_reducible refine s_ipI ?_ | with_reducible refine s_for ?_ | with_reducible refine s_iseq ?_ | with_reducible refine s_rng1 ?_ | with_reducible refine s_izip ?_ | with_reducible refine s_lc ?_ | with_reducible refine s_lc2 ?_ | with_reducible refine s_lstRg ?_ | with_reducible refine s_rg1 ?_ | with_reducible refine s_sfld ?_ | with_reducible refine s_ienum ?_ | with_reducible refine s_disp ?_ | with_reducible refine s_pc ?_ | with_reducible refine s_pn ?_)
local macro_rules | `(tactic| walk_at "rd") => `(tactic| repeat walk_at "r1")

section
variable {P : Program} {w : World} {K : PySem.W.Frag} {mg : Str → Option Value} {base : Heap} {C : Addr}
/-! ### whole numbers -/
abbrev s_is_whole : Stmt := topS 5
abbrev n_is_whole : List Str := ["thing", "low", "high"]
theorem sc_is_whole : FnScope ["thing", "low", "high"] ["thing", "low", "high"] (defScope s_is_whole) := ⟨rfl, rfl, rfl, by decide +kernel, rfl, by decide +kernel, by decide +kernel⟩
def loOk (n : Int) : Option Int → Bool
  | none => true
  | some l => decide (l ≤ n)
def hiOk (n : Int) : Option Int → Bool
  | none => true
  | some h => decide (n ≤ h)
def wholeV (x : V) (lo hi : Option Int) : Bool := match x with
  | .int n => loOk n lo && hiOk n hi
  | _ => false
def oV : Option Int → V
  | none => .non
  | some i => .int i
theorem oV_some (i : Int) : oV (some i) = .int i := rfl
theorem oV_none : oV none = .non := rfl
/-- things whose kind is known -/
def Kn (K : PySem.W.Frag) (H : Hp) (x : V) : Prop := (∃ n, x = .int n) ∨ (∃ b, x = .bl b) ∨ x = .non ∨ (∃ z, x = .str z) ∨ (∃ a xs, x = .ref a ∧ SqL K H a xs) ∨ (∃ a xs, x = .ref a ∧ SqT K H a xs)
theorem isB {K : PySem.W.Frag} {H : Hp} {t : V} {T U : String} {b : Bool} {R : VK} (h1 : TyX K H t (.type T)) (h2 : kitB T U = some b) (h3 : R (.bl b) H) : rIsi K [t, .ty U] H R := s_isi (.ty U) h1 (kit_ty h2) h3
theorem kb_ii : kitB "int" "int" = some true := by decide +kernel
theorem kb_ib : kitB "int" "bool" = some false := by decide +kernel
theorem kb_bi : kitB "bool" "int" = some true := by decide +kernel
theorem kb_bb : kitB "bool" "bool" = some true := by decide +kernel
theorem kb_ni : kitB "NoneType" "int" = some false := by decide +kernel
theorem kb_si : kitB "str" "int" = some false := by decide +kernel
theorem kb_li : kitB "list" "int" = some false := by decide +kernel
theorem kb_ti : kitB "tuple" "int" = some false := by decide +kernel
theorem kb_tt : kitB "tuple" "tuple" = some true := by decide +kernel
theorem kb_ll : kitB "list" "list" = some true := by decide +kernel
theorem kb_it : kitB "int" "tuple" = some false := by decide +kernel
theorem kb_nt : kitB "NoneType" "tuple" = some false := by decide +kernel
theorem kb_st : kitB "str" "tuple" = some false := by decide +kernel
theorem kb_bt : kitB "bool" "tuple" = some false := by decide +kernel
theorem kb_lt : kitB "list" "tuple" = some false := by decide +kernel
def spIsWhole (K : PySem.W.Frag) : Sp := fun vs H Q _ => ∃ x lo hi, vs = [x, oV lo, oV hi] ∧ Kn K H x ∧ Q (.bl (wholeV x lo hi)) H
theorem whole_no {x : V} {lo hi : Option Int} {Q : VK} {H : Hp} (h : ∀ n, x ≠ .int n) (q : Q (.bl (wholeV x lo hi)) H) : Q (.bl false) H := by
  cases x with
  | int n => exact absurd rfl (h n)
  | _ => exact q
theorem ok_is_whole (B : Blt mg) (F : FunAt K mg "is_whole" s_is_whole ["thing", "low", "high"]) : Def P w K mg base 1 "is_whole" ["thing", "low", "high"] (spIsWhole K) := by
  refine F.def (k := 0) sc_is_whole (fun vs H Q E h => ?_) (fun f cdv A outer s H vs Q E hr h => ?_)
  · obtain ⟨x, lo, hi, rfl, _⟩ := h
    rfl
  · obtain ⟨x, lo, hi, rfl, kn, q⟩ := h
    refine ⟨_, (pss_cons (ps_if (PW.pt (pw_or (pt_not (pt_val (pe_callB (k_isi (K := K) rfl) (by rfl) B.isinstance bb_isinstance (pa_cons (pv 0) (pa_cons (pe_bltn (v := .ty "int") (by rfl) B.int bb_int rfl) pa_nil))))) (pw_or1 (pt_val (pe_callB (k_isi (K := K) rfl) (by rfl) B.isinstance bb_isinstance (pa_cons (pv 0) (pa_cons (pe_bltn (v := .ty "bool") (by rfl) B.bool bb_bool rfl) pa_nil))))))) (pss_one (ps_ret pe_bl)) pss_nil) (pss_one (ps_ret (pe_and (pe_or (pe_cmpR op_isN (pv 1) pe_non (nomark _)) (pe_one (pe_cmpR op_le (pv 1) (pv 0) (nomark _)))) (pe_one (pe_or (pe_cmpR op_isN (pv 2) pe_non (nomark _)) (pe_one (pe_cmpR op_le (pv 0) (pv 2) (nomark _))))))))), ?_⟩; refine start_eq (σ' := [some (x), some (oV lo), some (oV hi)]) rfl ?_
    walk_at "rd"
    rcases kn with ⟨n, rfl⟩ | ⟨b, rfl⟩ | rfl | ⟨z, rfl⟩ | ⟨a, xs, rfl, h⟩ | ⟨a, xs, rfl, h⟩
    · refine isB (.base (.int n)) kb_ii ?_
      walk_at "rd"
      refine isB (.base (.int n)) kb_ib ?_
      walk_at "rd"
      have q' : Q (.bl (loOk n lo && hiOk n hi)) H := q
      have fin : ∀ b : Bool, Q (.bl (b && hiOk n hi)) H → if b = true then tOrV (tOp (fun x y H Q => y = V.non ∧ Q (V.bl (decide (x = V.non))) H) (tVar 2) (tC V.non)) (tOp (rI0 fun i j => V.bl (decide (i ≤ j))) (tVar 0) (tVar 2)) [some (.int n), some (oV lo), some (oV hi)] H Q else Q (.bl false) H := fun b qb => by
        refine s_b2 (fun e => ?_) (fun e => ?_)
        · subst e
          walk_at "rd"
          cases hi with
          | none =>
            refine s_dT rfl ?_
            exact qb
          | some m =>
            refine s_dF (by simp [oV]) ?_
            rw [oV_some]
            walk_at "rd"
            rw [Bool.true_and] at qb
            exact qb
        · subst e
          exact qb
      cases lo with
      | none =>
        refine s_dT rfl ?_
        refine s_bl ?_
        exact fin true q'
      | some l =>
        refine s_dF (by simp [oV]) ?_
        rw [oV_some]
        walk_at "rd"
        exact fin _ q'
    · refine isB (.base (.bl b)) kb_bi ?_
      walk_at "rd"
      refine isB (.base (.bl b)) kb_bb ?_
      walk_at "rd"
      exact q
    · refine isB (.base .non) kb_ni ?_
      walk_at "rd"
      exact q
    · refine isB (.base (.str z)) kb_si ?_
      walk_at "rd"
      exact q
    · refine isB (ty_lst h) kb_li ?_
      walk_at "rd"
      exact q
    · refine isB (ty_tup h) kb_ti ?_
      walk_at "rd"
      exact q
def spTn : Sp := fun vs H Q _ => ∃ s b : Int, vs = [.int s, .int b] ∧ CDivW s b ∧ Q (.int (tn s b)) H
abbrev s_are_wholes : Stmt := topS 6
abbrev n_are_wholes : List Str := ["thing", "many", "one"]
theorem sc_are_wholes : FnScope ["thing", "many", "one"] ["thing", "many"] (defScope s_are_wholes) := ⟨rfl, rfl, rfl, by decide +kernel, rfl, by decide +kernel, by decide +kernel⟩
def isInt : V → Bool
  | .int _ => true
  | _ => false
/-- of a tuple of things whose kinds are known; of what is no tuple -/
def spAreWholes (K : PySem.W.Frag) : Sp := fun vs H Q _ => (∃ a m xs, vs = [.ref a, .int m] ∧ SqT K H a xs ∧ xs.length ≤ 1000 ∧ (∀ x ∈ xs, Kn K H x) ∧ ∀ H', Same H H' → Q (.bl (decide ((xs.length : Int) = m) && xs.all isInt)) H') ∨
  (∃ x m, vs = [x, .int m] ∧ ((∃ n, x = .int n) ∨ (∃ b, x = .bl b) ∨ x = .non ∨ (∃ z, x = .str z) ∨ (∃ a xs, x = .ref a ∧ SqL K H a xs)) ∧ Q (.bl false) H)
theorem whole_all {x : V} : wholeV x none none = isInt x := by cases x <;> rfl
theorem ok_are_wholes (B : Blt mg) (d_is_whole : Def P w K mg base 1 "is_whole" ["thing", "low", "high"] (spIsWhole K)) (F : FunAt K mg "are_wholes" s_are_wholes ["thing", "many"]) : Def P w K mg base 2 "are_wholes" ["thing", "many"] (spAreWholes K) := by
  refine F.def (k := 1) sc_are_wholes (fun vs H Q E h => ?_) (fun f cdv A outer s H vs Q E hr h => ?_)
  · rcases h with ⟨a, m, xs, rfl, _⟩ | ⟨x, m, rfl, _⟩
    · rfl
    · rfl
  · rcases h with ⟨a, m, xs, rfl, ht, hl, hk, q⟩ | ⟨x, m, rfl, hx, q⟩
    · refine ⟨_, (pss_one (ps_ret (pe_and (pe_callB (k_isi (K := K) rfl) (by rfl) B.isinstance bb_isinstance (pa_cons (pv 0) (pa_cons (pe_bltn (v := .ty "tuple") (by rfl) B.tuple bb_tuple rfl) pa_nil))) (pe_and (pe_cmpR (k_eq (K := K) rfl hr.units) (pe_callB (k_len (K := K) rfl) (by rfl) B.len bb_len (pa_cons (pv 0) pa_nil)) (pv 1) (nomark _)) (pe_one (pe_callB (k_all (K := K) rfl rfl) (by rfl) B.all bb_all (pa_cons (pe_lc (own := [("one", 2)]) rfl sc_are_wholes.nd (k_seq (K := K) rfl (pv 0)) (blkOk_by (own := [("one", 2)]) (N := n_are_wholes) (sc := defScope s_are_wholes) (by decide +kernel)) (fun _ _ _ _ _ => (pg_name (i := 2) sc_are_wholes.nd rfl (Or.inl rfl))) (fun _ _ _ _ _ => pts_nil) (fun _ _ _ _ _ => (pe_d d_is_whole (hr.mono (by decide)) (by rfl) (pa_cons (pv 2) (pa_cons pe_non (pa_cons pe_non pa_nil)))))) pa_nil))))))), ?_⟩; refine start_eq (σ' := [some (.ref a), some (.int m), none]) rfl ?_
      walk_at "rd"
      refine isB (ty_tup ht) kb_tt ?_
      walk_at "rd"
      refine s_lenT ht ?_
      walk_at "rd"
      refine s_d2 (fun e => ?_) (fun e => ?_)
      · walk_at "rd"
        refine .inr ⟨_, rfl, ⟨_, ht⟩, ?_⟩
        refine lc_map walk_tup (F := H) (Same.refl H) (by omega) (fun H' e' => sqT_mono e' ht) (fun i _ v => ∃ x, xs[i]? = some x ∧ v = .bl (isInt x)) (fun _ _ _ _ _ h => h) (fun i x F' H1 H2 D Z hi ex _ _ hy hz => ?_) (fun D ys F' H' hD ex hd hlen hR => ?_)
        · obtain ⟨rfl, hx⟩ := hy
          walk_at "rd"
          refine ⟨rfl, ?_⟩
          walk_at "rd"
          refine ⟨x, none, none, rfl, ?_, ?_⟩
          · have := hk x (List.mem_of_getElem? hx)
            rcases this with h | h | h | h | ⟨b, ys, h1, h2⟩ | ⟨b, ys, h1, h2⟩
            · exact .inl h
            · exact .inr (.inl h)
            · exact .inr (.inr (.inl h))
            · exact .inr (.inr (.inr (.inl h)))
            · exact .inr (.inr (.inr (.inr (.inl ⟨b, ys, h1, sqL_mono ex.hh h2⟩))))
            · exact .inr (.inr (.inr (.inr (.inr ⟨b, ys, h1, sqT_mono ex.hh h2⟩))))
          · exact hz _ F' _ (Ext.refl ex.fh) ⟨x, hx, by rw [whole_all]⟩
        · walk_at "rd"
          have hys : ys = (xs.map isInt).map V.bl := by
            refine List.ext_getElem? fun i => ?_
            cases hv : ys[i]? with
            | none =>
              have : ys.length ≤ i := List.getElem?_eq_none_iff.mp hv
              rw [List.getElem?_eq_none (by simp; omega)]
            | some v =>
              obtain ⟨x, h1, rfl⟩ := hR i v hv
              simp [h1]
          refine s_all (bs := xs.map isInt) (.inl (.inl ?_)) ?_
          · rw [← hys]
            exact ex.fh _ _ hd
          · have := q H' ex.hh
            rw [decide_eq_true e, Bool.true_and] at this
            rw [List.all_map]
            exact this
      · have := q H (Same.refl H)
        rw [decide_eq_false e] at this
        exact this
    · refine ⟨_, (pss_one (ps_ret (pe_and (pe_callB (k_isi (K := K) rfl) (by rfl) B.isinstance bb_isinstance (pa_cons (pv 0) (pa_cons (pe_bltn (v := .ty "tuple") (by rfl) B.tuple bb_tuple rfl) pa_nil))) (pe_and (pe_cmpR (k_eq (K := K) rfl hr.units) (pe_callB (k_len (K := K) rfl) (by rfl) B.len bb_len (pa_cons (pv 0) pa_nil)) (pv 1) (nomark _)) (pe_one (pe_callB (k_all (K := K) rfl rfl) (by rfl) B.all bb_all (pa_cons (pe_lc (own := [("one", 2)]) rfl sc_are_wholes.nd (k_seq (K := K) rfl (pv 0)) (blkOk_by (own := [("one", 2)]) (N := n_are_wholes) (sc := defScope s_are_wholes) (by decide +kernel)) (fun _ _ _ _ _ => (pg_name (i := 2) sc_are_wholes.nd rfl (Or.inl rfl))) (fun _ _ _ _ _ => pts_nil) (fun _ _ _ _ _ => (pe_d d_is_whole (hr.mono (by decide)) (by rfl) (pa_cons (pv 2) (pa_cons pe_non (pa_cons pe_non pa_nil)))))) pa_nil))))))), ?_⟩; refine start_eq (σ' := [some (x), some (.int m), none]) rfl ?_
      walk_at "rd"
      rcases hx with ⟨n, rfl⟩ | ⟨b, rfl⟩ | rfl | ⟨z, rfl⟩ | ⟨a, xs, rfl, h⟩
      · refine isB (.base (.int n)) kb_it ?_
        walk_at "rd"
        exact q
      · refine isB (.base (.bl b)) kb_bt ?_
        walk_at "rd"
        exact q
      · refine isB (.base .non) kb_nt ?_
        walk_at "rd"
        exact q
      · refine isB (.base (.str z)) kb_st ?_
        walk_at "rd"
        exact q
      · refine isB (ty_lst h) kb_lt ?_
        walk_at "rd"
        exact q
end
end G

namespace G
open PySem PySem.Spec PyProof.Rows L2
local macro_rules | `(tactic| walk_at "lk") => `(tactic| first | assumption | exact rT_at | exact rL_at | exact upd_same | (refine sqT_mono ?_ (by assumption); assumption) | (refine sqL_mono ?_ (by assumption); assumption) | (refine rT_new (by assumption) ?_; walk_at "lk") | (refine rL_new (by assumption) ?_; walk_at "lk") | (refine rH_new (by assumption) ?_; walk_at "lk") | (refine rD_new (by assumption) ?_; walk_at "lk") | (refine dp_mono ?_ (by assumption); assumption))
local macro_rules | `(tactic| walk_at "r1") => `(tactic| first | ((with_reducible show tVar _ _ _ _); refine s_var rfl ?_) | with_reducible refine s_c ?_ | with_reducible refine s_op ?_ | with_reducible refine s_un ?_ | with_reducible refine s_neg ?_ | with_reducible refine s_test ?_ | with_reducible refine s_B ?_ | with_reducible refine s_bl ?_ | with_reducible refine s_not ?_ | with_reducible refine s_yes ?_ | with_reducible refine s_and ?_ | with_reducible refine s_or ?_ | with_reducible refine s_notV ?_ | with_reducible refine s_andV ?_ | with_reducible refine s_orV ?_ | with_reducible refine s_if ?_ | with_reducible refine s_cT ?_ | with_reducible refine s_cF ?_ | with_reducible refine s_nT ?_ | with_reducible refine s_nF ?_ | with_reducible refine s_addI ?_ | with_reducible refine s_eqI ?_ | with_reducible refine s_neI ?_ | with_reducible refine s_eqB ?_ | with_reducible refine s_neB ?_ | with_reducible refine s_I0 ?_ | with_reducible refine s_non ?_ | with_reducible refine s_int ?_ | with_reducible refine s_chain ?_ | with_reducible refine s_cons ?_ | with_reducible refine s_nil ?_ | with_reducible refine s_call ?_ | with_reducible refine s_cb ?_ | with_reducible refine s_meth ?_ | with_reducible refine s_make ?_ | with_reducible refine s_tup ?_ | with_reducible refine s_lst ?_ | with_reducible refine s_bm ?_ | with_reducible refine s_bm0 ?_ | with_reducible refine s_bmT ?_ | with_reducible refine s_fld ?_ | with_reducible refine s_dget ?_ | with_reducible refine s_sl ?_ | with_reducible refine s_part ?_ | with_reducible refine s_nopart ?_ | with_reducible refine s_seq ?_ | with_reducible refine s_next ?_ | with_reducible refine s_asg ?_ | with_reducible refine s_gn ?_ | with_reducible refine s_gc ?_ | with_reducible refine s_g0 ?_ | with_reducible refine s_gs ?_ | with_reducible refine s_ret ?_ | with_reducible refine s_ifS ?_ | with_reducible refine s_drop ?_ | with_reducible refine s_augS ?_ | ((with_reducible show tAug _ _ _ _ _ _); refine s_aug rfl ?_) | with_reducible refine s_ipI ?_ | with_reducible refine s_for ?_ | with_reducible refine s_iseq ?_ | with_reducible refine s_rng1 ?_ | with_reducible refine s_izip ?_ | with_reducible refine s_lc ?_ | with_reducible refine s_lc2 ?_ | with_reducible refine s_lstRg ?_ | with_reducible refine s_rg1 ?_ | with_reducible refine s_sfld ?_ | with_reducible refine s_ienum ?_ | with_reducible refine s_disp ?_ | with_reducible refine s_pc ?_ | with_reducible refine s_pn ?_)
local macro_rules | `(tactic| walk_at "rd") => `(tactic| repeat walk_at "r1")

section
variable {P : Program} {w : World} {K : PySem.W.Frag} {mg : Str → Option Value} {base : Heap} {C : Addr}
/-! ### grinding -/
def spPW (K : PySem.W.Frag) (C : Addr) : Sp := fun vs H Q _ => ∃ b B p, ∃ u v : Nat, vs = [.ref b, .ref p] ∧ BenchAt K C H b B ∧ SqT K H p [.int u, .int v] ∧ u < B.heavy.length ∧ v < B.heavy.length ∧
  ∀ q, H q = none → Q (.ref q) (upd H q (.tup [.int (B.heavy.getD u 0), .int (B.heavy.getD v 0)]))
def spGrains (K : PySem.W.Frag) (C : Addr) : Sp := fun vs H Q _ => ∃ b B s hs p, ∃ u v : Nat, vs = [.ref b, .ref s, .ref p] ∧ BOk B ∧ BenchAt K C H b B ∧ SqT K H s (hs.map V.int) ∧ hs.length = B.heavy.length ∧ SqT K H p [.int u, .int v] ∧ u < B.heavy.length ∧ v < B.heavy.length ∧
  ∀ H', Same H H' → Q (.int (grain B.heavy hs (u, v))) H'
theorem div_small {s b : Int} (h1 : 0 < b) (h2 : b ≤ 1000000) : CDivW s b := wide_div (b := 20) h1 (by omega) (by decide) (by decide)
/-- the bench, a stand, a grinding's number: what the functions of grinding are handed -/
structure GA (K : PySem.W.Frag) (C : Addr) (H : Hp) (b s : Addr) (B : BD) (hs : List Int) (r : List (Nat × Nat)) (k : Nat) : Prop where
  ok : BOk B
  bench : BenchAt K C H b B
  stand : SqT K H s (hs.map V.int)
  len : hs.length = B.heavy.length
  row : B.meets[k]? = some r
theorem GA.mono {H H' : Hp} {b s : Addr} {B : BD} {hs : List Int} {r : List (Nat × Nat)} {k : Nat} (e : Same H H') (h : GA K C H b s B hs r k) : GA K C H' b s B hs r k := ⟨h.ok, h.bench.mono e, sqT_mono e h.stand, h.len, h.row⟩
theorem GA.mem {H : Hp} {b s : Addr} {B : BD} {hs : List Int} {r : List (Nat × Nat)} {k : Nat} (h : GA K C H b s B hs r k) : r ∈ B.meets := List.mem_of_getElem? h.row
def spDust (K : PySem.W.Frag) (C : Addr) : Sp := fun vs H Q _ => ∃ b B s hs r k, vs = [.ref b, .ref s, .int (k : Nat)] ∧ GA K C H b s B hs r k ∧
  ∀ H' p, Same H H' → H p = none → H' p = some (.tup ((dust B.heavy hs r).map V.int)) → Q (.ref p) H'
theorem meets_at {H : Hp} {l4 : Addr} {B : BD} {k : Nat} {r : List (Nat × Nat)} (h4 : Dp K H (.ref l4) (.list (B.meets.map fun r => .list (r.map pD)))) (hk : B.meets[k]? = some r) : ∃ xs a ys, SqL K H l4 xs ∧ atI xs (k : Int) = some (.ref a) ∧ SqL K H a ys ∧ DpAll K H ys (r.map pD) := by
  obtain ⟨xs, e1, e2⟩ := dp_list h4
  obtain ⟨v, e3, e4⟩ := dpAll_get (i := k) e2 (by rw [List.getElem?_map, hk]; rfl)
  obtain ⟨a, ys, rfl, e5, e6⟩ := dp_refL e4
  exact ⟨xs, a, ys, e1, atI_nat e3, e5, e6⟩
def spTaken (K : PySem.W.Frag) (C : Addr) : Sp := fun vs H Q _ => ∃ b B s hs pa d, ∃ (r : List (Nat × Nat)) (gs : List Int), vs = [.ref b, .ref s, .ref pa, .ref d] ∧ BOk B ∧ BenchAt K C H b B ∧ SqT K H s (hs.map V.int) ∧ hs.length = B.heavy.length ∧
  Dp K H (.ref pa) (.list (r.map pD)) ∧ (∀ p ∈ r, p.1 < B.heavy.length ∧ p.2 < B.heavy.length) ∧ r.length ≤ 1000 ∧ SqT K H d (gs.map V.int) ∧ gs.length = r.length ∧
  ∀ H' p, Same H H' → H p = none → H' p = some (.tup ((takeAll B.heavy hs r gs).map V.int)) → Q (.ref p) H'
theorem takeAll_take (w : List Int) : ∀ (r : List (Nat × Nat)) (gs hs : List Int) (i : Nat) (p : Nat × Nat) (g : Int), r[i]? = some p → gs[i]? = some g → takeAll w hs (r.take (i + 1)) (gs.take (i + 1)) = take1 w (takeAll w hs (r.take i) (gs.take i)) p g
  | [], _, _, _, _, _, h, _ => by simp at h
  | _ :: _, [], _, _, _, _, _, h => by simp at h
  | q :: r, g' :: gs, hs, 0, p, g, h1, h2 => by
    have e1 : q = p := by simpa using h1
    have e2 : g' = g := by simpa using h2
    subst e1 e2
    simp [takeAll]
  | q :: r, g' :: gs, hs, i + 1, p, g, h1, h2 => by
    have := takeAll_take w r gs (take1 w hs q g') i p g (by simpa using h1) (by simpa using h2)
    simpa [takeAll] using this
end
end G

namespace G
open PySem PySem.Spec PyProof.Rows L2
local macro_rules | `(tactic| walk_at "lk") => `(tactic| first | assumption | exact rT_at | exact rL_at | exact upd_same | (refine sqT_mono ?_ (by assumption); assumption) | (refine sqL_mono ?_ (by assumption); assumption) | (refine rT_new (by assumption) ?_; walk_at "lk") | (refine rL_new (by assumption) ?_; walk_at "lk") | (refine rH_new (by assumption) ?_; walk_at "lk") | (refine rD_new (by assumption) ?_; walk_at "lk") | (refine dp_mono ?_ (by assumption); assumption))
local macro_rules | `(tactic| walk_at "r1") => `(tactic| first | ((with_reducible show tVar _ _ _ _); refine s_var rfl ?_) | with_reducible refine s_c ?_ | with_reducible refine s_op ?_ | with_reducible refine s_un ?_ | with_reducible refine s_neg ?_ | with_reducible refine s_test ?_ | with_reducible refine s_B ?_ | with_reducible refine s_bl ?_ | with_reducible refine s_not ?_ | with_reducible refine s_yes ?_ | with_reducible refine s_and ?_ | with_reducible refine s_or ?_ | with_reducible refine s_notV ?_ | with_reducible refine s_andV ?_ | with_reducible refine s_orV ?_ | with_reducible refine s_if ?_ | with_reducible refine s_cT ?_ | with_reducible refine s_cF ?_ | with_reducible refine s_nT ?_ | with_reducible refine s_nF ?_ | with_reducible refine s_addI ?_ | with_reducible refine s_eqI ?_ | with_reducible refine s_neI ?_ | with_reducible refine s_eqB ?_ | with_reducible refine s_neB ?_ | with_reducible refine s_I0 ?_ | with_reducible refine s_non ?_ | with_reducible refine s_int ?_ | with_reducible refine s_chain ?_ | with_reducible refine s_cons ?_ | with_reducible refine s_nil ?_ | with_reducible refine s_call ?_ | with_reducible refine s_cb ?_ | with_reducible refine s_meth ?_ | with_reducible refine s_make ?_ | with_reducible refine s_tup ?_ | with_reducible refine s_lst ?_ | with_reducible refine s_bm ?_ | with_reducible refine s_bm0 ?_ | with_reducible refine s_bmT ?_ | with_reducible refine s_fld ?_ | with_reducible refine s_dget ?_ | with_reducible refine s_sl ?_ | with_reducible refine s_part ?_ | with_reducible refine s_nopart ?_ | with_reducible refine s_seq ?_ | with_reducible refine s_next ?_ | with_reducible refine s_asg ?_ | with_reducible refine s_gn ?_ | with_reducible refine s_gc ?_ | with_reducible refine s_g0 ?_ | with_reducible refine s_gs ?_ | with_reducible refine s_ret ?_ | with_reducible refine s_ifS ?_ | with_reducible refine s_drop ?_ | with_reducible refine s_augS ?_ | ((with_reducible show tAug _ _ _ _ _ _); refine s_aug rfl ?_) | with_reducible refine s_ipI ?_ | with_reducible refine s_for ?_ | with_reducible refine s_iseq ?_ | with_reducible refine s_rng1 ?_ | with_reducible refine s_izip ?_ | with_reducible refine s_lc ?_ | with_reducible refine s_lc2 ?_ | with_reducible refine s_lstRg ?_ | with_reducible refine s_rg1 ?_ | with_reducible refine s_sfld ?_ | with_reducible refine s_ienum ?_ | with_reducible refine s_disp ?_ | with_reducible refine s_pc ?_ | with_reducible refine s_pn ?_)
local macro_rules | `(tactic| walk_at "rd") => `(tactic| repeat walk_at "r1")

section
variable {P : Program} {w : World} {K : PySem.W.Frag} {mg : Str → Option Value} {base : Heap} {C : Addr}
def spDone (K : PySem.W.Frag) (C : Addr) : Sp := fun vs H Q _ => ∃ b B s hs r k, vs = [.ref b, .ref s, .int (k : Nat)] ∧ GA K C H b s B hs r k ∧
  ∀ H' p p1 p2, Same H H' → H p = none → H p1 = none → H p2 = none → H' p = some (.tup [.ref p1, .ref p2]) → H' p1 = some (.tup ((after B.heavy hs r).map V.int)) → H' p2 = some (.tup ((dust B.heavy hs r).map V.int)) → Q (.ref p) H'
def spTakesOff (K : PySem.W.Frag) (C : Addr) : Sp := fun vs H Q _ => ∃ b B s hs r k, vs = [.ref b, .ref s, .int (k : Nat)] ∧ GA K C H b s B hs r k ∧ ∀ H', Same H H' → Q (.bl (takesOff B.heavy hs r)) H'
def taking (B : BD) (hs : List Int) : List Int := ((List.range B.meets.length).filter fun k => takesOff B.heavy hs (B.meets.getD k [])).map fun (k : Nat) => (k : Int)
structure GB (K : PySem.W.Frag) (C : Addr) (H : Hp) (b s : Addr) (B : BD) (hs : List Int) : Prop where
  ok : BOk B
  bench : BenchAt K C H b B
  stand : SqT K H s (hs.map V.int)
  len : hs.length = B.heavy.length
theorem GB.at {H : Hp} {b s : Addr} {B : BD} {hs : List Int} (g : GB K C H b s B hs) {k : Nat} (h : k < B.meets.length) : GA K C H b s B hs (B.meets.getD k []) k :=
  ⟨g.ok, g.bench, g.stand, g.len, by rw [List.getD_eq_getElem?_getD, List.getElem?_eq_getElem h]; rfl⟩
theorem GB.mono {H H' : Hp} {b s : Addr} {B : BD} {hs : List Int} (e : Same H H') (h : GB K C H b s B hs) : GB K C H' b s B hs := ⟨h.ok, h.bench.mono e, sqT_mono e h.stand, h.len⟩
def spTaking (K : PySem.W.Frag) (C : Addr) : Sp := fun vs H Q _ => ∃ b B s hs, vs = [.ref b, .ref s] ∧ GB K C H b s B hs ∧ ∀ H' p, Same H H' → H p = none → H' p = some (.lst ((taking B hs).map V.int)) → Q (.ref p) H'
end
end G

namespace G
open PySem PySem.Spec PyProof.Rows L2
local macro_rules | `(tactic| walk_at "lk") => `(tactic| first | assumption | exact rT_at | exact rL_at | exact upd_same | (refine sqT_mono ?_ (by assumption); assumption) | (refine sqL_mono ?_ (by assumption); assumption) | (refine rT_new (by assumption) ?_; walk_at "lk") | (refine rL_new (by assumption) ?_; walk_at "lk") | (refine rH_new (by assumption) ?_; walk_at "lk") | (refine rD_new (by assumption) ?_; walk_at "lk") | (refine dp_mono ?_ (by assumption); assumption))
local macro_rules | `(tactic| walk_at "r1") => `(tactic| first | ((with_reducible show tVar _ _ _ _); refine s_var rfl ?_) | with_reducible refine s_c ?_ | with_reducible refine s_op ?_ | with_reducible refine s_un ?_ | with_reducible refine s_neg ?_ | with_reducible refine s_test ?_ | with_reducible refine s_B ?_ | with_reducible refine s_bl ?_ | with_reducible refine s_not ?_ | with_reducible refine s_yes ?_ | with_reducible refine s_and ?_ | with_reducible refine s_or ?_ | with_reducible refine s_notV ?_ | with_reducible refine s_andV ?_ | with_reducible refine s_orV ?_ | with_reducible refine s_if ?_ | with_reducible refine s_cT ?_ | with_reducible refine s_cF ?_ | with_reducible refine s_nT ?_ | with_reducible refine s_nF ?_ | with_reducible refine s_addI ?_ | with_reducible refine s_eqI ?_ | with_reducible refine s_neI ?_ | with_reducible refine s_eqB ?_ | with_reducible refine s_neB ?_ | with_reducible refine s_I0 ?_ | with_reducible refine s_non ?_ | with_reducible refine s_int ?_ | with_reducible refine s_chain ?_ | with_reducible refine s_cons ?_ | with_reducible refine s_nil ?_ | with_reducible refine s_call ?_ | with_reducible refine s_cb ?_ | with_reducible refine s_meth ?_ | with_reducible refine s_make ?_ | with_reducible refine s_tup ?_ | with_reducible refine s_lst ?_ | with_reducible refine s_bm ?_ | with_reducible refine s_bm0 ?_ | with_reducible refine s_bmT ?_ | with_reducible refine s_fld ?_ | with_reducible refine s_dget ?_ | with_reducible refine s_sl ?_ | with_reducible refine s_part ?_ | with_reducible refine s_nopart ?_ | with_reducible refine s_seq ?_ | with_reducible refine s_next ?_ | with_reducible refine s_asg ?_ | with_reducible refine s_gn ?_ | with_reducible refine s_gc ?_ | with_reducible refine s_g0 ?_ | with_reducible refine s_gs ?_ | with_reducible refine s_ret ?_ | with_reducible refine s_ifS ?_ | with_reducible refine s_drop ?_ | with_reducible refine s_augS ?_ | ((with_reducible show tAug _ _ _ _ _ _); refine s_aug rfl ?_) | with_reducible refine s_ipI ?_ | with_reducible refine s_for ?_ | with_reducible refine s_iseq ?_ | with_reducible refine s_rng1 ?_ | with_reducible refine s_izip ?_ | with_reducible refine s_lc ?_ | with_reducible refine s_lc2 ?_ | with_reducible refine s_lstRg ?_ | with_reducible refine s_rg1 ?_ | with_reducible refine s_sfld ?_ | with_reducible refine s_ienum ?_ | with_reducible refine s_disp ?_ | with_reducible refine s_pc ?_ | with_reducible refine s_pn ?_)
local macro_rules | `(tactic| walk_at "rd") => `(tactic| repeat walk_at "r1")

section
variable {P : Program} {w : World} {K : PySem.W.Frag} {mg : Str → Option Value} {base : Heap} {C : Addr}
abbrev s_Bench_is_stand : Stmt := inClass (topS 15) 9
abbrev n_Bench_is_stand : List Str := ["self", "thing"]
theorem sc_Bench_is_stand : FnScope ["self", "thing"] ["self", "thing"] (defScope s_Bench_is_stand) := ⟨rfl, rfl, rfl, by decide +kernel, rfl, by decide +kernel, by decide +kernel⟩
theorem all_isInt (ns : List Int) : (ns.map V.int).all isInt = true := by
  rw [List.all_map]
  exact List.all_eq_true.mpr fun _ _ => rfl
theorem kn_int {H : Hp} {ns : List Int} : ∀ x ∈ ns.map V.int, Kn K H x := fun x h => by
  obtain ⟨n, _, rfl⟩ := List.mem_map.mp h
  exact .inl ⟨n, rfl⟩
/-- is_stand of a thing whose kind is known -/
def spIsStand (K : PySem.W.Frag) (C : Addr) : Sp := fun vs H Q _ => ∃ b B, BOk B ∧ BenchAt K C H b B ∧ ((∃ a xs, vs = [.ref b, .ref a] ∧ SqT K H a xs ∧ xs.length ≤ 1000 ∧ (∀ x ∈ xs, Kn K H x) ∧ ∀ H', Same H H' → Q (.bl (decide (xs.length = B.heavy.length) && xs.all isInt)) H') ∨
  (∃ x, vs = [.ref b, x] ∧ ((∃ n, x = .int n) ∨ (∃ b, x = .bl b) ∨ x = .non ∨ (∃ z, x = .str z) ∨ (∃ a xs, x = .ref a ∧ SqL K H a xs)) ∧ Q (.bl false) H))
theorem ok_is_stand (B0 : Blt mg) (T : Txt K mg C) (d_are_wholes : Def P w K mg base 2 "are_wholes" ["thing", "many"] (spAreWholes K)) (F : MethAt K C "is_stand" "Bench.is_stand" s_Bench_is_stand ["self", "thing"]) : DefM P w K mg base 3 C "is_stand" ["self", "thing"] (spIsStand K C) := by
  refine F.def (k := 2) sc_Bench_is_stand (fun vs H Q E h => ?_) (fun f cdv A outer s H vs Q E hr h => ?_)
  · obtain ⟨b, B, _, _, ⟨a, xs, rfl, _⟩ | ⟨x, rfl, _⟩⟩ := h
    · rfl
    · rfl
  · obtain ⟨b, B1, ok, hB, h⟩ := h
    obtain ⟨dx, l1, l2, l3, l4, hb, h1, h2, h3, h4⟩ := hB.ex
    have B := B0
    rcases h with ⟨a, xs, rfl, ht, hl, hk, q⟩ | ⟨x, rfl, hx, q⟩
    · refine ⟨_, (pss_one (ps_ret (pe_d d_are_wholes (hr.mono (by decide)) (by rfl) (pa_cons (pv 1) (pa_cons (pe_callB (k_len (K := K) rfl) (by rfl) B.len bb_len (pa_cons (k_fld (K := K) rfl (pv 0) rfl) pa_nil)) pa_nil))))), ?_⟩; refine start_eq (σ' := [some (.ref b), some (.ref a)]) rfl ?_
      walk_at "rd"
      refine ⟨_, _, _, _, _, rfl, hb, T.cl, T.n_heavy, fl_heavy, ?_⟩
      walk_at "rd"
      refine s_lenL h3 ?_
      walk_at "rd"
      refine .inl ⟨a, _, xs, rfl, ht, hl, hk, fun H' e => ?_⟩
      have := q H' e
      rw [List.length_map]
      have e2 : decide ((xs.length : Int) = (B1.heavy.length : Int)) = decide (xs.length = B1.heavy.length) := by
        by_cases h : xs.length = B1.heavy.length
        · simp [h]
        · simp [h]
          omega
      rw [e2]
      exact this
    · refine ⟨_, (pss_one (ps_ret (pe_d d_are_wholes (hr.mono (by decide)) (by rfl) (pa_cons (pv 1) (pa_cons (pe_callB (k_len (K := K) rfl) (by rfl) B.len bb_len (pa_cons (k_fld (K := K) rfl (pv 0) rfl) pa_nil)) pa_nil))))), ?_⟩; refine start_eq (σ' := [some (.ref b), some (x)]) rfl ?_
      walk_at "rd"
      refine ⟨_, _, _, _, _, rfl, hb, T.cl, T.n_heavy, fl_heavy, ?_⟩
      walk_at "rd"
      refine s_lenL h3 ?_
      walk_at "rd"
      exact .inr ⟨x, _, rfl, hx, q⟩
def spSureStand (K : PySem.W.Frag) (C : Addr) : Sp := fun vs H Q _ => ∃ b B s hs, vs = [.ref b, .ref s] ∧ GB K C H b s B hs ∧ ∀ H', Same H H' → Q .non H'
def spSureNumber (K : PySem.W.Frag) (C : Addr) : Sp := fun vs H Q _ => ∃ b B k, vs = [.ref b, .int (k : Nat)] ∧ BOk B ∧ BenchAt K C H b B ∧ k < B.told.length ∧ Q .non H
def spIsRest (K : PySem.W.Frag) (C : Addr) : Sp := fun vs H Q _ => ∃ b B s hs, vs = [.ref b, .ref s] ∧ GB K C H b s B hs ∧ ∀ H', Same H H' → Q (.bl (decide (taking B hs = []))) H'
end
end G

namespace G
open PySem PySem.Spec PyProof.Rows L2
local macro_rules | `(tactic| walk_at "lk") => `(tactic| first | assumption | exact rT_at | exact rL_at | exact upd_same | (refine sqT_mono ?_ (by assumption); assumption) | (refine sqL_mono ?_ (by assumption); assumption) | (refine rT_new (by assumption) ?_; walk_at "lk") | (refine rL_new (by assumption) ?_; walk_at "lk") | (refine rH_new (by assumption) ?_; walk_at "lk") | (refine rD_new (by assumption) ?_; walk_at "lk") | (refine dp_mono ?_ (by assumption); assumption))
local macro_rules | `(tactic| walk_at "r1") => `(tactic| first | ((with_reducible show tVar _ _ _ _); refine s_var rfl ?_) | with_reducible refine s_c ?_ | with_reducible refine s_op ?_ | with_reducible refine s_un ?_ | with_reducible refine s_neg ?_ | with_reducible refine s_test ?_ | with_reducible refine s_B ?_ | with_reducible refine s_bl ?_ | with_reducible refine s_not ?_ | with_reducible refine s_yes ?_ | with_reducible refine s_and ?_ | with_reducible refine s_or ?_ | with_reducible refine s_notV ?_ | with_reducible refine s_andV ?_ | with_reducible refine s_orV ?_ | with_reducible refine s_if ?_ | with_reducible refine s_cT ?_ | with_reducible refine s_cF ?_ | with_reducible refine s_nT ?_ | with_reducible refine s_nF ?_ | with_reducible refine s_addI ?_ | with_reducible refine s_eqI ?_ | with_reducible refine s_neI ?_ | with_reducible refine s_eqB ?_ | with_reducible refine s_neB ?_ | with_reducible refine s_I0 ?_ | with_reducible refine s_non ?_ | with_reducible refine s_int ?_ | with_reducible refine s_chain ?_ | with_reducible refine s_cons ?_ | with_reducible refine s_nil ?_ | with_reducible refine s_call ?_ | with_reducible refine s_cb ?_ | with_reducible refine s_meth ?_ | with_reducible refine s_make ?_ | with_reducible refine s_tup ?_ | with_reducible refine s_lst ?_ | with_reducible refine s_bm ?_ | with_reducible refine s_bm0 ?_ | with_reducible refine s_bmT ?_ | with_reducible refine s_fld ?_ | with_reducible refine s_dget ?_ | with_reducible refine s_sl ?_ | with_reducible refine s_part ?_ | with_reducible refine s_nopart ?_ | with_reducible refine s_seq ?_ | with_reducible refine s_next ?_ | with_reducible refine s_asg ?_ | with_reducible refine s_gn ?_ | with_reducible refine s_gc ?_ | with_reducible refine s_g0 ?_ | with_reducible refine s_gs ?_ | with_reducible refine s_ret ?_ | with_reducible refine s_ifS ?_ | with_reducible refine s_drop ?_ | with_reducible refine s_augS ?_ | ((with_reducible show tAug _ _ _ _ _ _); refine s_aug rfl ?_) | with_reducible refine s_ipI ?_ | with_reducible refine s_for ?_ | with_reducible refine s_iseq ?_ | with_reducible refine s_rng1 ?_ | with_reducible refine s_izip ?_ | with_reducible refine s_lc ?_ | with_reducible refine s_lc2 ?_ | with_reducible refine s_lstRg ?_ | with_reducible refine s_rg1 ?_ | with_reducible refine s_sfld ?_ | with_reducible refine s_ienum ?_ | with_reducible refine s_disp ?_ | with_reducible refine s_pc ?_ | with_reducible refine s_pn ?_)
local macro_rules | `(tactic| walk_at "rd") => `(tactic| repeat walk_at "r1")

section
variable {P : Program} {w : World} {K : PySem.W.Frag} {mg : Str → Option Value} {base : Heap} {C : Addr}
abbrev s_is_hardness : Stmt := topS 12
abbrev n_is_hardness : List Str := ["thing", "one"]
theorem sc_is_hardness : FnScope ["thing", "one"] ["thing"] (defScope s_is_hardness) := ⟨rfl, rfl, rfl, by decide +kernel, rfl, by decide +kernel, by decide +kernel⟩
theorem kn_mono {H H' : Hp} {x : V} (e : Same H H') (h : Kn K H x) : Kn K H' x := by
  rcases h with h | h | h | h | ⟨b, ys, h1, h2⟩ | ⟨b, ys, h1, h2⟩
  · exact .inl h
  · exact .inr (.inl h)
  · exact .inr (.inr (.inl h))
  · exact .inr (.inr (.inr (.inl h)))
  · exact .inr (.inr (.inr (.inr (.inl ⟨b, ys, h1, sqL_mono e h2⟩))))
  · exact .inr (.inr (.inr (.inr (.inr ⟨b, ys, h1, sqT_mono e h2⟩))))
/-- of a list of things whose kinds are known -/
def spIsHard (K : PySem.W.Frag) : Sp := fun vs H Q _ => ∃ a xs, vs = [.ref a] ∧ SqL K H a xs ∧ xs.length ≤ 1000 ∧ (∀ x ∈ xs, Kn K H x) ∧ ∀ H', Same H H' → Q (.bl (decide (2 ≤ xs.length ∧ xs.length ≤ 4) && xs.all fun x => wholeV x (some 1) (some 9))) H'
theorem ok_is_hardness (B : Blt mg) (T : Txt K mg C) (d_is_whole : Def P w K mg base 1 "is_whole" ["thing", "low", "high"] (spIsWhole K)) (F : FunAt K mg "is_hardness" s_is_hardness ["thing"]) : Def P w K mg base 2 "is_hardness" ["thing"] (spIsHard K) := by
  refine F.def (k := 1) sc_is_hardness (fun vs H Q E h => ?_) (fun f cdv A outer s H vs Q E hr h => ?_)
  · obtain ⟨a, xs, rfl, _⟩ := h
    rfl
  · obtain ⟨a, xs, rfl, ha, hl, hk, q⟩ := h
    obtain ⟨_, g_MOST_PLATES⟩ := T.g_MOST_PLATES
    obtain ⟨_, g_MOST_HARDNESS⟩ := T.g_MOST_HARDNESS
    refine ⟨_, (pss_cons (ps_if (PW.pt (pw_or (pt_not (pt_val (pe_callB (k_isi (K := K) rfl) (by rfl) B.isinstance bb_isinstance (pa_cons (pv 0) (pa_cons (pe_bltn (v := .ty "list") (by rfl) B.list bb_list rfl) pa_nil))))) (pw_or1 (pt_not (pt_chain op_le op_le pe_int (pe_callB (k_len (K := K) rfl) (by rfl) B.len bb_len (pa_cons (pv 0) pa_nil)) (pe_glob (v := .int 4) rfl g_MOST_PLATES ⟨_, rfl⟩)))))) (pss_one (ps_ret pe_bl)) pss_nil) (pss_one (ps_ret (pe_callB (k_all (K := K) rfl rfl) (by rfl) B.all bb_all (pa_cons (pe_lc (own := [("one", 1)]) rfl sc_is_hardness.nd (k_seq (K := K) rfl (pv 0)) (blkOk_by (own := [("one", 1)]) (N := n_is_hardness) (sc := defScope s_is_hardness) (by decide +kernel)) (fun _ _ _ _ _ => (pg_name (i := 1) sc_is_hardness.nd rfl (Or.inl rfl))) (fun _ _ _ _ _ => pts_nil) (fun _ _ _ _ _ => (pe_d d_is_whole (hr.mono (by decide)) (by rfl) (pa_cons (pv 1) (pa_cons pe_int (pa_cons (pe_glob (v := .int 9) rfl g_MOST_HARDNESS ⟨_, rfl⟩) pa_nil)))))) pa_nil))))), ?_⟩; refine start_eq (σ' := [some (.ref a), none]) rfl ?_
    walk_at "rd"
    refine isB (ty_lst ha) kb_ll ?_
    walk_at "rd"
    refine s_lenL ha ?_
    walk_at "rd"
    have no : ¬ (2 ≤ xs.length ∧ xs.length ≤ 4) → Q (.bl false) H := fun h => by
      have := q H (Same.refl H)
      rw [decide_eq_false h] at this
      exact this
    refine s_d2 (fun e1 => ?_) (fun e1 => ?_)
    · walk_at "rd"
      refine s_n2 (fun e2 => ?_) (fun e2 => ?_)
      · walk_at "rd"
        exact no (by omega)
      · walk_at "rd"
        refine .inl ⟨_, rfl, ⟨_, ha⟩, ?_⟩
        refine lc_map (walk_list (xs := xs)) (F := H) (Same.refl H) (by omega) (fun H' e' => sqL_mono e' ha) (fun i _ v => ∃ x, xs[i]? = some x ∧ v = .bl (wholeV x (some 1) (some 9))) (fun _ _ _ _ _ h => h) (fun i x F' H1 H2 D Z hi ex _ _ hy hz => ?_) (fun D ys F' H' hD ex hd hlen hR => ?_)
        · obtain ⟨rfl, hx⟩ := hy
          walk_at "rd"
          refine ⟨rfl, ?_⟩
          walk_at "rd"
          exact ⟨x, some 1, some 9, rfl, kn_mono ex.hh (hk x (List.mem_of_getElem? hx)), hz _ F' _ (Ext.refl ex.fh) ⟨x, hx, rfl⟩⟩
        · walk_at "rd"
          have hys : ys = (xs.map fun x => wholeV x (some 1) (some 9)).map V.bl := by
            refine List.ext_getElem? fun i => ?_
            cases hv : ys[i]? with
            | none =>
              have : ys.length ≤ i := List.getElem?_eq_none_iff.mp hv
              rw [List.getElem?_eq_none (by simp; omega)]
            | some v =>
              obtain ⟨x, h1, rfl⟩ := hR i v hv
              simp [h1]
          subst hys
          refine s_all (.inl (.inl (ex.fh _ _ hd))) ?_
          have := q H' ex.hh
          rw [decide_eq_true (by omega), Bool.true_and] at this
          rw [List.all_map]
          exact this
    · walk_at "rd"
      exact no (by omega)
abbrev s_is_turn : Stmt := topS 13
abbrev n_is_turn : List Str := ["thing", "places"]
theorem sc_is_turn : FnScope ["thing", "places"] ["thing", "places"] (defScope s_is_turn) := ⟨rfl, rfl, rfl, by decide +kernel, rfl, by decide +kernel, by decide +kernel⟩
/-- of a turn that is one -/
def spIsTurn (K : PySem.W.Frag) : Sp := fun vs H Q _ => ∃ a, ∃ (tn : List Nat) (n : Nat), vs = [.ref a, .int n] ∧ SqT K H a (tn.map fun (x : Nat) => V.int x) ∧ tn.Perm (List.range n) ∧ n ≤ 50 ∧ ∀ H', Same H H' → Q (.bl true) H'
theorem natV (l : List Nat) : (l.map fun (x : Nat) => V.int x) = (l.map fun (x : Nat) => (x : Int)).map V.int := by rw [List.map_map]; rfl
theorem range_up (n : Nat) : ((List.range n).map fun (x : Nat) => (x : Int)).Pairwise (· ≤ ·) := by
  rw [List.pairwise_map]
  exact List.pairwise_lt_range.imp fun h => by omega
theorem rgV_nat (n : Nat) : rgV 0 n = ((List.range n).map fun (x : Nat) => (x : Int)).map V.int := by
  unfold rgV
  rw [List.map_map]
  simp
theorem ok_is_turn (B : Blt mg) (d_are_wholes : Def P w K mg base 2 "are_wholes" ["thing", "many"] (spAreWholes K)) (F : FunAt K mg "is_turn" s_is_turn ["thing", "places"]) : Def P w K mg base 3 "is_turn" ["thing", "places"] (spIsTurn K) := by
  refine F.def (k := 2) sc_is_turn (fun vs H Q E h => ?_) (fun f cdv A outer s H vs Q E hr h => ?_)
  · obtain ⟨a, tn, n, rfl, _⟩ := h
    rfl
  · obtain ⟨a, tn, n, rfl, ht, hp, hn, q⟩ := h
    rw [natV] at ht
    have len : tn.length = n := by rw [hp.length_eq, List.length_range]
    refine ⟨_, (pss_one (ps_ret (pe_and (pe_d d_are_wholes (hr.mono (by decide)) (by rfl) (pa_cons (pv 0) (pa_cons (pv 1) pa_nil))) (pe_one (pe_cmpR (k_eq (K := K) rfl hr.units) (pe_callB (k_sorted (K := K) rfl) (by rfl) B.sorted bb_sorted (pa_cons (pv 0) pa_nil)) (pe_listRg rfl (by rfl) B.list (prg_1 (by rfl) B.range (pv 1))) (nomark _)))))), ?_⟩; refine start_eq (σ' := [some (.ref a), some (.int n)]) rfl ?_
    walk_at "rd"
    refine .inl ⟨a, n, _, rfl, ht, by simp; omega, kn_int, fun H1 s1 => ?_⟩
    rw [all_isInt, List.length_map, List.length_map, decide_eq_true (by omega), Bool.true_and]
    walk_at "rd"
    refine .inr ⟨a, _, rfl, sqT_mono s1 ht, by simp; omega, fun ns p perm up np => ?_⟩
    walk_at "rd"
    refine ⟨RgOk.of_le (by omega) (by omega) (by omega) (by omega), fun o no => ?_⟩
    have e : ns = (List.range n).map fun (x : Nat) => (x : Int) := (perm.trans (hp.map _)).eq_of_pairwise (fun _ _ _ _ a b => Int.le_antisymm a b) up (range_up n)
    rw [rgV_nat, ← e]
    refine s_eqD (dp_lstI (rL_new no rL_at)) (dp_lstI rL_at) (sh_shaped (sh_listI _)) (sh_shaped (sh_listI _)) ?_
    rw [eqv_self (sh_listI ns)]
    exact q _ ((s1.trans (same_upd np)).trans (same_upd no))
abbrev s_is_grinding : Stmt := topS 14
abbrev n_is_grinding : List Str := ["thing", "plates", "places"]
theorem sc_is_grinding : FnScope ["thing", "plates", "places"] ["thing", "plates", "places"] (defScope s_is_grinding) := ⟨rfl, rfl, rfl, by decide +kernel, rfl, by decide +kernel, by decide +kernel⟩
def spIsGrind (K : PySem.W.Frag) : Sp := fun vs H Q _ => ∃ v, ∃ (g : Nat × Nat × List Nat) (m n : Nat), vs = [v, .int m, .int n] ∧ Dp K H v (gD g) ∧ g.1 < m ∧ g.2.1 < m ∧ g.1 ≠ g.2.1 ∧ g.2.2.Perm (List.range n) ∧ n ≤ 50 ∧ ∀ H', Same H H' → Q (.bl true) H'
theorem gD_at {H : Hp} {v : V} {g : Nat × Nat × List Nat} (h : Dp K H v (gD g)) : ∃ a c, v = .ref a ∧ SqT K H a [.int g.1, .int g.2.1, .ref c] ∧ SqT K H c (g.2.2.map fun (x : Nat) => V.int x) := by
  obtain ⟨a, xs, rfl, h1, h2⟩ := dp_refT h
  cases h2 with
  | cons e1 h2 =>
    cases h2 with
    | cons e2 h2 =>
      cases h2 with
      | cons e3 h2 =>
        cases h2
        cases e1
        cases e2
        obtain ⟨c, ys, rfl, h3, h4⟩ := dp_refT e3
        have : ys = (g.2.2.map fun (x : Nat) => (x : Int)).map V.int := dpAll_ints (by rw [List.map_map]; exact h4)
        subst this
        rw [← natV] at h3
        exact ⟨a, c, rfl, h1, h3⟩
theorem whole_in {k m : Nat} (h : k < m) : wholeV (.int k) (some 0) (some ((m : Int) - 1)) = true := by
  show (decide ((0 : Int) ≤ k) && decide ((k : Int) ≤ (m : Int) - 1)) = true
  rw [decide_eq_true (by omega), decide_eq_true (by omega)]
  rfl
theorem ok_is_grinding (B : Blt mg) (d_is_whole : Def P w K mg base 1 "is_whole" ["thing", "low", "high"] (spIsWhole K)) (d_is_turn : Def P w K mg base 3 "is_turn" ["thing", "places"] (spIsTurn K)) (F : FunAt K mg "is_grinding" s_is_grinding ["thing", "plates", "places"]) : Def P w K mg base 4 "is_grinding" ["thing", "plates", "places"] (spIsGrind K) := by
  refine F.def (k := 3) sc_is_grinding (fun vs H Q E h => ?_) (fun f cdv A outer s H vs Q E hr h => ?_)
  · obtain ⟨v, g, m, n, rfl, _⟩ := h
    rfl
  · obtain ⟨v, g, m, n, rfl, hg, h1, h2, h3, h4, hn, q⟩ := h
    obtain ⟨a, c, rfl, ha, hc⟩ := gD_at hg
    refine ⟨_, (pss_cons (ps_if (PW.pt (pw_or (pt_not (pt_val (pe_callB (k_isi (K := K) rfl) (by rfl) B.isinstance bb_isinstance (pa_cons (pv 0) (pa_cons (pe_bltn (v := .ty "tuple") (by rfl) B.tuple bb_tuple rfl) pa_nil))))) (pw_or1 (pt_cmpR (k_ne (K := K) rfl hr.units) (pe_callB (k_len (K := K) rfl) (by rfl) B.len bb_len (pa_cons (pv 0) pa_nil)) pe_int (nomark _))))) (pss_one (ps_ret pe_bl)) pss_nil) (pss_cons (ps_if (PW.pt (pw_or (pt_not (pt_val (pe_d d_is_whole (hr.mono (by decide)) (by rfl) (pa_cons (pe_ix (k_ix (K := K) rfl) (pv 0) pe_int (fun _ _ => rfl)) (pa_cons pe_int (pa_cons (pe_op op_sub (pv 1) pe_int) pa_nil)))))) (pw_or1 (pt_not (pt_val (pe_d d_is_whole (hr.mono (by decide)) (by rfl) (pa_cons (pe_ix (k_ix (K := K) rfl) (pv 0) pe_int (fun _ _ => rfl)) (pa_cons pe_int (pa_cons (pe_op op_sub (pv 1) pe_int) pa_nil))))))))) (pss_one (ps_ret pe_bl)) pss_nil) (pss_one (ps_ret (pe_and (pe_cmpR (k_ne (K := K) rfl hr.units) (pe_ix (k_ix (K := K) rfl) (pv 0) pe_int (fun _ _ => rfl)) (pe_ix (k_ix (K := K) rfl) (pv 0) pe_int (fun _ _ => rfl)) (nomark _)) (pe_one (pe_d d_is_turn (hr.mono (by decide)) (by rfl) (pa_cons (pe_ix (k_ix (K := K) rfl) (pv 0) pe_int (fun _ _ => rfl)) (pa_cons (pv 2) pa_nil))))))))), ?_⟩; refine start_eq (σ' := [some (.ref a), some (.int m), some (.int n)]) rfl ?_
    walk_at "rd"
    refine isB (ty_tup ha) kb_tt ?_
    walk_at "rd"
    refine s_lenT ha ?_
    walk_at "rd"
    refine s_n2 (fun e => absurd rfl e) (fun _ => ?_)
    walk_at "rd"
    refine s_ixT ha rfl ?_
    walk_at "rd"
    refine ⟨.int g.1, some 0, some ((m : Int) - 1), rfl, .inl ⟨_, rfl⟩, ?_⟩
    rw [whole_in h1]
    walk_at "rd"
    refine s_ixT ha rfl ?_
    walk_at "rd"
    refine ⟨.int g.2.1, some 0, some ((m : Int) - 1), rfl, .inl ⟨_, rfl⟩, ?_⟩
    rw [whole_in h2]
    walk_at "rd"
    refine s_ixT ha rfl ?_
    walk_at "rd"
    refine s_ixT ha rfl ?_
    walk_at "rd"
    rw [decide_eq_false (show ¬ ((g.1 : Int) = (g.2.1 : Int)) by omega)]
    walk_at "rd"
    refine s_ixT ha rfl ?_
    walk_at "rd"
    exact ⟨c, g.2.2, n, rfl, hc, h4, hn, q⟩
abbrev s_Bench_pairs_of : Stmt := inClass (topS 15) 1
abbrev n_Bench_pairs_of : List Str := ["self", "grinding", "plate", "other", "turn", "place"]
theorem sc_Bench_pairs_of : FnScope ["self", "grinding", "plate", "other", "turn", "place"] ["self", "grinding"] (defScope s_Bench_pairs_of) := ⟨rfl, rfl, rfl, by decide +kernel, rfl, by decide +kernel, by decide +kernel⟩
def spPairsOf (K : PySem.W.Frag) (C : Addr) : Sp := fun vs H Q _ => ∃ b dx fs, ∃ (n : Nat) (g : Nat × Nat × List Nat) (gv : V) (F : Hp), vs = [.ref b, gv] ∧ H b = some (.ins C dx fs) ∧ fs.lookup ("places" : Str) = some (.int n) ∧ Dp K H gv (gD g) ∧ g.2.2.length = n ∧ n ≤ 50 ∧ g.1 ≤ 50 ∧ g.2.1 ≤ 50 ∧ Same F H ∧
  ∀ v F' H', Ext F H F' H' → Dp K F' v (.list ((pairsOf n g).map pD)) → Q v H'
theorem ok_pairs_of (B : Blt mg) (T : Txt K mg C) (F : MethAt K C "pairs_of" "Bench.pairs_of" s_Bench_pairs_of ["self", "grinding"]) : DefM P w K mg base 1 C "pairs_of" ["self", "grinding"] (spPairsOf K C) := by
  refine F.def (k := 0) sc_Bench_pairs_of (fun vs H Q E h => ?_) (fun f cdv A outer s H vs Q E hr h => ?_)
  · obtain ⟨b, dx, fs, n, g, gv, F, rfl, _⟩ := h
    rfl
  · obtain ⟨b, dx, fs, n, g, gv, F, rfl, hb, hfs, hg, hl, hn, hg1, hg2, hF, q⟩ := h
    obtain ⟨a, c, rfl, ha, hc⟩ := gD_at hg
    rw [natV] at hc
    refine ⟨_, (pss_cons (ps_asg (pv 1) (k_tup (K := K) (n := 3) rfl rfl (pgs_cons (pg_name (i := 2) sc_Bench_pairs_of.nd rfl (Or.inr rfl)) (pgs_cons (pg_name (i := 3) sc_Bench_pairs_of.nd rfl (Or.inr rfl)) (pgs_cons (pg_name (i := 4) sc_Bench_pairs_of.nd rfl (Or.inr rfl)) pgs_nil))))) (pss_one (ps_ret (pe_lc (own := [("place", 5)]) rfl sc_Bench_pairs_of.nd (pi_range1 (by rfl) B.range (pa_cons (k_fld (K := K) rfl (pv 0) rfl) pa_nil)) (blkOk_by (own := [("place", 5)]) (N := n_Bench_pairs_of) (sc := defScope s_Bench_pairs_of) (by decide +kernel)) (fun _ _ _ _ _ => (pg_name (i := 5) sc_Bench_pairs_of.nd rfl (Or.inl rfl))) (fun _ _ _ _ _ => pts_nil) (fun _ _ _ _ _ => (pe_tup (pa_cons (pe_op (k_add (K := K) rfl) (pe_op opMulU (pv 2) (k_fld (K := K) rfl (pv 0) rfl)) (pv 5)) (pa_cons (pe_op (k_add (K := K) rfl) (pe_op opMulU (pv 3) (k_fld (K := K) rfl (pv 0) rfl)) (pe_ix (k_ix (K := K) rfl) (pv 4) (pv 5) (fun _ _ => rfl))) pa_nil)))))))), ?_⟩; refine start_eq (σ' := [some (.ref b), some (.ref a), none, none, none, none]) rfl ?_
    walk_at "rd"
    refine s_gt ha rfl ?_
    walk_at "rd"
    refine ⟨_, _, _, _, _, rfl, hb, T.cl, T.n_places, hfs, ?_⟩
    walk_at "rd"
    refine ⟨_, rfl, by omega, by omega, ?_⟩
    refine lc_map walk_range hF (by omega) (fun _ _ => trivial) (fun i F' v => Dp K F' v (pD (g.1 * n + i, g.2.1 * n + g.2.2.getD i 0))) (fun _ _ _ _ e h => dp_mono e h) (fun i x F' H1 H2 D Z hi ex fd _ hy hz => ?_) (fun D ys F' H' hD ex hd hlen hR => ?_)
    · obtain ⟨rfl, rfl⟩ := hy
      have hi' : i < n := by omega
      walk_at "rd"
      refine ⟨rfl, ?_⟩
      walk_at "rd"
      refine ⟨_, _, _, _, _, rfl, ex.hh _ _ hb, T.cl, T.n_places, hfs, ?_⟩
      refine s_mulI (.inl ⟨by omega, by omega⟩) ?_
      walk_at "rd"
      refine ⟨_, _, _, _, _, rfl, ex.hh _ _ hb, T.cl, T.n_places, hfs, ?_⟩
      refine s_mulI (.inl ⟨by omega, by omega⟩) ?_
      walk_at "rd"
      refine s_ixT (sqT_mono ex.hh hc) (by rw [Int.zero_add]; exact at_int (by simp; omega)) ?_
      walk_at "rd"
      refine ⟨by show 2 ≤ sizeLine; decide, fun p hp => ?_⟩
      refine hz (.ref p) _ _ ((Ext.refl ex.fh).new hp) ?_
      have e1 : ((g.2.2.map fun (x : Nat) => (x : Int)).getD i 0) = ((g.2.2.getD i 0 : Nat) : Int) := by
        rw [List.getD_eq_getElem?_getD, List.getD_eq_getElem?_getD, List.getElem?_map]
        cases g.2.2[i]? <;> rfl
      rw [e1, Int.zero_add]
      refine dp_tupI (ns := [_, _]) ?_
      simp only [List.map_cons, List.map_nil, Int.natCast_add, Int.natCast_mul]
      exact rT_at
    · refine q (.ref D) F' H' ex (.lst (.inl (.inl hd)) (dpAll_of ?_ fun i v d h1 h2 => ?_))
      · rw [hlen, List.length_map]
        simp [pairsOf]
      · have hi : i < n := by
          have := (List.getElem?_eq_some_iff.mp h1).1
          omega
        rw [List.getElem?_map] at h2
        simp only [pairsOf, List.getElem?_map, List.getElem?_range hi, Option.map_some] at h2
        cases h2
        exact hR i v h1
end
end G

namespace G
open PySem PySem.Spec PyProof.Rows L2
local macro_rules | `(tactic| walk_at "lk") => `(tactic| first | assumption | exact rT_at | exact rL_at | exact upd_same | (refine sqT_mono ?_ (by assumption); assumption) | (refine sqL_mono ?_ (by assumption); assumption) | (refine rT_new (by assumption) ?_; walk_at "lk") | (refine rL_new (by assumption) ?_; walk_at "lk") | (refine rH_new (by assumption) ?_; walk_at "lk") | (refine rD_new (by assumption) ?_; walk_at "lk") | (refine dp_mono ?_ (by assumption); assumption))
local macro_rules | `(tactic| walk_at "r1") => `(tactic| first | ((with_reducible show tVar _ _ _ _); refine s_var rfl ?_) | with_reducible refine s_c ?_ | with_reducible refine s_op ?_ | with_reducible refine s_un ?_ | with_reducible refine s_neg ?_ | with_reducible refine s_test ?_ | with_reducible refine s_B ?_ | with_reducible refine s_bl ?_ | with_reducible refine s_not ?_ | with_reducible refine s_yes ?_ | with_reducible refine s_and ?_ | with_reducible refine s_or ?_ | with_reducible refine s_notV ?_ | with_reducible refine s_andV ?_ | with_reducible refine s_orV ?_ | with_reducible refine s_if ?_ | with_reducible refine s_cT ?_ | with_reducible refine s_cF ?_ | with_reducible refine s_nT ?_ | with_reducible refine s_nF ?_ | with_reducible refine s_addI ?_ | with_reducible refine s_eqI ?_ | with_reducible refine s_neI ?_ | with_reducible refine s_eqB ?_ | with_reducible refine s_neB ?_ | with_reducible refine s_I0 ?_ | with_reducible refine s_non ?_ | with_reducible refine s_int ?_ | with_reducible refine s_chain ?_ | with_reducible refine s_cons ?_ | with_reducible refine s_nil ?_ | with_reducible refine s_call ?_ | with_reducible refine s_cb ?_ | with_reducible refine s_meth ?_ | with_reducible refine s_make ?_ | with_reducible refine s_tup ?_ | with_reducible refine s_lst ?_ | with_reducible refine s_bm ?_ | with_reducible refine s_bm0 ?_ | with_reducible refine s_bmT ?_ | with_reducible refine s_fld ?_ | with_reducible refine s_dget ?_ | with_reducible refine s_sl ?_ | with_reducible refine s_part ?_ | with_reducible refine s_nopart ?_ | with_reducible refine s_seq ?_ | with_reducible refine s_next ?_ | with_reducible refine s_asg ?_ | with_reducible refine s_gn ?_ | with_reducible refine s_gc ?_ | with_reducible refine s_g0 ?_ | with_reducible refine s_gs ?_ | with_reducible refine s_ret ?_ | with_reducible refine s_ifS ?_ | with_reducible refine s_drop ?_ | with_reducible refine s_augS ?_ | ((with_reducible show tAug _ _ _ _ _ _); refine s_aug rfl ?_) | with_reducible refine s_ipI ?_ | with_reducible refine s_for ?_ | with_reducible refine s_iseq ?_ | with_reducible refine s_rng1 ?_ | with_reducible refine s_izip ?_ | with_reducible refine s_lc ?_ | with_reducible refine s_lc2 ?_ | with_reducible refine s_lstRg ?_ | with_reducible refine s_rg1 ?_ | with_reducible refine s_sfld ?_ | with_reducible refine s_ienum ?_ | with_reducible refine s_disp ?_ | with_reducible refine s_pc ?_ | with_reducible refine s_pn ?_)
local macro_rules | `(tactic| walk_at "rd") => `(tactic| repeat walk_at "r1")

section
variable {P : Program} {w : World} {K : PySem.W.Frag} {mg : Str → Option Value} {base : Heap} {C : Addr}
abbrev s_Bench___init__ : Stmt := inClass (topS 15) 0
abbrev n_Bench___init__ : List Str := ["self", "hardness", "places", "grindings", "at", "thing", "one", "place"]
theorem sc_Bench___init__ : FnScope ["self", "hardness", "places", "grindings", "at", "thing", "one", "place"] ["self", "hardness", "places", "grindings"] (defScope s_Bench___init__) := ⟨rfl, rfl, rfl, by decide +kernel, rfl, by decide +kernel, by decide +kernel⟩
/-- H1, F1: all and its frozen part ahead of the new instance x -/
def spInit (K : PySem.W.Frag) (C : Addr) : Sp := fun vs H Q _ => ∃ x dx lh lg B H1 F1 gx, vs = [.ref x, .ref lh, .int (B.places : Int), .ref lg] ∧ H = upd (upd H1 dx (.own x)) x (.ins C dx []) ∧ H1 x = none ∧ H1 dx = none ∧ dx ≠ x ∧ Same F1 H1 ∧ BOk B ∧ SqL K H1 lh (B.hard.map V.int) ∧ SqL K H1 lg gx ∧ DpAll K F1 gx (B.told.map gD) ∧
  ∀ F' H', Ext F1 H1 F' H' → BenchAt K C F' x B → Q .non H'
theorem hard_whole {B : BD} (ok : BOk B) : ((B.hard.map V.int).all fun x => wholeV x (some 1) (some 9)) = true := by
  rw [List.all_map]
  refine List.all_eq_true.mpr fun x hx => ?_
  have := ok.hard x hx
  show (decide ((1 : Int) ≤ x) && decide (x ≤ (9 : Int))) = true
  rw [decide_eq_true (by omega), decide_eq_true (by omega)]
  rfl
theorem whole_pl {n : Nat} (h1 : 1 ≤ n) (h2 : n ≤ 3) : wholeV (.int n) (some 1) (some 3) = true := by
  show (decide ((1 : Int) ≤ n) && decide ((n : Int) ≤ 3)) = true
  rw [decide_eq_true (by omega), decide_eq_true (by omega)]
  rfl
theorem heavy_flat (l : List Int) (n : Nat) : (l.map fun h => List.replicate n (V.int h)).flatten = (l.flatMap fun h => List.replicate n h).map V.int := by
  induction l with
  | nil => rfl
  | cons a l ih => simp [ih]
theorem pf {f : Str} {v : V} {fs : List (Str × V)} {k : Nat} (h : fs.length ≤ k) : (putF f v fs).length ≤ k + 1 := by
  induction fs generalizing k with
  | nil => simp [putF]
  | cons p fs ih =>
    simp only [putF]
    split
    · simp at h ⊢; omega
    · simp at h ⊢
      have := ih (k := k - 1) (by omega)
      omega
theorem pf0 : ([] : List (Str × V)).length ≤ 0 := Nat.le_refl 0
theorem ok_init (B0 : Blt mg) (T : Txt K mg C) (d_is_hardness : Def P w K mg base 2 "is_hardness" ["thing"] (spIsHard K)) (d_is_whole : Def P w K mg base 1 "is_whole" ["thing", "low", "high"] (spIsWhole K)) (d_is_grinding : Def P w K mg base 4 "is_grinding" ["thing", "plates", "places"] (spIsGrind K))
    (d_Bench_pairs_of : DefM P w K mg base 1 C "pairs_of" ["self", "grinding"] (spPairsOf K C)) {f : Addr} {fd : FuncData} (F : Fun K "__init__" "Bench.__init__" s_Bench___init__ f fd) : FnOk P w K mg base CX0 5 f fd ["self", "hardness", "places", "grindings"] (spInit K C) := by
  refine F.ok (k := 4) sc_Bench___init__ (fun vs H Q E h => ?_) (fun cdv A outer s H vs Q E hr h => ?_)
  · obtain ⟨x, dx, lh, lg, B, H1, F1, gx, rfl, _⟩ := h
    rfl
  · obtain ⟨x, dx, lh, lg, B1, H1, F1, gx, rfl, rfl, nx, ndx, nex, hF, ok, hh, hgx, hga, q⟩ := h
    obtain ⟨_, g_MOST_PLACES⟩ := T.g_MOST_PLACES
    obtain ⟨_, g_MOST_GRINDINGS⟩ := T.g_MOST_GRINDINGS
    have B := B0
    have glen : gx.length = B1.told.length := by rw [dpAll_len hga, List.length_map]
    have e0 : Ext F1 H1 F1 (upd (upd H1 dx (.own x)) x (.ins C dx [])) := by
      refine Ext.mut (Ext.mut (Ext.refl hF) ndx) ?_
      rw [upd_ne (Ne.symm nex)]
      exact nx
    have hx0 : (upd (upd H1 dx (.own x)) x (.ins C dx [])) x = some (.ins C dx []) := upd_same
    generalize upd (upd H1 dx (.own x)) x (.ins C dx []) = H at *
    have p1 := ok.plates
    have p2 := ok.places
    have p3 := ok.told
    refine ⟨_, (pss_cons (ps_if (pt_not (pt_val (pe_d d_is_hardness (hr.mono (by decide)) (by rfl) (pa_cons (pv 1) pa_nil)))) (pss_one ps_never) pss_nil) (pss_cons (ps_if (pt_not (pt_val (pe_d d_is_whole (hr.mono (by decide)) (by rfl) (pa_cons (pv 2) (pa_cons pe_int (pa_cons (pe_glob (v := .int 3) rfl g_MOST_PLACES ⟨_, rfl⟩) pa_nil)))))) (pss_one ps_never) pss_nil) (pss_cons (ps_if (PW.pt (pw_or (pt_not (pt_val (pe_callB (k_isi (K := K) rfl) (by rfl) B.isinstance bb_isinstance (pa_cons (pv 3) (pa_cons (pe_bltn (v := .ty "list") (by rfl) B.list bb_list rfl) pa_nil))))) (pw_or1 (pt_not (pt_chain op_le op_le pe_int (pe_callB (k_len (K := K) rfl) (by rfl) B.len bb_len (pa_cons (pv 3) pa_nil)) (pe_glob (v := .int 6) rfl g_MOST_GRINDINGS ⟨_, rfl⟩)))))) (pss_one ps_never) pss_nil) (pss_cons (ps_for PassesOwn.never rfl (k_enum (K := K) rfl (by rfl) B.enumerate (pa_cons (pv 3) pa_nil)) (k_tup (K := K) (n := 2) rfl rfl (pgs_cons (pg_name (i := 4) sc_Bench___init__.nd rfl (Or.inl rfl)) (pgs_cons (pg_name (i := 5) sc_Bench___init__.nd rfl (Or.inl rfl)) pgs_nil))) (pss_one (ps_if (pt_not (pt_val (pe_d d_is_grinding (hr.mono (by decide)) (by rfl) (pa_cons (pv 5) (pa_cons (pe_callB (k_len (K := K) rfl) (by rfl) B.len bb_len (pa_cons (pv 1) pa_nil)) (pa_cons (pv 2) pa_nil)))))) (pss_one ps_never) pss_nil))) (pss_cons (k_sfld (K := K) rfl (pv 0) (pe_callTy (k_list (K := K) rfl) (by rfl) B.list bb_list (pa_cons (pv 1) pa_nil)) rfl) (pss_cons (k_sfld (K := K) rfl (pv 0) (pv 2) rfl) (pss_cons (k_sfld (K := K) rfl (pv 0) (pe_callTy (k_list (K := K) rfl) (by rfl) B.list bb_list (pa_cons (pv 3) pa_nil)) rfl) (pss_cons (k_sfld (K := K) rfl (pv 0) (pe_lc2 (own := [("one", 6), ("place", 7)]) (vs1 := [7]) rfl sc_Bench___init__.nd (k_seq (K := K) rfl (pv 1)) (blkOk_by (own := [("one", 6), ("place", 7)]) (N := n_Bench___init__) (sc := defScope s_Bench___init__) (by decide +kernel)) (by decide) (fun _ _ _ _ _ => (pg_name (i := 6) sc_Bench___init__.nd rfl (Or.inl rfl))) (fun _ _ _ _ _ => pts_nil) (fun _ _ _ _ _ => (pi_range1 (by rfl) B.range (pa_cons (pv 2) pa_nil))) (fun _ _ _ _ _ => (pg_name (i := 7) sc_Bench___init__.nd rfl (Or.inl rfl))) (fun _ _ _ _ _ => pts_nil) (fun _ _ _ _ _ => (pv 6))) rfl) (pss_one (k_sfld (K := K) rfl (pv 0) (pe_lc (own := [("thing", 5)]) rfl sc_Bench___init__.nd (k_seq (K := K) rfl (pv 3)) (blkOk_by (own := [("thing", 5)]) (N := n_Bench___init__) (sc := defScope s_Bench___init__) (by decide +kernel)) (fun _ _ _ _ _ => (pg_name (i := 5) sc_Bench___init__.nd rfl (Or.inl rfl))) (fun _ _ _ _ _ => pts_nil) (fun _ _ _ _ _ => (pe_dm d_Bench_pairs_of (hr.mono (by decide)) T.cl (pv 0) (pa_cons (pv 5) pa_nil)))) rfl)))))))))), ?_⟩; refine start_eq (σ' := [some (.ref x), some (.ref lh), some (.int (B1.places : Int)), some (.ref lg), none, none, none, none]) rfl ?_
    walk_at "rd"
    have hhH := sqL_mono e0.hh hh
    refine ⟨lh, _, rfl, hhH, by simp; omega, kn_int, fun H2 s2 => ?_⟩
    rw [hard_whole ok, List.length_map, decide_eq_true (by omega), Bool.true_and]
    have e2 : Ext F1 H1 F1 H2 := ⟨e0.hh.trans s2, Same.refl _, e0.fh.trans s2, fun _ _ h => h⟩
    have hx2 := s2 _ _ hx0
    walk_at "rd"
    refine ⟨.int B1.places, some 1, some 3, rfl, .inl ⟨_, rfl⟩, ?_⟩
    rw [whole_pl p2.1 p2.2]
    walk_at "rd"
    refine isB (ty_lst (sqL_mono e2.hh hgx)) kb_ll ?_
    walk_at "rd"
    refine s_lenL (sqL_mono e2.hh hgx) ?_
    walk_at "rd"
    rw [decide_eq_true (show (1 : Int) ≤ (gx.length : Int) by omega)]
    walk_at "rd"
    rw [decide_eq_true (show (gx.length : Int) ≤ 6 by omega)]
    walk_at "rd"
    refine ⟨lg, gx, rfl, sqL_mono e2.hh hgx, ?_⟩
    refine for_w (walk_enum (xs := gx)) (fun i σ H3 => ∃ y4 y5, σ = [some (.ref x), some (.ref lh), some (.int (B1.places : Int)), some (.ref lg), y4, y5, none, none] ∧ Ext F1 H1 F1 H3 ∧ H3 x = some (.ins C dx [])) ?_ ?_ ?_ ?_
    · exact ⟨none, none, rfl, e2, hx2⟩
    · rintro i σ H3 _ ⟨_, _, _, e, _⟩
      exact sqL_mono e.hh hgx
    · rintro i v σ H3 H4 hi ⟨y4, y5, rfl, e, hx3⟩ ⟨Tp, x1, x2, rfl, nT, rfl, g1, g2⟩
      cases g1
      have g2 : gx[i]? = some x2 := g2
      have hti : B1.told[i]? = some (B1.told[i]'(by omega)) := List.getElem?_eq_getElem (by omega)
      obtain ⟨v, hv, dv⟩ := dpAll_get (i := i) hga (by rw [List.getElem?_map, hti]; rfl)
      rw [g2] at hv
      cases hv
      have ein := ok.each _ (List.mem_of_getElem? hti)
      have e4 : Ext F1 H1 F1 (upd H3 Tp (.tup [.int i, x2])) := e.mut nT
      have hx4 : (upd H3 Tp (.tup [.int i, x2])) x = some (.ins C dx []) := rH_new nT hx3
      refine s_gt rT_at rfl ?_
      generalize upd H3 Tp (.tup [.int i, x2]) = H5 at *
      walk_at "rd"
      refine s_lenL (sqL_mono e4.hh hh) ?_
      walk_at "rd"
      refine ⟨x2, _, B1.hard.length, B1.places, by simp, dp_mono e4.fh dv, ein.1, ein.2.1, ein.2.2.1, ein.2.2.2, by omega, fun H6 s6 => ?_⟩
      walk_at "rd"
      exact ⟨_, _, rfl, ⟨e4.hh.trans s6, Same.refl _, e4.fh.trans s6, fun _ _ h => h⟩, s6 _ _ hx4⟩
    · rintro σ H3 ⟨y4, y5, rfl, e, hx3⟩
      walk_at "rd"
      -- self.hard
      refine s_listL (sqL_mono e.hh hh) fun l1 n1 => ?_
      walk_at "rd"
      refine ⟨_, _, _, _, rfl, rH_new n1 hx3, T.cl, T.n_hard, by decide, ?_⟩
      have m1 : l1 ≠ x := fun z => by rw [z, hx3] at n1; cases n1
      have fx : F1 x = none := sub_none hF nx
      have e5 : Ext F1 H1 (upd F1 l1 (.lst (B1.hard.map V.int))) (upd (upd H3 l1 (.lst (B1.hard.map V.int))) x (.ins C dx (putF "hard" (.ref l1) []))) := (e.new n1).chg nx (by rw [upd_ne (Ne.symm m1)]; exact fx)
      have hx5 : (upd (upd H3 l1 (.lst (B1.hard.map V.int))) x (.ins C dx (putF "hard" (.ref l1) []))) x = some (.ins C dx (putF "hard" (.ref l1) [])) := upd_same
      have f5 : (upd F1 l1 (.lst (B1.hard.map V.int))) l1 = some (.lst (B1.hard.map V.int)) := upd_same
      have fx5 : (upd F1 l1 (.lst (B1.hard.map V.int))) x = none := by rw [upd_ne (Ne.symm m1)]; exact fx
      generalize upd (upd H3 l1 (.lst (B1.hard.map V.int))) x (.ins C dx (putF "hard" (.ref l1) [])) = H5 at *
      generalize upd F1 l1 (.lst (B1.hard.map V.int)) = F5 at *
      -- self.places
      walk_at "rd"
      refine ⟨_, _, _, _, rfl, hx5, T.cl, T.n_places, Nat.lt_of_le_of_lt (pf pf0) (by decide), ?_⟩
      have e6 := e5.chg (o := .ins C dx (putF "places" (.int (B1.places : Int)) (putF "hard" (.ref l1) []))) nx fx5
      have hx6 : (upd H5 x (.ins C dx (putF "places" (.int (B1.places : Int)) (putF "hard" (.ref l1) [])))) x = some (.ins C dx (putF "places" (.int (B1.places : Int)) (putF "hard" (.ref l1) []))) := upd_same
      generalize upd H5 x (.ins C dx (putF "places" (.int (B1.places : Int)) (putF "hard" (.ref l1) []))) = H6 at *
      -- self.told
      walk_at "rd"
      refine s_listL (sqL_mono e6.hh hgx) fun l2 n2 => ?_
      walk_at "rd"
      refine ⟨_, _, _, _, rfl, rH_new n2 hx6, T.cl, T.n_told, Nat.lt_of_le_of_lt (pf (pf pf0)) (by decide), ?_⟩
      have m2 : l2 ≠ x := fun z => by rw [z, hx6] at n2; cases n2
      have fx7 : (upd F5 l2 (.lst gx)) x = none := by rw [upd_ne (Ne.symm m2)]; exact fx5
      have e7 := ((e6.new (o := .lst gx) n2)).chg (o := .ins C dx (putF "told" (.ref l2) (putF "places" (.int (B1.places : Int)) (putF "hard" (.ref l1) [])))) nx fx7
      have hx7 : (upd (upd H6 l2 (.lst gx)) x (.ins C dx (putF "told" (.ref l2) (putF "places" (.int (B1.places : Int)) (putF "hard" (.ref l1) []))))) x = some (.ins C dx (putF "told" (.ref l2) (putF "places" (.int (B1.places : Int)) (putF "hard" (.ref l1) [])))) := upd_same
      have f7 : (upd F5 l2 (.lst gx)) l2 = some (.lst gx) := upd_same
      have s57 : Same F5 (upd F5 l2 (.lst gx)) := same_upd (sub_none e6.fh n2)
      generalize upd (upd H6 l2 (.lst gx)) x (.ins C dx (putF "told" (.ref l2) (putF "places" (.int (B1.places : Int)) (putF "hard" (.ref l1) [])))) = H7 at *
      generalize upd F5 l2 (.lst gx) = F7 at *
      -- self.heavy
      walk_at "rd"
      refine .inl ⟨_, rfl, ⟨_, sqL_mono e7.hh hh⟩, ?_⟩
      refine lc2_mapH (walk_list (xs := B1.hard.map V.int)) e7.fh (fun H' s' => sqL_mono (e7.hh.trans s') hh) (B1.hard.map fun h => List.replicate B1.places (V.int h)) (by simp) ?_ ?_ ?_
      · rw [heavy_flat, List.length_map]
        have := ok.heavy_lt
        exact Nat.lt_of_le_of_lt this (by decide)
      · intro i v row F' Ha Hb D Nx hrow ex fd hacc hy hz
        obtain ⟨rfl, hv⟩ := hy
        have hi : i < B1.hard.length := by
          have := (List.getElem?_eq_some_iff.mp hrow).1
          simpa using this
        have ev : v = .int B1.hard[i] := by
          rw [List.getElem?_map, List.getElem?_eq_getElem hi] at hv
          exact (Option.some.inj hv).symm
        have er : row = List.replicate B1.places (V.int B1.hard[i]) := by
          rw [List.getElem?_map, List.getElem?_eq_getElem hi] at hrow
          exact (Option.some.inj hrow).symm
        subst ev er
        obtain ⟨acc, ha, hal⟩ := hacc
        walk_at "rd"
        refine ⟨rfl, ?_⟩
        walk_at "rd"
        refine ⟨_, rfl, by omega, by omega, ?_⟩
        refine in_map walk_range (F := F') ex.fh (fun _ _ => trivial) fd ha (List.replicate B1.places (V.int B1.hard[i])) (by simp) (by simp at hal ⊢; omega) ?_ ?_
        · intro j v2 y Hc Hd Z hrj _ _ hy2 hz2
          obtain ⟨rfl, rfl⟩ := hy2
          have : y = .int B1.hard[i] := by
            have := List.mem_of_getElem? hrj
            exact (List.mem_replicate.mp this).2
          subst this
          walk_at "rd"
          refine ⟨rfl, ?_⟩
          walk_at "rd"
          exact hz2 _ (Same.refl _)
        · intro H'' f1 f2 f3
          exact hz acc ha H'' f1 f2 f3
      · intro l3 F8 H8 n3 e8 f8
        rw [heavy_flat] at f8
        have e18 := e7.trans e8
        have m3 : l3 ≠ x := fun z => by rw [z, hx7] at n3; cases n3
        have fx8 : F8 x = none := e8.fr x (by rw [hx7]; simp) fx7
        have hx8 := e8.hh _ _ hx7
        walk_at "rd"
        refine ⟨_, _, _, _, rfl, hx8, T.cl, T.n_heavy, Nat.lt_of_le_of_lt (pf (pf (pf pf0))) (by decide), ?_⟩
        have e9 := e18.chg (o := .ins C dx (putF "heavy" (.ref l3) (putF "told" (.ref l2) (putF "places" (.int (B1.places : Int)) (putF "hard" (.ref l1) []))))) nx fx8
        have hx9 : (upd H8 x (.ins C dx (putF "heavy" (.ref l3) (putF "told" (.ref l2) (putF "places" (.int (B1.places : Int)) (putF "hard" (.ref l1) [])))))) x = some (.ins C dx (putF "heavy" (.ref l3) (putF "told" (.ref l2) (putF "places" (.int (B1.places : Int)) (putF "hard" (.ref l1) []))))) := upd_same
        generalize upd H8 x (.ins C dx (putF "heavy" (.ref l3) (putF "told" (.ref l2) (putF "places" (.int (B1.places : Int)) (putF "hard" (.ref l1) []))))) = H9 at *
        -- self.meets
        walk_at "rd"
        refine .inl ⟨_, rfl, ⟨_, sqL_mono e9.hh hgx⟩, ?_⟩
        refine lc_mapH (walk_list (xs := gx)) e9.fh (by omega) (fun H' s' => sqL_mono (e9.hh.trans s') hgx) (fun i F' v => ∃ g, B1.told[i]? = some g ∧ Dp K F' v (.list ((pairsOf B1.places g).map pD))) (fun _ _ _ _ s' h => by obtain ⟨g, h1, h2⟩ := h; exact ⟨g, h1, dp_mono s' h2⟩) (fun i v F' Ha Hb D Z hi ex fd _ hy hz => ?_) (fun l4 ys F' H' n4 ex hd hlen hR => ?_)
        · obtain ⟨rfl, hv⟩ := hy
          have hti : B1.told[i]? = some (B1.told[i]'(by omega)) := List.getElem?_eq_getElem (by omega)
          obtain ⟨v', hv', dv⟩ := dpAll_get (i := i) hga (by rw [List.getElem?_map, hti]; rfl)
          rw [hv] at hv'
          cases hv'
          have ein := ok.each _ (List.mem_of_getElem? hti)
          walk_at "rd"
          refine ⟨rfl, ?_⟩
          walk_at "rd"
          refine ⟨_, _, _, rfl, ex.hh _ _ hx9, rfl, ?_⟩
          walk_at "rd"
          refine ⟨x, dx, _, B1.places, _, v, F', rfl, ex.hh _ _ hx9, rfl, dp_mono (e9.ff.trans (ex.ff.trans ex.fh)) dv, ?_, by omega, by omega, by omega, ex.fh, fun u F4 H4 e4 d4 => ?_⟩
          · rw [ein.2.2.2.length_eq, List.length_range]
          · exact hz u F4 H4 e4 ⟨_, hti, d4⟩
        · have e19 := e9.trans ex
          have fx9 : F' x = none := ex.fr x (by rw [hx9]; simp) fx8
          walk_at "rd"
          refine ⟨_, _, _, _, rfl, ex.hh _ _ hx9, T.cl, T.n_meets, Nat.lt_of_le_of_lt (pf (pf (pf (pf pf0)))) (by decide), ?_⟩
          have e20 := e19.chg (o := .ins C dx (putF "meets" (.ref l4) (putF "heavy" (.ref l3) (putF "told" (.ref l2) (putF "places" (.int (B1.places : Int)) (putF "hard" (.ref l1) [])))))) nx fx9
          have e21 := e20.frz nx fx9 upd_same
          refine q _ _ e21 ⟨dx, l1, l2, l3, l4, ?_, ?_, ?_, ?_, ?_⟩
          · rw [upd_same]
            rfl
          · exact sqL_mono (((s57.trans e8.ff).trans ex.ff).trans (same_upd fx9)) (.inl (.inl f5))
          · exact dp_mono ((e8.ff.trans ex.ff).trans (same_upd fx9)) (.lst (.inl (.inl f7)) (dpAll_mono e7.ff hga))
          · exact sqL_mono (ex.ff.trans (same_upd fx9)) (.inl (.inl f8))
          · refine dp_mono (same_upd fx9) (.lst (.inl (.inl hd)) (dpAll_of ?_ fun i v d h1 h2 => ?_))
            · rw [hlen, glen, List.length_map, B1.meets_len]
            · obtain ⟨g, h3, h4⟩ := hR i v h1
              simp only [BD.meets, List.getElem?_map, h3, Option.map_some] at h2
              cases h2
              exact h4
end
end G

namespace G
open PySem PySem.Spec PyProof.Rows L2
local macro_rules | `(tactic| walk_at "lk") => `(tactic| first | assumption | exact rT_at | exact rL_at | exact upd_same | (refine sqT_mono ?_ (by assumption); assumption) | (refine sqL_mono ?_ (by assumption); assumption) | (refine rT_new (by assumption) ?_; walk_at "lk") | (refine rL_new (by assumption) ?_; walk_at "lk") | (refine rH_new (by assumption) ?_; walk_at "lk") | (refine rD_new (by assumption) ?_; walk_at "lk") | (refine dp_mono ?_ (by assumption); assumption))
local macro_rules | `(tactic| walk_at "r1") => `(tactic| first | ((with_reducible show tVar _ _ _ _); refine s_var rfl ?_) | with_reducible refine s_c ?_ | with_reducible refine s_op ?_ | with_reducible refine s_un ?_ | with_reducible refine s_neg ?_ | with_reducible refine s_test ?_ | with_reducible refine s_B ?_ | with_reducible refine s_bl ?_ | with_reducible refine s_not ?_ | with_reducible refine s_yes ?_ | with_reducible refine s_and ?_ | with_reducible refine s_or ?_ | with_reducible refine s_notV ?_ | with_reducible refine s_andV ?_ | with_reducible refine s_orV ?_ | with_reducible refine s_if ?_ | with_reducible refine s_cT ?_ | with_reducible refine s_cF ?_ | with_reducible refine s_nT ?_ | with_reducible refine s_nF ?_ | with_reducible refine s_addI ?_ | with_reducible refine s_eqI ?_ | with_reducible refine s_neI ?_ | with_reducible refine s_eqB ?_ | with_reducible refine s_neB ?_ | with_reducible refine s_I0 ?_ | with_reducible refine s_non ?_ | with_reducible refine s_int ?_ | with_reducible refine s_chain ?_ | with_reducible refine s_cons ?_ | with_reducible refine s_nil ?_ | with_reducible refine s_call ?_ | with_reducible refine s_cb ?_ | with_reducible refine s_meth ?_ | with_reducible refine s_make ?_ | with_reducible refine s_tup ?_ | with_reducible refine s_lst ?_ | with_reducible refine s_bm ?_ | with_reducible refine s_bm0 ?_ | with_reducible refine s_bmT ?_ | with_reducible refine s_fld ?_ | with_reducible refine s_dget ?_ | with_reducible refine s_sl ?_ | with_reducible refine s_part ?_ | with_reducible refine s_nopart ?_ | with_reducible refine s_seq ?_ | with_reducible refine s_next ?_ | with_reducible refine s_asg ?_ | with_reducible refine s_gn ?_ | with_reducible refine s_gc ?_ | with_reducible refine s_g0 ?_ | with_reducible refine s_gs ?_ | with_reducible refine s_ret ?_ | with_reducible refine s_ifS ?_ | with_reducible refine s_drop ?_ | with_reducible refine s_augS ?_ | ((with_reducible show tAug _ _ _ _ _ _); refine s_aug rfl ?_) | with_reducible refine s_ipI ?_ | with_reducible refine s_for ?_ | with_reducible refine s_iseq ?_ | with_reducible refine s_rng1 ?_ | with_reducible refine s_izip ?_ | with_reducible refine s_lc ?_ | with_reducible refine s_lc2 ?_ | with_reducible refine s_lstRg ?_ | with_reducible refine s_rg1 ?_ | with_reducible refine s_sfld ?_ | with_reducible refine s_ienum ?_ | with_reducible refine s_disp ?_ | with_reducible refine s_pc ?_ | with_reducible refine s_pn ?_)
local macro_rules | `(tactic| walk_at "rd") => `(tactic| repeat walk_at "r1")

section
variable {P : Program} {w : World} {K : PySem.W.Frag} {mg : Str → Option Value} {base : Heap} {C : Addr}
abbrev s__law_digit : Stmt := topS 18
abbrev n__law_digit : List Str := ["_law_state", "_law_base", "_law_found", "_law_mixed"]
theorem sc__law_digit : FnScope ["_law_state", "_law_base", "_law_found", "_law_mixed"] ["_law_state", "_law_base"] (defScope s__law_digit) := ⟨rfl, rfl, rfl, by decide +kernel, rfl, by decide +kernel, by decide +kernel⟩
def spDigit (K : PySem.W.Frag) : Sp := fun vs H Q _ => ∃ st s, ∃ b : Int, vs = [.ref st, .int b] ∧ H st = some (.lst s) ∧ StOk s ∧ (∀ n, CDivW n b) ∧
  ∀ d s' H', 0 ≤ d → d < b → StOk s' → (∀ a o, a ≠ st → H a = some o → H' a = some o) → H' st = some (.lst s') → Q (.int d) H'
theorem ok_digit (B : Blt mg) (F : FunAt K mg "_law_digit" s__law_digit ["_law_state", "_law_base"]) : Def P w K mg base 1 "_law_digit" ["_law_state", "_law_base"] (spDigit K) := by
  refine F.def (k := 0) sc__law_digit (fun vs H Q E h => ?_) (fun f cdv A outer s H vs Q E hr h => ?_)
  · obtain ⟨st, s, b, rfl, _⟩ := h
    rfl
  · obtain ⟨st, s, b, rfl, hst, ok, hb, q⟩ := h
    have b0 : 0 < b := (hb 0).1
    refine ⟨_, (pss_cons (ps_if (pt_cmpR (k_eq (K := K) rfl hr.units) (pe_callB (k_len (K := K) rfl) (by rfl) B.len bb_len (pa_cons (pv 0) pa_nil)) pe_int (nomark _)) (pss_one (ps_expr (k_bm (K := K) rfl PySem.F.plainAttrs_list PySem.F.slot_list_extend PySem.F.type_list_extend mt_extend (pv 0) (pa_cons (pe_lst (pa_cons (pe_op op_mod (pe_ix (k_ix (K := K) rfl) (pv 0) pe_int (fun _ _ => rfl)) pe_int) (pa_cons pe_int pa_nil))) pa_nil)))) pss_nil) (pss_cons (ps_if (pt_cmpR op_ge (pe_ix (k_ix (K := K) rfl) (pv 0) pe_int (fun _ _ => rfl)) (pv 1) (nomark _)) (pss_cons (ps_set (i := 2) sc__law_digit.nd rfl (Or.inl rfl) (pe_op op_mod (pe_ix (k_ix (K := K) rfl) (pv 0) pe_int (fun _ _ => rfl)) (pv 1))) (pss_cons (ps_asg (pe_op op_fdivW (pe_ix (k_ix (K := K) rfl) (pv 0) pe_int (fun _ _ => rfl)) (pv 1)) (pg_sub (pv 0) pe_int set_list)) (pss_one (ps_ret (pv 2))))) pss_nil) (pss_cons (ps_asg (pe_op (k_add (K := K) rfl) (pe_ix (k_ix (K := K) rfl) (pv 0) pe_int (fun _ _ => rfl)) pe_int) (pg_sub (pv 0) pe_int set_list)) (pss_cons (ps_set (i := 3) sc__law_digit.nd rfl (Or.inl rfl) (pe_op op_mod (pe_op opMulU (pe_op (k_add (K := K) rfl) (pe_ix (k_ix (K := K) rfl) (pv 0) pe_int (fun _ _ => rfl)) (pe_op opMulU pe_int (pe_ix (k_ix (K := K) rfl) (pv 0) pe_int (fun _ _ => rfl)))) pe_int) pe_int)) (pss_one (ps_ret (pe_op op_mod (pe_op op_fdivW (pe_op op_mod (pe_op opMulU (pe_op (k_add (K := K) rfl) (pv 3) (pe_op op_fdivW (pv 3) pe_int)) (pe_op (k_add (K := K) rfl) (pe_op op_fdivW (pv 3) pe_int) pe_int)) pe_int) pe_int) (pv 1)))))))), ?_⟩; refine start_eq (σ' := [some (.ref st), some (.int b), none, none]) rfl ?_
    refine s_cut (fun σ H2 => ∃ n m c : Int, σ = [some (.ref st), some (.int b), none, none] ∧ (∀ a o, a ≠ st → H a = some o → H2 a = some o) ∧ H2 st = some (.lst [.int n, .int m, .int c])) (fun U hU => ?_) ?_
    · rcases ok with ⟨n, rfl⟩ | ⟨n, m, c, rfl⟩
      · walk_at "rd"
        refine s_lenL (.inl (.inl hst)) ?_
        walk_at "rd"
        refine s_dT rfl ?_
        walk_at "rd"
        refine ⟨tyV_lst hst, ?_⟩
        walk_at "rd"
        refine s_ixL (.inl (.inl hst)) rfl ?_
        walk_at "rd"
        refine s_I (show (0 : Int) < 2147483647 by decide) ?_
        walk_at "rd"
        refine ⟨by show 2 ≤ sizeLine; decide, fun p np => ?_⟩
        walk_at "rd"
        refine s_extd (rH_new np hst) upd_same (by show 3 ≤ 100000; decide) ?_
        walk_at "rd"
        refine hU _ _ ⟨n, _, _, rfl, fun a o ha h => ?_, upd_same⟩
        rw [upd_ne ha]
        exact rH_new np h
      · walk_at "rd"
        refine s_lenL (.inl (.inl hst)) ?_
        walk_at "rd"
        refine s_dF (by simp) ?_
        walk_at "rd"
        exact hU _ _ ⟨n, m, c, rfl, fun a o _ h => h, hst⟩
    · rintro σ H2 ⟨n, m, c, rfl, keep, hst⟩
      walk_at "rd"
      refine s_ixL (.inl (.inl hst)) rfl ?_
      walk_at "rd"
      refine s_d2 (fun e => ?_) (fun e => ?_)
      · walk_at "rd"
        refine s_ixL (.inl (.inl hst)) rfl ?_
        walk_at "rd"
        refine s_I b0 ?_
        walk_at "rd"
        refine s_ixL (.inl (.inl hst)) rfl ?_
        walk_at "rd"
        refine s_I (hb n) ?_
        walk_at "rd"
        refine s_setL hst rfl ?_
        walk_at "rd"
        refine q _ [.int (n / b), .int m, .int c] _ (Int.emod_nonneg _ (by omega)) (Int.emod_lt_of_pos _ b0) (.inr ⟨_, _, _, rfl⟩) (fun a o ha h => ?_) upd_same
        rw [upd_ne ha]
        exact keep a o ha h
      · walk_at "rd"
        refine s_ixL (.inl (.inl hst)) rfl ?_
        walk_at "rd"
        refine s_setL hst rfl ?_
        walk_at "rd"
        refine s_ixL rL_at rfl ?_
        walk_at "rd"
        refine s_ixL rL_at rfl ?_
        walk_at "rd"
        refine s_mulI (.inl ⟨by decide, by decide⟩) ?_
        walk_at "rd"
        refine s_mulI (.inr ⟨by decide, by decide⟩) ?_
        walk_at "rd"
        refine s_I (show (0 : Int) < 2147483647 by decide) ?_
        generalize hm : (m + 7919 * (c + 1)) * 48271 % 2147483647 = mx
        have m0 : 0 ≤ mx := by rw [← hm]; exact Int.emod_nonneg _ (by decide)
        have m1 : mx < 2147483647 := by rw [← hm]; exact Int.emod_lt_of_pos _ (by decide)
        walk_at "rd"
        refine s_I (div_small (by decide) (by decide)) ?_
        walk_at "rd"
        refine s_I (div_small (by decide) (by decide)) ?_
        walk_at "rd"
        refine s_mulI (.inl ⟨by omega, by omega⟩) ?_
        walk_at "rd"
        refine s_I (show (0 : Int) < 2147483629 by decide) ?_
        walk_at "rd"
        refine s_I (div_small (by decide) (by decide)) ?_
        walk_at "rd"
        refine s_I b0 ?_
        refine q _ [.int n, .int m, .int (c + 1)] _ (Int.emod_nonneg _ (by omega)) (Int.emod_lt_of_pos _ b0) (.inr ⟨_, _, _, rfl⟩) (fun a o ha h => ?_) upd_same
        rw [upd_ne ha]
        exact keep a o ha h
/-- a draw, as its callers see it -/
theorem draw {st : Addr} {F0 H0 F H : Hp} {Q : VK} {b : Int} (e : SExt st F0 H0 F H) (hb : ∀ n, CDivW n b) (q : ∀ d H', 0 ≤ d → d < b → SExt st F0 H0 F H' → (∀ a o, a ≠ st → H a = some o → H' a = some o) → Q (.int d) H') : spDigit K [.ref st, .int b] H Q E0 := by
  obtain ⟨s, hs, ok⟩ := e.st
  refine ⟨st, s, b, rfl, hs, ok, hb, fun d s' H' h0 h1 ok' k hs' => q d H' h0 h1 ⟨?_, s', hs', ok'⟩ k⟩
  refine ⟨e.ext.hh.trans fun a o h => ?_, e.ext.ff, fun a o h => ?_, e.ext.fr⟩
  · have : a ≠ st := fun z => by rw [z, del_same] at h; cases h
    rw [del_ne this] at h ⊢
    exact k a o this h
  · have h' := e.ext.fh a o h
    have : a ≠ st := fun z => by rw [z, del_same] at h'; cases h'
    rw [del_ne this] at h' ⊢
    exact k a o this h'
theorem small_b {b : Int} (h1 : 0 < b) (h2 : b ≤ 1000000) : ∀ n, CDivW n b := fun n => div_small h1 h2
abbrev s__law_made : Stmt := topS 19
abbrev n__law_made : List Str := ["_law_hard", "_law_places", "_law_told_here", "_law_meets", "_law_one", "_law_other", "_law_turn", "_law_heavy", "_law_plate", "_law_at"]
theorem sc__law_made : FnScope ["_law_hard", "_law_places", "_law_told_here", "_law_meets", "_law_one", "_law_other", "_law_turn", "_law_heavy", "_law_plate", "_law_at"] ["_law_hard", "_law_places", "_law_told_here"] (defScope s__law_made) := ⟨rfl, rfl, rfl, by decide +kernel, rfl, by decide +kernel, by decide +kernel⟩
def spMade (K : PySem.W.Frag) : Sp := fun vs H Q _ => ∃ lh lg B F, vs = [.ref lh, .int (B.places : Int), .ref lg] ∧ Same F H ∧ BOk B ∧ SqL K F lh (B.hard.map V.int) ∧ Dp K F (.ref lg) (.list (B.told.map gD)) ∧ TX K F lg B.told ∧
  ∀ m F' H', Ext F H F' H' → ModelAt K F' m B → Q (.ref m) H'
theorem flat_take (l : List Int) (n : Nat) (i : Nat) (h : i < l.length) : ((l.take (i + 1)).flatMap fun h => List.replicate n h) = ((l.take i).flatMap fun h => List.replicate n h) ++ List.replicate n l[i] := by
  rw [List.take_add_one, List.getElem?_eq_getElem h, List.flatMap_append]
  simp
theorem ok_made (B0 : Blt mg) (F : FunAt K mg "_law_made" s__law_made ["_law_hard", "_law_places", "_law_told_here"]) : Def P w K mg base 1 "_law_made" ["_law_hard", "_law_places", "_law_told_here"] (spMade K) := by
  refine F.def (k := 0) sc__law_made (fun vs H Q E h => ?_) (fun f cdv A outer s H vs Q E hr h => ?_)
  · obtain ⟨lh, lg, B, F, rfl, _⟩ := h
    rfl
  · obtain ⟨lh, lg, B1, F, rfl, hF, ok, hh, hg, htx, q⟩ := h
    have B := B0
    obtain ⟨gx, hgx, hga⟩ := dp_list hg
    have glen : gx.length = B1.told.length := by rw [dpAll_len hga, List.length_map]
    have p1 := ok.plates
    have p2 := ok.places
    have p3 := ok.told
    refine ⟨_, (pss_cons (ps_set (i := 3) sc__law_made.nd rfl (Or.inl rfl) (pe_lst pa_nil)) (pss_cons (ps_for PassesOwn.never rfl (k_seq (K := K) rfl (pv 2)) (k_tup (K := K) (n := 3) rfl rfl (pgs_cons (pg_name (i := 4) sc__law_made.nd rfl (Or.inr rfl)) (pgs_cons (pg_name (i := 5) sc__law_made.nd rfl (Or.inr rfl)) (pgs_cons (pg_name (i := 6) sc__law_made.nd rfl (Or.inr rfl)) pgs_nil)))) (pss_one (ps_expr (k_bm (K := K) rfl PySem.F.plainAttrs_list PySem.F.slot_list_append PySem.F.type_list_append mt_append (pv 3) (pa_cons (pe_lc (own := [("_law_at", 9)]) rfl sc__law_made.nd (pi_range1 (by rfl) B.range (pa_cons (pv 1) pa_nil)) (blkOk_by (own := [("_law_at", 9)]) (N := n__law_made) (sc := defScope s__law_made) (by decide +kernel)) (fun _ _ _ _ _ => (pg_name (i := 9) sc__law_made.nd rfl (Or.inl rfl))) (fun _ _ _ _ _ => pts_nil) (fun _ _ _ _ _ => (pe_tup (pa_cons (pe_op (k_add (K := K) rfl) (pe_op opMulU (pv 4) (pv 1)) (pv 9)) (pa_cons (pe_op (k_add (K := K) rfl) (pe_op opMulU (pv 5) (pv 1)) (pe_ix (k_ix (K := K) rfl) (pv 6) (pv 9) (fun _ _ => rfl))) pa_nil))))) pa_nil))))) (pss_cons (ps_set (i := 7) sc__law_made.nd rfl (Or.inl rfl) (pe_lst pa_nil)) (pss_cons (ps_for PassesOwn.never rfl (k_seq (K := K) rfl (pv 0)) (pg_name (i := 8) sc__law_made.nd rfl (Or.inl rfl)) (pss_one (ps_expr (k_bm (K := K) rfl PySem.F.plainAttrs_list PySem.F.slot_list_extend PySem.F.type_list_extend mt_extend (pv 7) (pa_cons (pe_op opMulU (pe_lst (pa_cons (pv 8) pa_nil)) (pv 1)) pa_nil))))) (pss_one (ps_ret (pe_disp (pps_cons pe_str (pv 0) (pps_cons pe_str (pv 1) (pps_cons pe_str (pv 2) (pps_cons pe_str (pv 7) (pps_cons pe_str (pv 3) pps_nil))))) (by rfl) (by rfl) (fun z => by cases z) (by decide)))))))), ?_⟩; refine start_eq (σ' := [some (.ref lh), some (.int (B1.places : Int)), some (.ref lg), none, none, none, none, none, none, none]) rfl ?_
    walk_at "rd"
    refine ⟨Nat.zero_le _, fun lm nm => ?_⟩
    have e1 : Ext F H F (upd H lm (.lst [])) := (Ext.refl hF).mut nm
    have hm1 : (upd H lm (.lst [])) lm = some (.lst []) := upd_same
    generalize upd H lm (.lst []) = H1 at *
    walk_at "rd"
    refine .inl ⟨lg, rfl, ⟨_, sqL_mono e1.fh hgx⟩, ?_⟩
    refine for_w (walk_list (xs := gx)) (fun i σ H2 => ∃ y4 y5 y6 F2 acc, σ = [some (.ref lh), some (.int (B1.places : Int)), some (.ref lg), some (.ref lm), y4, y5, y6, none, none, none] ∧ Ext F H F2 H2 ∧ F2 lm = none ∧ H2 lm = some (.lst acc) ∧ acc.length = i ∧
      ∀ (j : Nat) v, acc[j]? = some v → ∃ g, B1.told[j]? = some g ∧ Dp K F2 v (.list ((pairsOf B1.places g).map pD))) ?_ ?_ ?_ ?_
    · exact ⟨none, none, none, F, [], rfl, e1, sub_none hF nm, hm1, rfl, fun j v h => by simp at h⟩
    · rintro i σ H2 _ ⟨_, _, _, F2, acc, _, e, _⟩
      exact sqL_mono (e.ff.trans e.fh) hgx
    · rintro i v σ H2 H3 hi ⟨y4, y5, y6, F2, acc, rfl, e, fm, hm, hl, hr⟩ ⟨rfl, hv⟩
      have hti : B1.told[i]? = some (B1.told[i]'(by omega)) := List.getElem?_eq_getElem (by omega)
      obtain ⟨v', hv', dv⟩ := dpAll_get (i := i) hga (by rw [List.getElem?_map, hti]; rfl)
      rw [hv] at hv'
      cases hv'
      have ein := ok.each _ (List.mem_of_getElem? hti)
      generalize B1.told[i]'(by omega) = g at *
      obtain ⟨a, c, rfl, ha, hc⟩ := gD_at dv
      rw [natV] at hc
      have s0 := e.ff.trans e.fh
      have tl : g.2.2.length = B1.places := by rw [ein.2.2.2.length_eq, List.length_range]
      refine s_gt (sqT_mono s0 ha) rfl ?_
      walk_at "rd"
      refine ⟨tyV_lst hm, ?_⟩
      walk_at "rd"
      refine ⟨_, rfl, by omega, by omega, ?_⟩
      refine lc_map walk_range e.fh (by omega) (fun _ _ => trivial) (fun i F' v => Dp K F' v (pD (g.1 * B1.places + i, g.2.1 * B1.places + g.2.2.getD i 0))) (fun _ _ _ _ e h => dp_mono e h) (fun i x F' Ha Hb D Z hi ex fd _ hy hz => ?_) (fun D ys F' H' hD ex hd hlen hR => ?_)
      · obtain ⟨rfl, rfl⟩ := hy
        have hi' : i < B1.places := by omega
        walk_at "rd"
        refine ⟨rfl, ?_⟩
        walk_at "rd"
        refine s_mulI (.inl ⟨by omega, by omega⟩) ?_
        walk_at "rd"
        refine s_mulI (.inl ⟨by omega, by omega⟩) ?_
        walk_at "rd"
        refine s_ixT (sqT_mono (s0.trans ex.hh) hc) (by rw [Int.zero_add]; exact at_int (by simp; omega)) ?_
        walk_at "rd"
        refine ⟨by show 2 ≤ sizeLine; decide, fun p hp => ?_⟩
        refine hz (.ref p) _ _ ((Ext.refl ex.fh).new hp) ?_
        have e1 : ((g.2.2.map fun (x : Nat) => (x : Int)).getD i 0) = ((g.2.2.getD i 0 : Nat) : Int) := by
          rw [List.getD_eq_getElem?_getD, List.getD_eq_getElem?_getD, List.getElem?_map]
          cases g.2.2[i]? <;> rfl
        rw [e1, Int.zero_add]
        refine dp_tupI (ns := [_, _]) ?_
        simp only [List.map_cons, List.map_nil, Int.natCast_add, Int.natCast_mul]
        exact rT_at
      · have dnew : Dp K F' (.ref D) (.list ((pairsOf B1.places g).map pD)) := by
          refine .lst (.inl (.inl hd)) (dpAll_of ?_ fun i v d h1 h2 => ?_)
          · rw [hlen, List.length_map]
            simp [pairsOf]
          · have hi : i < B1.places := by
              have := (List.getElem?_eq_some_iff.mp h1).1
              omega
            rw [List.getElem?_map] at h2
            simp only [pairsOf, List.getElem?_map, List.getElem?_range hi, Option.map_some] at h2
            cases h2
            exact hR i v h1
        have fm' : F' lm = none := ex.fr lm (by rw [hm]; simp) fm
        walk_at "rd"
        refine s_app (ex.hh _ _ hm) (by omega) ?_
        refine ⟨_, _, _, F', acc ++ [.ref D], rfl, (e.trans ex).chg nm fm', fm', upd_same, by simp [hl], fun j v hv => ?_⟩
        by_cases hj : j < acc.length
        · rw [List.getElem?_append_left hj] at hv
          obtain ⟨g', h1, h2⟩ := hr j v hv
          exact ⟨g', h1, dp_mono ex.ff h2⟩
        · have : j = acc.length := by
            have := (List.getElem?_eq_some_iff.mp hv).1
            simp at this
            omega
          subst this
          rw [List.getElem?_append_right (Nat.le_refl _)] at hv
          simp at hv
          subst hv
          exact ⟨g, by rw [hl]; exact hti, dnew⟩
    · rintro σ H2 ⟨y4, y5, y6, F2, acc, rfl, e, fm, hm, hl, hr⟩
      walk_at "rd"
      refine ⟨Nat.zero_le _, fun lv nv => ?_⟩
      have m1 : lm ≠ lv := fun z => by rw [z, nv] at hm; cases hm
      have e2 : Ext F H F2 (upd H2 lv (.lst [])) := e.mut nv
      have hm2 : (upd H2 lv (.lst [])) lm = some (.lst acc) := rH_new nv hm
      have hv2 : (upd H2 lv (.lst [])) lv = some (.lst []) := upd_same
      have fv2 : F2 lv = none := sub_none e.fh nv
      have nvH : H lv = none := e.hh.free nv
      generalize upd H2 lv (.lst []) = H3 at *
      walk_at "rd"
      refine .inl ⟨lh, rfl, ⟨_, sqL_mono (e2.ff.trans e2.fh) hh⟩, ?_⟩
      refine for_w (walk_list (xs := B1.hard.map V.int)) (fun i σ H4 => ∃ y8, σ = [some (.ref lh), some (.int (B1.places : Int)), some (.ref lg), some (.ref lm), y4, y5, y6, some (.ref lv), y8, none] ∧ Ext F H F2 H4 ∧ H4 lm = some (.lst acc) ∧ H4 lv = some (.lst (((B1.hard.take i).flatMap fun h => List.replicate B1.places h).map V.int))) ?_ ?_ ?_ ?_
      · exact ⟨none, rfl, e2, hm2, by rw [hv2]; rfl⟩
      · rintro i σ H4 _ ⟨_, _, e4, _⟩
        exact sqL_mono (e4.ff.trans e4.fh) hh
      · rintro i v σ H4 H5 hi ⟨y8, rfl, e4, hm4, hv4⟩ ⟨rfl, hv⟩
        have hi' : i < B1.hard.length := by simpa using hi
        have ev : v = .int B1.hard[i] := by
          rw [List.getElem?_map, List.getElem?_eq_getElem hi'] at hv
          exact (Option.some.inj hv).symm
        subst ev
        have fl : ((B1.hard.take i).flatMap fun h => List.replicate B1.places h).length ≤ 100 := by
          rw [flat_len]
          have : (B1.hard.take i).length ≤ 4 := by simp; omega
          calc (B1.hard.take i).length * B1.places ≤ 4 * 3 := Nat.mul_le_mul this p2.2
            _ ≤ 100 := by decide
        walk_at "rd"
        refine ⟨tyV_lst hv4, ?_⟩
        walk_at "rd"
        refine ⟨by show 1 ≤ sizeLine; decide, fun p hp => ?_⟩
        walk_at "rd"
        refine .inr ⟨p, _, _, rfl, rfl, upd_same, by omega, by omega, ?_, fun p2 hp2 => ?_⟩
        · refine Nat.le_trans (?_ : _ ≤ 3) (by decide)
          simp
          omega
        walk_at "rd"
        have mp : lv ≠ p := fun z => by rw [z, hp] at hv4; cases hv4
        refine s_extd (rH_new hp2 (rH_new hp hv4)) upd_same ?_ ?_
        · rw [List.length_map]
          refine Nat.le_trans (Nat.add_le_add fl (?_ : _ ≤ 3)) (by decide)
          simp
          omega
        refine ⟨_, rfl, ((e4.mut hp).mut hp2).chg nvH fv2, ?_, ?_⟩
        · rw [upd_ne m1]
          exact rH_new hp2 (rH_new hp hm4)
        · rw [upd_same, flat_take B1.hard B1.places i hi', List.map_append]
          simp
      · rintro σ H4 ⟨y8, rfl, e4, hm4, hv4⟩
        rw [List.length_map, List.take_of_length_le (Nat.le_refl _)] at hv4
        walk_at "rd"
        intro m nmm
        have m3 : m ≠ lm := fun z => by rw [z, hm4] at nmm; cases nmm
        have m4 : m ≠ lv := fun z => by rw [z, hv4] at nmm; cases nmm
        walk_at "rd"
        refine ⟨upd_same, mkvs lh (B1.places : Int) lg lv lm, rfl, by show 5 ≤ 15; decide, ?_⟩
        rw [merge_mkvs, upd_upd]
        have e5 := (((e4.new (o := .dK (mkvs lh (B1.places : Int) lg lv lm)) nmm).frz nm (by rw [upd_ne (Ne.symm m3)]; exact fm) (rH_new nmm hm4))).frz nvH (by rw [upd_ne (Ne.symm m1), upd_ne (Ne.symm m4)]; exact fv2) (rH_new nmm hv4)
        have s1 : Same F2 (upd F2 m (.dK (mkvs lh (B1.places : Int) lg lv lm))) := same_upd (sub_none e4.fh nmm)
        have s2 : Same (upd F2 m (.dK (mkvs lh (B1.places : Int) lg lv lm))) (upd (upd F2 m (.dK (mkvs lh (B1.places : Int) lg lv lm))) lm (.lst acc)) := same_upd (by rw [upd_ne (Ne.symm m3)]; exact fm)
        have s3 : Same (upd (upd F2 m (.dK (mkvs lh (B1.places : Int) lg lv lm))) lm (.lst acc)) (upd (upd (upd F2 m (.dK (mkvs lh (B1.places : Int) lg lv lm))) lm (.lst acc)) lv (.lst (B1.heavy.map V.int))) := same_upd (by rw [upd_ne (Ne.symm m1), upd_ne (Ne.symm m4)]; exact fv2)
        refine q m _ _ e5 ⟨⟨lh, lg, lv, lm, s3 _ _ (s2 _ _ upd_same), htx.mono e5.ff⟩, lh, lg, lv, lm, ?_, ?_, ?_, ?_, ?_⟩
        · exact s3 _ _ (s2 _ _ upd_same)
        · exact sqL_mono e5.ff hh
        · exact dp_mono e5.ff hg
        · exact .inl (.inl upd_same)
        · refine .lst (sqL_mono s3 (.inl (.inl upd_same))) (dpAll_of ?_ fun i v d h1 h2 => ?_)
          · rw [hl, glen, List.length_map, B1.meets_len]
          · obtain ⟨g, h3, h4⟩ := hr i v h1
            simp only [BD.meets, List.getElem?_map, h3, Option.map_some] at h2
            cases h2
            exact dp_mono ((s1.trans s2).trans s3) h4
end
end G

namespace G
open PySem PySem.Spec PyProof.Rows L2
local macro_rules | `(tactic| walk_at "lk") => `(tactic| first | assumption | exact rT_at | exact rL_at | exact upd_same | (refine sqT_mono ?_ (by assumption); assumption) | (refine sqL_mono ?_ (by assumption); assumption) | (refine rT_new (by assumption) ?_; walk_at "lk") | (refine rL_new (by assumption) ?_; walk_at "lk") | (refine rH_new (by assumption) ?_; walk_at "lk") | (refine rD_new (by assumption) ?_; walk_at "lk") | (refine dp_mono ?_ (by assumption); assumption))
local macro_rules | `(tactic| walk_at "r1") => `(tactic| first | ((with_reducible show tVar _ _ _ _); refine s_var rfl ?_) | with_reducible refine s_c ?_ | with_reducible refine s_op ?_ | with_reducible refine s_un ?_ | with_reducible refine s_neg ?_ | with_reducible refine s_test ?_ | with_reducible refine s_B ?_ | with_reducible refine s_bl ?_ | with_reducible refine s_not ?_ | with_reducible refine s_yes ?_ | with_reducible refine s_and ?_ | with_reducible refine s_or ?_ | with_reducible refine s_notV ?_ | with_reducible refine s_andV ?_ | with_reducible refine s_orV ?_ | with_reducible refine s_if ?_ | with_reducible refine s_cT ?_ | with_reducible refine s_cF ?_ | with_reducible refine s_nT ?_ | with_reducible refine s_nF ?_ | with_reducible refine s_addI ?_ | with_reducible refine s_eqI ?_ | with_reducible refine s_neI ?_ | with_reducible refine s_eqB ?_ | with_reducible refine s_neB ?_ | with_reducible refine s_I0 ?_ | with_reducible refine s_non ?_ | with_reducible refine s_int ?_ | with_reducible refine s_chain ?_ | with_reducible refine s_cons ?_ | with_reducible refine s_nil ?_ | with_reducible refine s_call ?_ | with_reducible refine s_cb ?_ | with_reducible refine s_meth ?_ | with_reducible refine s_make ?_ | with_reducible refine s_tup ?_ | with_reducible refine s_lst ?_ | with_reducible refine s_bm ?_ | with_reducible refine s_bm0 ?_ | with_reducible refine s_bmT ?_ | with_reducible refine s_fld ?_ | with_reducible refine s_dget ?_ | with_reducible refine s_sl ?_ | with_reducible refine s_part ?_ | with_reducible refine s_nopart ?_ | with_reducible refine s_seq ?_ | with_reducible refine s_next ?_ | with_reducible refine s_asg ?_ | with_reducible refine s_gn ?_ | with_reducible refine s_gc ?_ | with_reducible refine s_g0 ?_ | with_reducible refine s_gs ?_ | with_reducible refine s_ret ?_ | with_reducible refine s_ifS ?_ | with_reducible refine s_drop ?_ | with_reducible refine s_augS ?_ | ((with_reducible show tAug _ _ _ _ _ _); refine s_aug rfl ?_) | with_reducible refine s_ipI ?_ | with_reducible refine s_for ?_ | with_reducible refine s_iseq ?_ | with_reducible refine s_rng1 ?_ | with_reducible refine s_izip ?_ | with_reducible refine s_lc ?_ | with_reducible refine s_lc2 ?_ | with_reducible refine s_lstRg ?_ | with_reducible refine s_rg1 ?_ | with_reducible refine s_sfld ?_ | with_reducible refine s_ienum ?_ | with_reducible refine s_disp ?_ | with_reducible refine s_pc ?_ | with_reducible refine s_pn ?_)
local macro_rules | `(tactic| walk_at "rd") => `(tactic| repeat walk_at "r1")

theorem pop_perm : ∀ (l : List Nat) (k : Nat) (h : k < l.length), (l[k] :: l.eraseIdx k).Perm l
  | [], _, h => by simp at h
  | _ :: _, 0, _ => List.Perm.refl _
  | a :: l, k + 1, h => by
    have hk : k < l.length := by simpa using h
    have := pop_perm l k hk
    show (l[k] :: a :: l.eraseIdx k).Perm (a :: l)
    exact (List.Perm.swap a _ _).trans (this.cons a)
theorem er_map {α β : Type} (f : α → β) : ∀ (l : List α) (k : Nat), (l.map f).eraseIdx k = (l.eraseIdx k).map f
  | [], _ => rfl
  | _ :: _, 0 => rfl
  | a :: l, k + 1 => by
    show f a :: (l.map f).eraseIdx k = f a :: (l.eraseIdx k).map f
    rw [er_map f l k]
theorem idx_map (l : List Nat) (a : Nat) : (l.map fun (x : Nat) => (x : Int)).idxOf (a : Int) = l.idxOf a := by
  induction l with
  | nil => rfl
  | cons b l ih =>
    simp only [List.map_cons, List.idxOf_cons, ih]
    by_cases h : b = a
    · subst h; simp
    · have : ((b : Int) == (a : Int)) = false := by simp; omega
      have h2 : (b == a) = false := by simp [h]
      rw [this, h2]
/-- a turn told from the other plate -/
def backT (n : Nat) (tn : List Nat) : List Nat := (List.range n).map fun a => tn.idxOf a
theorem back_perm {n : Nat} {tn : List Nat} (h : tn.Perm (List.range n)) : (backT n tn).Perm (List.range n) := by
  have nd : tn.Nodup := h.nodup_iff.mpr List.nodup_range
  have len : tn.length = n := by rw [h.length_eq, List.length_range]
  have mem : ∀ a, a ∈ tn ↔ a < n := fun a => by rw [h.mem_iff, List.mem_range]
  have ix : ∀ a, a < n → ∃ hlt : tn.idxOf a < tn.length, tn[tn.idxOf a] = a := fun a ha => ⟨List.idxOf_lt_length_iff.mpr ((mem a).mpr ha), List.getElem_idxOf _⟩
  refine (List.perm_ext_iff_of_nodup ?_ List.nodup_range).mpr fun x => ?_
  · refine List.pairwise_map.mpr ?_
    refine List.Pairwise.imp_of_mem (fun {a b} ha hb hab => ?_) List.nodup_range
    intro e
    obtain ⟨h1, e1⟩ := ix a (List.mem_range.mp ha)
    obtain ⟨h2, e2⟩ := ix b (List.mem_range.mp hb)
    have : tn[tn.idxOf a] = tn[tn.idxOf b] := by simp only [e]
    exact hab (e1.symm.trans (this.trans e2))
  · constructor
    · intro hx
      obtain ⟨a, ha, rfl⟩ := List.mem_map.mp hx
      obtain ⟨h1, _⟩ := ix a (List.mem_range.mp ha)
      rw [List.mem_range]
      omega
    · intro hx
      have hx' : x < tn.length := by rw [len]; exact List.mem_range.mp hx
      refine List.mem_map.mpr ⟨tn[x], List.mem_range.mpr ((mem _).mp (List.getElem_mem _)), nd.idxOf_getElem x hx'⟩
abbrev tpo (ob : Obj) (tk : List Nat) : HO := .frz ob (.tup ((tk.map fun (x : Nat) => (x : Int)).map V.int))
theorem tpo_sq {K : PySem.W.Frag} {F : Hp} {p : Addr} {ob : Obj} {tk : List Nat} (h : F p = some (tpo ob tk)) : SqT K F p ((tk.map fun (x : Nat) => (x : Int)).map V.int) := .inl (.inr ⟨ob, h⟩)
def GOk (m n : Nat) (g : Nat × Nat × List Nat) : Prop := g.1 < m ∧ g.2.1 < m ∧ g.1 ≠ g.2.1 ∧ g.2.2.Perm (List.range n)
theorem cut6 (xs : List V) : cutV xs none (some 6) = xs.take 6 := by
  unfold cutV
  rw [HT.sIx_none, show HT.sIx xs.length xs.length (some 6) = min 6 xs.length from HT.sIx_nat xs.length xs.length 6]
  simp
section
variable {P : Program} {w : World} {K : PySem.W.Frag} {mg : Str → Option Value} {base : Heap} {C : Addr}
def GP (K : PySem.W.Frag) (F : Hp) (v : V) (g : Nat × Nat × List Nat) : Prop := Dp K F v (gD g) ∧ Gx K F v g
theorem GP.mono {F F' : Hp} {v : V} {g : Nat × Nat × List Nat} (e : Same F F') (h : GP K F v g) : GP K F' v g := ⟨dp_mono e h.1, h.2.mono e⟩
theorem gmk {F : Hp} {p c : Addr} {a b : Nat} {tn : List Nat} {ob : Obj} (hp : F p = some (.tup [.int a, .int b, .ref c])) (hc0 : F c = some (tpo ob tn)) (od : ob.dict = none) : GP K F (.ref p) (a, b, tn) := by
  have hc : SqT K F c ((tn.map fun (x : Nat) => (x : Int)).map V.int) := tpo_sq hc0
  refine ⟨?_, p, c, ob, rfl, .inl (.inl hp), hc0, od⟩
  refine .tup (.inl (.inl hp)) (.cons (.int _) (.cons (.int _) (.cons ?_ .nil)))
  have := dp_tupI hc
  rw [List.map_map] at this
  exact this
theorem gs_of {F : Hp} {m n : Nat} : ∀ (acc : List V), (∀ v ∈ acc, ∃ g, GOk m n g ∧ GP K F v g) → ∃ gs : List (Nat × Nat × List Nat), DpAll K F acc (gs.map gD) ∧ (∀ g ∈ gs, GOk m n g) ∧ TXs K F acc gs
  | [], _ => ⟨[], .nil, (fun g h => nomatch h), .nil⟩
  | v :: acc, h => by
    obtain ⟨g, h1, h2⟩ := h v (List.mem_cons_self ..)
    obtain ⟨gs, h3, h4, h5⟩ := gs_of acc fun x hx => h x (List.mem_cons_of_mem _ hx)
    refine ⟨g :: gs, .cons h2.1 h3, fun x hx => ?_, .cons h2.2 h5⟩
    rcases List.mem_cons.mp hx with rfl | hx
    · exact h1
    · exact h4 x hx
abbrev s__law_bench : Stmt := topS 20
abbrev n__law_bench : List Str := ["_law_state", "_law_plates", "_law_places", "_law_many", "_law_size", "_law_kind", "_law_same", "_law_hard", "_law_told_here", "_law_k", "_law_one", "_law_other", "_law_left", "_law_turn", "_law_back", "_law_at"]
theorem sc__law_bench : FnScope ["_law_state", "_law_plates", "_law_places", "_law_many", "_law_size", "_law_kind", "_law_same", "_law_hard", "_law_told_here", "_law_k", "_law_one", "_law_other", "_law_left", "_law_turn", "_law_back", "_law_at"] ["_law_state", "_law_plates", "_law_places"] (defScope s__law_bench) := ⟨rfl, rfl, rfl, by decide +kernel, rfl, by decide +kernel, by decide +kernel⟩
def spBench (K : PySem.W.Frag) : Sp := fun vs H Q _ => ∃ st s F, ∃ pl pc : Nat, vs = [.ref st, .int pl, .int pc] ∧ 2 ≤ pl ∧ pl ≤ 4 ∧ 1 ≤ pc ∧ pc ≤ 3 ∧ H st = some (.lst s) ∧ StOk s ∧ Same F (del H st) ∧
  ∀ m B F' H', BOk B → B.hard.length ≤ pl → B.places ≤ pc → SExt st F H F' H' → ModelAt K F' m B → Q (.ref m) H'
theorem ok_bench (B0 : Blt mg) (d__law_digit : Def P w K mg base 1 "_law_digit" ["_law_state", "_law_base"] (spDigit K)) (d__law_made : Def P w K mg base 1 "_law_made" ["_law_hard", "_law_places", "_law_told_here"] (spMade K)) (F : FunAt K mg "_law_bench" s__law_bench ["_law_state", "_law_plates", "_law_places"]) :
    Def P w K mg base 2 "_law_bench" ["_law_state", "_law_plates", "_law_places"] (spBench K) := by
  refine F.def (k := 1) sc__law_bench (fun vs H Q E h => ?_) (fun f cdv A outer s H vs Q E hr h => ?_)
  · obtain ⟨st, s, F, pl, pc, rfl, _⟩ := h
    rfl
  · obtain ⟨st, s, F, pl, pc, rfl, pl2, pl4, pc1, pc3, hst, sok, hF, q⟩ := h
    have B := B0
    have r0 : SExt st F H F H := SExt.refl hF hst sok
    refine ⟨_, (pss_cons (ps_set (i := 3) sc__law_bench.nd rfl (Or.inl rfl) (pe_op (k_add (K := K) rfl) pe_int (pe_d d__law_digit (hr.mono (by decide)) (by rfl) (pa_cons (pv 0) (pa_cons (pe_op op_sub (pv 1) pe_int) pa_nil))))) (pss_cons (ps_set (i := 4) sc__law_bench.nd rfl (Or.inl rfl) (pe_op (k_add (K := K) rfl) pe_int (pe_d d__law_digit (hr.mono (by decide)) (by rfl) (pa_cons (pv 0) (pa_cons (pv 2) pa_nil))))) (pss_cons (ps_set (i := 5) sc__law_bench.nd rfl (Or.inr rfl) (pe_d d__law_digit (hr.mono (by decide)) (by rfl) (pa_cons (pv 0) (pa_cons pe_int pa_nil)))) (pss_cons (ps_set (i := 6) sc__law_bench.nd rfl (Or.inr rfl) (pe_op (k_add (K := K) rfl) pe_int (pe_d d__law_digit (hr.mono (by decide)) (by rfl) (pa_cons (pv 0) (pa_cons pe_int pa_nil))))) (pss_cons (ps_setLc (i := 7) (own := [("_law_k", 9)]) rfl sc__law_bench.nd rfl rfl (sw_true rfl rfl rfl (by decide +kernel)) (pi_range1 (by rfl) B.range (pa_cons (pv 3) pa_nil)) (blkOk_by (own := [("_law_k", 9)]) (N := n__law_bench) (sc := defScope s__law_bench) (by decide +kernel)) (fun _ _ _ _ _ => (pg_name (i := 9) sc__law_bench.nd rfl (Or.inl rfl))) (fun _ _ _ _ _ => pts_nil) (fun _ _ _ _ _ => (pe_ix (k_ix (K := K) rfl) (pe_lst (pa_cons (pv 6) (pa_cons (pe_op (k_add (K := K) rfl) pe_int (pe_d d__law_digit (hr.mono (by decide)) (by rfl) (pa_cons (pv 0) (pa_cons pe_int pa_nil)))) (pa_cons (pe_op (k_add (K := K) rfl) pe_int (pe_d d__law_digit (hr.mono (by decide)) (by rfl) (pa_cons (pv 0) (pa_cons pe_int pa_nil)))) pa_nil)))) (pv 5) (fun _ _ => rfl)))) (pss_cons (ps_set (i := 8) sc__law_bench.nd rfl (Or.inl rfl) (pe_lst pa_nil)) (pss_cons (ps_for PassesOwn.never rfl (pi_range1 (by rfl) B.range (pa_cons (pe_op (k_add (K := K) rfl) pe_int (pe_d d__law_digit (hr.mono (by decide)) (by rfl) (pa_cons (pv 0) (pa_cons pe_int pa_nil)))) pa_nil)) (pg_name (i := 9) sc__law_bench.nd rfl (Or.inl rfl)) (pss_cons (ps_set (i := 10) sc__law_bench.nd rfl (Or.inl rfl) (pe_d d__law_digit (hr.mono (by decide)) (by rfl) (pa_cons (pv 0) (pa_cons (pv 3) pa_nil)))) (pss_cons (ps_set (i := 11) sc__law_bench.nd rfl (Or.inl rfl) (pe_op op_mod (pe_op (k_add (K := K) rfl) (pe_op (k_add (K := K) rfl) (pv 10) pe_int) (pe_d d__law_digit (hr.mono (by decide)) (by rfl) (pa_cons (pv 0) (pa_cons (pe_op op_sub (pv 3) pe_int) pa_nil)))) (pv 3))) (pss_cons (ps_set (i := 12) sc__law_bench.nd rfl (Or.inr rfl) (pe_listRg rfl (by rfl) B.list (prg_1 (by rfl) B.range (pv 4)))) (pss_cons (ps_set (i := 13) sc__law_bench.nd rfl (Or.inr rfl) (pe_callTy (k_tupleF (K := K) rfl) (by rfl) B.tuple bb_tuple (pa_cons (pe_lc (own := [("_law_at", 15)]) rfl sc__law_bench.nd (pi_range1 (by rfl) B.range (pa_cons (pv 4) pa_nil)) (blkOk_by (own := [("_law_at", 15)]) (N := n__law_bench) (sc := defScope s__law_bench) (by decide +kernel)) (fun _ _ _ _ _ => (pg_name (i := 15) sc__law_bench.nd rfl (Or.inl rfl))) (fun _ _ _ _ _ => pts_nil) (fun _ _ _ _ _ => (k_bm (K := K) rfl PySem.F.plainAttrs_list PySem.F.slot_list_pop PySem.F.type_list_pop mt_popAt (pv 12) (pa_cons (pe_d d__law_digit (hr.mono (by decide)) (by rfl) (pa_cons (pv 0) (pa_cons (pe_callB (k_len (K := K) rfl) (by rfl) B.len bb_len (pa_cons (pv 12) pa_nil)) pa_nil))) pa_nil)))) pa_nil))) (pss_cons (ps_expr (k_bm (K := K) rfl PySem.F.plainAttrs_list PySem.F.slot_list_append PySem.F.type_list_append mt_append (pv 8) (pa_cons (pe_tup (pa_cons (pv 10) (pa_cons (pv 11) (pa_cons (pv 13) pa_nil)))) pa_nil))) (pss_one (ps_if (pt_cmpR (k_eq (K := K) rfl hr.units) (pe_d d__law_digit (hr.mono (by decide)) (by rfl) (pa_cons (pv 0) (pa_cons pe_int pa_nil))) pe_int (nomark _)) (pss_cons (ps_set (i := 14) sc__law_bench.nd rfl (Or.inl rfl) (pe_callTy (k_tupleF (K := K) rfl) (by rfl) B.tuple bb_tuple (pa_cons (pe_lc (own := [("_law_at", 15)]) rfl sc__law_bench.nd (pi_range1 (by rfl) B.range (pa_cons (pv 4) pa_nil)) (blkOk_by (own := [("_law_at", 15)]) (N := n__law_bench) (sc := defScope s__law_bench) (by decide +kernel)) (fun _ _ _ _ _ => (pg_name (i := 15) sc__law_bench.nd rfl (Or.inl rfl))) (fun _ _ _ _ _ => pts_nil) (fun _ _ _ _ _ => (pe_bmT PySem.F.slot_tuple_index PySem.F.type_tuple_index (k_tupIx (K := K) rfl) (pv 13) (pa_cons (pv 15) pa_nil)))) pa_nil))) (pss_one (ps_expr (k_bm (K := K) rfl PySem.F.plainAttrs_list PySem.F.slot_list_append PySem.F.type_list_append mt_append (pv 8) (pa_cons (pe_ix (k_ix (K := K) rfl) (pe_lst (pa_cons (pe_tup (pa_cons (pv 10) (pa_cons (pv 11) (pa_cons (pv 13) pa_nil)))) (pa_cons (pe_tup (pa_cons (pv 11) (pa_cons (pv 10) (pa_cons (pv 14) pa_nil)))) pa_nil))) (pe_d d__law_digit (hr.mono (by decide)) (by rfl) (pa_cons (pv 0) (pa_cons pe_int pa_nil))) (fun _ _ => rfl)) pa_nil))))) pss_nil)))))))) (pss_one (ps_ret (pe_d d__law_made (hr.mono (by decide)) (by rfl) (pa_cons (pv 7) (pa_cons (pv 4) (pa_cons (pe_slice (k_sl (K := K) rfl) (pv 8) po_none (po_some pe_int)) pa_nil))))))))))))), ?_⟩; refine start_eq (σ' := [some (.ref st), some (.int pl), some (.int pc), none, none, none, none, none, none, none, none, none, none, none, none, none]) rfl ?_
    walk_at "rd"
    refine draw r0 (small_b (by omega) (by omega)) fun d0 H1 a0 b0 r1 _ => ?_
    walk_at "rd"
    refine draw r1 (small_b (by omega) (by omega)) fun d1 H2 a1 b1 r2 _ => ?_
    walk_at "rd"
    refine draw r2 (small_b (by decide) (by decide)) fun kd H3 a2 b2 r3 _ => ?_
    walk_at "rd"
    refine draw r3 (small_b (by decide) (by decide)) fun d3 H4 a3 b3 r4 _ => ?_
    obtain ⟨many, hmany⟩ : ∃ many : Nat, 2 + d0 = (many : Int) := ⟨(2 + d0).toNat, by omega⟩
    obtain ⟨size, hsize⟩ : ∃ size : Nat, 1 + d1 = (size : Int) := ⟨(1 + d1).toNat, by omega⟩
    rw [hmany, hsize]
    walk_at "rd"
    refine ⟨_, rfl, by omega, by omega, ?_⟩
    refine lc_mapS walk_range r4 (by omega) (fun _ _ => trivial) (fun i _ v => ∃ h : Int, v = .int h ∧ 1 ≤ h ∧ h ≤ 9) (fun _ _ _ _ _ h => h) (fun i x F' Ha Hb D Z hi ex fd hd nD hy hz => ?_) (fun lh ys F5 H5 nh r5 fh hlen hR => ?_)
    · obtain ⟨rfl, rfl⟩ := hy
      have ex0 : SExt st F' Hb F' Hb := by
        obtain ⟨s, hs, ok⟩ := ex.st
        exact SExt.refl ex.ext.fh hs ok
      walk_at "rd"
      refine ⟨rfl, ?_⟩
      walk_at "rd"
      refine draw ex0 (small_b (by decide) (by decide)) fun e1 Hc c1 c2 x1 _ => ?_
      walk_at "rd"
      refine draw x1 (small_b (by decide) (by decide)) fun e2 Hd c3 c4 x2 _ => ?_
      walk_at "rd"
      refine ⟨by show 3 ≤ sizeLine; decide, fun p hp => ?_⟩
      have x3 := x2.mut (o := .lst [.int (1 + d3), .int (1 + e1), .int (1 + e2)]) hp
      walk_at "rd"
      have k3 : kd = 0 ∨ kd = 1 ∨ kd = 2 := by omega
      rcases k3 with rfl | rfl | rfl
      · exact s_ixL rL_at rfl (hz _ _ _ x3 ⟨_, rfl, by omega, by omega⟩)
      · exact s_ixL rL_at rfl (hz _ _ _ x3 ⟨_, rfl, by omega, by omega⟩)
      · exact s_ixL rL_at rfl (hz _ _ _ x3 ⟨_, rfl, by omega, by omega⟩)
    · have r05 : SExt st F H F5 H5 := r4.trans r5
      obtain ⟨hard, hys, hh9⟩ : ∃ hard : List Int, ys = hard.map V.int ∧ ∀ h ∈ hard, 1 ≤ h ∧ h ≤ 9 := by
        clear hlen fh
        have : ∀ v ∈ ys, ∃ h : Int, v = .int h ∧ 1 ≤ h ∧ h ≤ 9 := fun v hv => by
          obtain ⟨i, hi⟩ := List.getElem?_of_mem hv
          exact hR i v hi
        clear hR
        induction ys with
        | nil => exact ⟨[], rfl, fun h z => by cases z⟩
        | cons v ys ih =>
          obtain ⟨h, rfl, h9⟩ := this v (List.mem_cons_self ..)
          obtain ⟨hs, rfl, hs9⟩ := ih fun x hx => this x (List.mem_cons_of_mem _ hx)
          exact ⟨h :: hs, rfl, fun x hx => by
            rcases List.mem_cons.mp hx with rfl | hx
            · exact h9
            · exact hs9 x hx⟩
      subst hys
      have hardlen : hard.length = many := by
        rw [List.length_map] at hlen
        omega
      walk_at "rd"
      refine ⟨Nat.zero_le _, fun lt nt => ?_⟩
      have tne : lt ≠ st := r05.ne nt
      have ntH : H lt = none := r05.back nt
      have r6 : SExt st F H F5 (upd H5 lt (.lst [])) := r05.mut nt
      have ht6 : (upd H5 lt (.lst [])) lt = some (.lst []) := upd_same
      have ft5 : F5 lt = none := sub_none r05.fh nt
      generalize upd H5 lt (.lst []) = H6 at *
      walk_at "rd"
      refine draw r6 (small_b (by decide) (by decide)) fun d4 H7 a4 b4 r7 k7 => ?_
      have ht7 := k7 _ _ tne ht6
      obtain ⟨turns, hturns⟩ : ∃ turns : Nat, 1 + d4 = (turns : Int) := ⟨(1 + d4).toNat, by omega⟩
      refine s_addI ?_
      rw [hturns]
      walk_at "rd"
      refine ⟨_, rfl, by omega, by omega, ?_⟩
      refine for_w walk_range (fun i σ Hx => ∃ y9 y10 y11 y12 y13 y14 Fx acc, σ = [some (.ref st), some (.int pl), some (.int pc), some (.int many), some (.int size), some (.int kd), some (.int (1 + d3)), some (.ref lh), some (.ref lt), y9, y10, y11, y12, y13, y14, none] ∧ SExt st F H Fx Hx ∧ Same F5 Fx ∧ Fx lt = none ∧ Hx lt = some (.lst acc) ∧ i ≤ acc.length ∧ acc.length ≤ 2 * i ∧ ∀ v ∈ acc, ∃ g, GOk many size g ∧ GP K Fx v g) ?_ ?_ ?_ ?_
      · exact ⟨none, none, none, none, none, none, F5, [], rfl, r7, Same.refl _, ft5, ht7, Nat.le_refl _, Nat.le_refl _, fun v h => by cases h⟩
      · intro _ _ _ _ _
        trivial
      · rintro i x σ Hx Hy hi ⟨y9, y10, y11, y12, y13, y14, Fx, acc, rfl, rx, sx, fx, hx, l1, l2, hacc⟩ ⟨rfl, rfl⟩
        walk_at "rd"
        refine draw rx (small_b (by omega) (by omega)) fun d5 H8 a5 b5 r8 k8 => ?_
        walk_at "rd"
        refine draw r8 (small_b (by omega) (by omega)) fun d6 H9 a6 b6 r9 k9 => ?_
        have hx9 := k9 _ _ tne (k8 _ _ tne hx)
        walk_at "rd"
        refine s_I (show (0 : Int) < (many : Int) by omega) ?_
        obtain ⟨one, hone⟩ : ∃ one : Nat, d5 = (one : Int) := ⟨d5.toNat, by omega⟩
        obtain ⟨other, hother⟩ : ∃ other : Nat, (d5 + 1 + d6) % (many : Int) = (other : Int) := ⟨((d5 + 1 + d6) % (many : Int)).toNat, by have := Int.emod_nonneg (d5 + 1 + d6) (show (many : Int) ≠ 0 by omega); omega⟩
        have o1 : one < many := by omega
        have o2 : other < many := by
          have := Int.emod_lt_of_pos (d5 + 1 + d6) (show (0 : Int) < (many : Int) by omega)
          omega
        have o3 : one ≠ other := by
          intro e
          have e1 := Int.emod_add_mul_ediv (d5 + 1 + d6) (many : Int)
          rw [hother] at e1
          have hq : (d5 + 1 + d6) / (many : Int) = 0 ∨ (d5 + 1 + d6) / (many : Int) = 1 := by
            have q0 : 0 ≤ (d5 + 1 + d6) / (many : Int) := Int.ediv_nonneg (by omega) (by omega)
            have q2 : (d5 + 1 + d6) / (many : Int) < 2 := Int.ediv_lt_of_lt_mul (by omega) (by omega)
            omega
          rcases hq with hq | hq
          · rw [hq] at e1; omega
          · rw [hq] at e1; omega
        rw [hother]
        subst hone
        walk_at "rd"
        refine ⟨RgOk.of_le (by omega) (by omega) (by omega) (by omega), fun ll nl => ?_⟩
        have lne : ll ≠ st := r9.ne nl
        have nlH : H ll = none := r9.back nl
        have ltl : lt ≠ ll := fun z => by rw [z, nl] at hx9; cases hx9
        have fl : Fx ll = none := sub_none r9.fh nl
        have r10 := r9.mut (o := .lst (rgV 0 (size : Int))) nl
        have hl10 : (upd H9 ll (.lst (rgV 0 (size : Int)))) ll = some (.lst (((List.range size).map fun (x : Nat) => (x : Int)).map V.int)) := by rw [upd_same, rgV_nat]
        have hx10 : (upd H9 ll (.lst (rgV 0 (size : Int)))) lt = some (.lst acc) := rH_new nl hx9
        generalize upd H9 ll (.lst (rgV 0 (size : Int))) = H10 at *
        walk_at "rd"
        refine ⟨_, rfl, by omega, by omega, ?_⟩
        intro D nD
        have Dne : D ≠ st := r10.ne nD
        have nDH : H D = none := r10.back nD
        have Dl : D ≠ ll := fun z => by rw [z, hl10] at nD; cases nD
        have Dt : D ≠ lt := fun z => by rw [z, hx10] at nD; cases nD
        have fD : Fx D = none := sub_none r10.fh nD
        refine lc_it walk_range (fun j Hj => ∃ tk rem : List Nat, SExt st F H Fx Hj ∧ Hj lt = some (.lst acc) ∧ Hj ll = some (.lst ((rem.map fun (x : Nat) => (x : Int)).map V.int)) ∧ Hj D = some (.lst ((tk.map fun (x : Nat) => (x : Int)).map V.int)) ∧ tk.length = j ∧ rem.length + j = size ∧ (tk ++ rem).Perm (List.range size)) ?_ ?_ ?_ ?_
        · exact ⟨[], List.range size, r10.mut nD, rH_new nD hx10, rH_new nD hl10, upd_same, rfl, by simp, List.Perm.refl _⟩
        · intro _ _ _ _
          trivial
        · rintro j xj Hj Hk hj ⟨tk, rem, rj, tj, lj, dj, tkl, reml, perm⟩ ⟨rfl, rfl⟩
          walk_at "rd"
          refine ⟨rfl, ?_⟩
          walk_at "rd"
          refine ⟨tyV_lst lj, ?_⟩
          walk_at "rd"
          refine s_lenL (.inl (.inl lj)) ?_
          rw [List.length_map, List.length_map]
          walk_at "rd"
          refine draw rj (small_b (by omega) (by omega)) fun d7 Hm a7 b7 rm km => ?_
          walk_at "rd"
          obtain ⟨k, hk⟩ : ∃ k : Nat, d7 = (k : Int) := ⟨d7.toNat, by omega⟩
          subst hk
          have kl : k < rem.length := by omega
          have lm := km _ _ lne lj
          have tm := km _ _ tne tj
          have dm := km _ _ Dne dj
          refine ⟨ll, _, (k : Int), k, .int ((rem[k] : Nat) : Int), rfl, rfl, lm, by omega, by omega, by rw [seqIndex_of (by omega) (by simp; omega)]; simp, by simp [kl], ?_⟩
          have e : ((rem.map fun (x : Nat) => (x : Int)).map V.int).eraseIdx k = ((rem.eraseIdx k).map fun (x : Nat) => (x : Int)).map V.int := by rw [er_map, er_map]
          rw [e]
          refine ⟨_, by rw [upd_ne Dl]; exact dm, Nat.lt_of_le_of_lt (show _ ≤ 100 by simp; omega) (by decide), tk ++ [rem[k]], rem.eraseIdx k, ?_, ?_, ?_, ?_, by simp [tkl], by rw [List.length_eraseIdx_of_lt kl]; omega, ?_⟩
          · exact (rm.chg lne nlH fl).chg Dne nDH fD
          · rw [upd_ne (Ne.symm Dt), upd_ne ltl]
            exact tm
          · rw [upd_ne (Ne.symm Dl), upd_same]
          · rw [upd_same]
            simp
          · rw [List.append_assoc]
            exact ((pop_perm rem k kl).append_left tk).trans perm
        · rintro Hj ⟨tk, rem, rj, tj, lj, dj, tkl, reml, perm⟩
          have rem0 : rem = [] := List.eq_nil_of_length_eq_zero (by omega)
          subst rem0
          rw [List.append_nil] at perm
          walk_at "rd"
          refine s_tupleF (.inl (.inl dj)) fun tp ob obd np => ?_
          have r11 := rj.new (o := tpo ob tk) np
          have t11 : (upd Hj tp (tpo ob tk)) lt = some (.lst acc) := rH_new np tj
          have f11 : (upd Fx tp (tpo ob tk)) tp = some (tpo ob tk) := upd_same
          have ftp : Fx tp = none := sub_none rj.fh np
          have s11 : Same Fx (upd Fx tp (tpo ob tk)) := same_upd ftp
          have ft11 : (upd Fx tp (tpo ob tk)) lt = none := by
            rw [upd_ne]
            · exact fx
            · intro z; rw [← z, tj] at np; cases np
          generalize upd Hj tp (tpo ob tk) = H11 at *
          generalize upd Fx tp (tpo ob tk) = F11 at *
          walk_at "rd"
          refine ⟨tyV_lst t11, ?_⟩
          walk_at "rd"
          refine ⟨by show 3 ≤ sizeLine; decide, fun gp ngp => ?_⟩
          have r12 := r11.new (o := .tup [.int one, .int other, .ref tp]) ngp
          have t12 : (upd H11 gp (.tup [.int one, .int other, .ref tp])) lt = some (.lst acc) := rH_new ngp t11
          have s12 : Same F11 (upd F11 gp (.tup [.int one, .int other, .ref tp])) := same_upd (sub_none r11.fh ngp)
          have f12 : (upd F11 gp (.tup [.int one, .int other, .ref tp])) gp = some (.tup [.int one, .int other, .ref tp]) := upd_same
          have ft12 : (upd F11 gp (.tup [.int one, .int other, .ref tp])) lt = none := by
            rw [upd_ne]
            · exact ft11
            · intro z; rw [← z, t11] at ngp; cases ngp
          generalize upd H11 gp (.tup [.int one, .int other, .ref tp]) = H12 at *
          generalize upd F11 gp (.tup [.int one, .int other, .ref tp]) = F12 at *
          have dg := gmk (K := K) f12 (s12 _ _ f11) obd
          walk_at "rd"
          refine s_app t12 (by omega) ?_
          have r13 := r12.chg (o := .lst (acc ++ [.ref gp])) tne ntH ft12
          have t13 : (upd H12 lt (.lst (acc ++ [.ref gp]))) lt = some (.lst (acc ++ [.ref gp])) := upd_same
          have hacc2 : ∀ v ∈ acc ++ [.ref gp], ∃ g, GOk many size g ∧ GP K F12 v g := fun v hv => by
            rcases List.mem_append.mp hv with hv | hv
            · obtain ⟨g, h1, h2⟩ := hacc v hv
              exact ⟨g, h1, h2.mono (s11.trans s12)⟩
            · rw [List.mem_singleton.mp hv]
              exact ⟨_, ⟨o1, o2, o3, perm⟩, dg⟩
          have sF : Same F5 F12 := (sx.trans s11).trans s12
          generalize upd H12 lt (.lst (acc ++ [.ref gp])) = H13 at *
          walk_at "rd"
          refine draw r13 (small_b (by decide) (by decide)) fun d8 H14 a8 b8 r14 k14 => ?_
          have t14 := k14 _ _ tne t13
          walk_at "rd"
          refine s_d2 (fun e8 => ?_) (fun e8 => ?_)
          · walk_at "rd"
            refine ⟨_, rfl, by omega, by omega, ?_⟩
            refine lc_mapS walk_range r14 (by omega) (fun _ _ => trivial) (fun j _ v => v = .int ((tk.idxOf j : Nat) : Int)) (fun _ _ _ _ _ h => h) (fun j x F' Ha Hb D Z hj ex fd hd nD hy hz => ?_) (fun D ys F15 H15 nD r15 fD hlen hR => ?_)
            · obtain ⟨rfl, rfl⟩ := hy
              have ex0 : SExt st F' Hb F' Hb := by
                obtain ⟨s, hs, ok⟩ := ex.st
                exact SExt.refl ex.ext.fh hs ok
              walk_at "rd"
              refine ⟨rfl, ?_⟩
              walk_at "rd"
              have htf := ex.fh _ _ (ex.ext.ff _ _ (s12 _ _ f11))
              have htp : SqT K Hb tp ((tk.map fun (x : Nat) => (x : Int)).map V.int) := tpo_sq htf
              refine ⟨⟨tp, ob, _, rfl, htf, obd⟩, ?_⟩
              walk_at "rd"
              refine ⟨tp, _, _, rfl, rfl, htp, ?_, ?_⟩
              · rw [Int.zero_add]
                refine List.mem_map.mpr ⟨j, ?_, rfl⟩
                rw [perm.mem_iff, List.mem_range]
                omega
              · rw [Int.zero_add, idx_map]
                exact hz _ _ _ ex0 rfl
            · have hys : ys = ((backT size tk).map fun (x : Nat) => (x : Int)).map V.int := by
                refine List.ext_getElem? fun i => ?_
                cases hv : ys[i]? with
                | none =>
                  have : ys.length ≤ i := List.getElem?_eq_none_iff.mp hv
                  rw [List.getElem?_eq_none (by simp [backT]; omega)]
                | some v =>
                  have hi : i < ys.length := (List.getElem?_eq_some_iff.mp hv).1
                  have hi2 : i < size := by omega
                  rw [hR i v hv]
                  simp [backT, hi2]
              subst hys
              have t15 := r15.keep tne t14
              have ft15 := r15.fr tne (by rw [t14]; simp) ft12
              have r015 := r14.trans r15
              walk_at "rd"
              refine s_tupleF (.inl (.inl (r15.fh _ _ fD))) fun bp ob2 ob2d nb => ?_
              have r16 := r015.new (o := tpo ob2 (backT size tk)) nb
              have t16 : (upd H15 bp (tpo ob2 (backT size tk))) lt = some (.lst (acc ++ [.ref gp])) := rH_new nb t15
              have s16 : Same F15 (upd F15 bp (tpo ob2 (backT size tk))) := same_upd (sub_none r015.fh nb)
              have f16 : (upd F15 bp (tpo ob2 (backT size tk))) bp = some (tpo ob2 (backT size tk)) := upd_same
              have ft16 : (upd F15 bp (tpo ob2 (backT size tk))) lt = none := by
                rw [upd_ne]
                · exact ft15
                · intro z; rw [← z, t15] at nb; cases nb
              generalize upd H15 bp (tpo ob2 (backT size tk)) = H16 at *
              generalize upd F15 bp (tpo ob2 (backT size tk)) = F16 at *
              walk_at "rd"
              refine ⟨tyV_lst t16, ?_⟩
              walk_at "rd"
              refine ⟨by show 3 ≤ sizeLine; decide, fun g1 ng1 => ?_⟩
              have r17 := r16.new (o := .tup [.int one, .int other, .ref tp]) ng1
              have t17 := rH_new (o := .tup [.int one, .int other, .ref tp]) ng1 t16
              have s17 : Same F16 (upd F16 g1 (.tup [.int one, .int other, .ref tp])) := same_upd (sub_none r16.fh ng1)
              have f17 : (upd F16 g1 (.tup [.int one, .int other, .ref tp])) g1 = some (.tup [.int one, .int other, .ref tp]) := upd_same
              have ft17 : (upd F16 g1 (.tup [.int one, .int other, .ref tp])) lt = none := by
                rw [upd_ne]
                · exact ft16
                · intro z; rw [← z, t16] at ng1; cases ng1
              generalize upd H16 g1 (.tup [.int one, .int other, .ref tp]) = H17 at *
              generalize upd F16 g1 (.tup [.int one, .int other, .ref tp]) = F17 at *
              walk_at "rd"
              refine ⟨by show 3 ≤ sizeLine; decide, fun g2 ng2 => ?_⟩
              have r18 := r17.new (o := .tup [.int other, .int one, .ref bp]) ng2
              have t18 := rH_new (o := .tup [.int other, .int one, .ref bp]) ng2 t17
              have s18 : Same F17 (upd F17 g2 (.tup [.int other, .int one, .ref bp])) := same_upd (sub_none r17.fh ng2)
              have f18 : (upd F17 g2 (.tup [.int other, .int one, .ref bp])) g2 = some (.tup [.int other, .int one, .ref bp]) := upd_same
              have ft18 : (upd F17 g2 (.tup [.int other, .int one, .ref bp])) lt = none := by
                rw [upd_ne]
                · exact ft17
                · intro z; rw [← z, t17] at ng2; cases ng2
              generalize upd H17 g2 (.tup [.int other, .int one, .ref bp]) = H18 at *
              generalize upd F17 g2 (.tup [.int other, .int one, .ref bp]) = F18 at *
              walk_at "rd"
              refine ⟨by show 2 ≤ sizeLine; decide, fun lp nlp => ?_⟩
              have r19 := r18.mut (o := .lst [.ref g1, .ref g2]) nlp
              have t19 := rH_new (o := .lst [.ref g1, .ref g2]) nlp t18
              have h19 : (upd H18 lp (.lst [.ref g1, .ref g2])) lp = some (.lst [.ref g1, .ref g2]) := upd_same
              have lpne : lp ≠ st := r18.ne nlp
              generalize upd H18 lp (.lst [.ref g1, .ref g2]) = H19 at *
              walk_at "rd"
              refine draw r19 (small_b (by decide) (by decide)) fun d9 H20 a9 b9 r20 k20 => ?_
              have t20 := k20 _ _ tne t19
              have h20 := k20 _ _ lpne h19
              have sA : Same F12 F18 := ((r15.ext.ff.trans s16).trans s17).trans s18
              have dg1 := gmk (K := K) (s18 _ _ f17) (sA _ _ (s12 _ _ f11)) obd
              have dg2 := gmk (K := K) f18 (s18 _ _ (s17 _ _ f16)) ob2d
              have fin : ∀ v, (∃ g, GOk many size g ∧ GP K F18 v g) → ∃ y9 y10 y11 y12 y13 y14 Fx acc', [some (.ref st), some (.int pl), some (.int pc), some (.int many), some (.int size), some (.int kd), some (.int (1 + d3)), some (.ref lh), some (.ref lt), some (V.int (0 + (i : Int))), some (V.int (one : Int)), some (V.int (other : Int)), some (V.ref ll), some (V.ref tp), some (V.ref bp), none] = [some (.ref st), some (.int pl), some (.int pc), some (.int many), some (.int size), some (.int kd), some (.int (1 + d3)), some (.ref lh), some (.ref lt), y9, y10, y11, y12, y13, y14, none] ∧ SExt st F H Fx (upd H20 lt (.lst ((acc ++ [.ref gp]) ++ [v]))) ∧ Same F5 Fx ∧ Fx lt = none ∧ (upd H20 lt (.lst ((acc ++ [.ref gp]) ++ [v]))) lt = some (.lst acc') ∧ i + 1 ≤ acc'.length ∧ acc'.length ≤ 2 * (i + 1) ∧ ∀ v ∈ acc', ∃ g, GOk many size g ∧ GP K Fx v g := fun v hv =>
                ⟨_, _, _, _, _, _, F18, _, rfl, r20.chg tne ntH ft18, sF.trans sA, ft18, upd_same, by simp; omega, by simp; omega, fun u hu => by
                  rcases List.mem_append.mp hu with hu | hu
                  · obtain ⟨g, h1, h2⟩ := hacc2 u hu
                    exact ⟨g, h1, h2.mono sA⟩
                  · rw [List.mem_singleton.mp hu]
                    exact hv⟩
              have d9' : d9 = 0 ∨ d9 = 1 := by omega
              rcases d9' with rfl | rfl
              · refine s_ixL (.inl (.inl h20)) rfl ?_
                walk_at "rd"
                refine s_app t20 (by simp; omega) ?_
                exact fin _ ⟨_, ⟨o1, o2, o3, perm⟩, dg1⟩
              · refine s_ixL (.inl (.inl h20)) rfl ?_
                walk_at "rd"
                refine s_app t20 (by simp; omega) ?_
                exact fin _ ⟨_, ⟨o2, o1, Ne.symm o3, back_perm perm⟩, dg2⟩
          · walk_at "rd"
            exact ⟨_, _, _, _, _, _, F12, _, rfl, r14, sF, ft12, t14, by simp; omega, by simp; omega, hacc2⟩
      · rintro σ Hx ⟨y9, y10, y11, y12, y13, y14, Fx, acc, rfl, rx, sx, fx, hx, l1, l2, hacc⟩
        walk_at "rd"
        refine .inl ⟨lt, _, rfl, .inl (.inl hx), fun sl nsl => ?_⟩
        rw [cut6]
        have r21 := rx.new (o := .lst (acc.take 6)) nsl
        have s21 : Same Fx (upd Fx sl (.lst (acc.take 6))) := same_upd (sub_none rx.fh nsl)
        have f21 : (upd Fx sl (.lst (acc.take 6))) sl = some (.lst (acc.take 6)) := upd_same
        obtain ⟨gs, hgs, gok, gtx⟩ := gs_of (K := K) (F := Fx) (m := many) (n := size) (acc.take 6) fun v hv => hacc v (List.mem_of_mem_take hv)
        have glen : gs.length = (acc.take 6).length := by
          have := dpAll_len hgs
          rw [List.length_map] at this
          exact this.symm
        generalize upd Hx sl (.lst (acc.take 6)) = H21 at *
        generalize upd Fx sl (.lst (acc.take 6)) = F21 at *
        have bok : BOk ⟨hard, size, gs⟩ := by
          refine ⟨⟨?_, ?_⟩, hh9, ⟨?_, ?_⟩, ⟨?_, ?_⟩, fun g hg => ?_⟩
          · show 2 ≤ hard.length; omega
          · show hard.length ≤ 4; omega
          · show 1 ≤ size; omega
          · show size ≤ 3; omega
          · show 1 ≤ gs.length
            rw [glen, List.length_take]
            have : (turns : Int).toNat = turns := by simp
            omega
          · show gs.length ≤ 6
            rw [glen, List.length_take]
            omega
          · have := gok g hg
            show g.1 < hard.length ∧ g.2.1 < hard.length ∧ _
            rw [hardlen]
            exact this
        walk_at "rd"
        refine ⟨lh, sl, ⟨hard, size, gs⟩, F21, rfl, r21.fh, bok, sqL_mono (sx.trans s21) (.inl (.inl fh)),   .lst (.inl (.inl f21)) (dpAll_mono s21 hgs), ⟨_, .inl (.inl f21), gtx.mono s21⟩, fun m F' H' e' hm => ?_⟩
        exact q m _ F' H' bok (by show hard.length ≤ pl; omega) (by show size ≤ pc; omega) (r21.pure e') hm
end
end G

namespace G
open PySem PySem.Spec PyProof.Rows L2
local macro_rules | `(tactic| walk_at "lk") => `(tactic| first | assumption | exact rT_at | exact rL_at | exact upd_same | (refine sqT_mono ?_ (by assumption); assumption) | (refine sqL_mono ?_ (by assumption); assumption) | (refine rT_new (by assumption) ?_; walk_at "lk") | (refine rL_new (by assumption) ?_; walk_at "lk") | (refine rH_new (by assumption) ?_; walk_at "lk") | (refine rD_new (by assumption) ?_; walk_at "lk") | (refine dp_mono ?_ (by assumption); assumption))
local macro_rules | `(tactic| walk_at "r1") => `(tactic| first | ((with_reducible show tVar _ _ _ _); refine s_var rfl ?_) | with_reducible refine s_c ?_ | with_reducible refine s_op ?_ | with_reducible refine s_un ?_ | with_reducible refine s_neg ?_ | with_reducible refine s_test ?_ | with_reducible refine s_B ?_ | with_reducible refine s_bl ?_ | with_reducible refine s_not ?_ | with_reducible refine s_yes ?_ | with_reducible refine s_and ?_ | with_reducible refine s_or ?_ | with_reducible refine s_notV ?_ | with_reducible refine s_andV ?_ | with_reducible refine s_orV ?_ | with_reducible refine s_if ?_ | with_reducible refine s_cT ?_ | with_reducible refine s_cF ?_ | with_reducible refine s_nT ?_ | with_reducible refine s_nF ?_ | with_reducible refine s_addI ?_ | with_reducible refine s_eqI ?_ | with_reducible refine s_neI ?_ | with_reducible refine s_eqB ?_ | with_reducible refine s_neB ?_ | with_reducible refine s_I0 ?_ | with_reducible refine s_non ?_ | with_reducible refine s_int ?_ | with_reducible refine s_chain ?_ | with_reducible refine s_cons ?_ | with_reducible refine s_nil ?_ | with_reducible refine s_call ?_ | with_reducible refine s_cb ?_ | with_reducible refine s_meth ?_ | with_reducible refine s_make ?_ | with_reducible refine s_tup ?_ | with_reducible refine s_lst ?_ | with_reducible refine s_bm ?_ | with_reducible refine s_bm0 ?_ | with_reducible refine s_bmT ?_ | with_reducible refine s_fld ?_ | with_reducible refine s_dget ?_ | with_reducible refine s_sl ?_ | with_reducible refine s_part ?_ | with_reducible refine s_nopart ?_ | with_reducible refine s_seq ?_ | with_reducible refine s_next ?_ | with_reducible refine s_asg ?_ | with_reducible refine s_gn ?_ | with_reducible refine s_gc ?_ | with_reducible refine s_g0 ?_ | with_reducible refine s_gs ?_ | with_reducible refine s_ret ?_ | with_reducible refine s_ifS ?_ | with_reducible refine s_drop ?_ | with_reducible refine s_augS ?_ | ((with_reducible show tAug _ _ _ _ _ _); refine s_aug rfl ?_) | with_reducible refine s_ipI ?_ | with_reducible refine s_for ?_ | with_reducible refine s_iseq ?_ | with_reducible refine s_rng1 ?_ | with_reducible refine s_izip ?_ | with_reducible refine s_lc ?_ | with_reducible refine s_lc2 ?_ | with_reducible refine s_lstRg ?_ | with_reducible refine s_rg1 ?_ | with_reducible refine s_sfld ?_ | with_reducible refine s_ienum ?_ | with_reducible refine s_disp ?_ | with_reducible refine s_pc ?_ | with_reducible refine s_pn ?_)
local macro_rules | `(tactic| walk_at "rd") => `(tactic| repeat walk_at "r1")

section
variable {P : Program} {w : World} {K : PySem.W.Frag} {mg : Str → Option Value} {base : Heap} {C : Addr}
theorem s_dgk {H : Hp} {a : Addr} {v : V} {A : V → Prop} {kvs : List (Key × V)} {s : Str} (h : H a = some (.dK kvs)) (hv : valV kvs (Sum.inr s) = some v) (q : A v) : ∃ a' v', V.ref a = .ref a' ∧ DGet H a' (.str s) (some v') ∧ A v' := ⟨a, v, rfl, hv ▸ DGet.k (k := Sum.inr s) h, q⟩
abbrev s__law_program : Stmt := topS 21
abbrev n__law_program : List Str := ["_law_model"]
theorem sc__law_program : FnScope ["_law_model"] ["_law_model"] (defScope s__law_program) := ⟨rfl, rfl, rfl, by decide +kernel, rfl, by decide +kernel, by decide +kernel⟩
def spProgram (K : PySem.W.Frag) (C : Addr) : Sp := fun vs H Q _ => ∃ m B F, vs = [.ref m] ∧ Same F H ∧ BOk B ∧ ModelAt K F m B ∧ ∀ b F' H', Ext F H F' H' → BenchAt K C F' b B → Q (.ref b) H'
theorem ok_program (B0 : Blt mg) (c_Bench : DefC P w K mg base 5 C "Bench" ["self", "hardness", "places", "grindings"] (spInit K C)) (F : FunAt K mg "_law_program" s__law_program ["_law_model"]) : Def P w K mg base 7 "_law_program" ["_law_model"] (spProgram K C) := by
  refine F.def (k := 6) sc__law_program (fun vs H Q E h => ?_) (fun f cdv A outer s H vs Q E hr h => ?_)
  · obtain ⟨m, B, F, rfl, _⟩ := h
    rfl
  · obtain ⟨m, B1, F, rfl, hF, ok, hm, q⟩ := h
    obtain ⟨l1, l2, l3, l4, hd, h1, h2, h3, h4⟩ := hm.ex
    obtain ⟨gx, hgx, hga⟩ := dp_list h2
    have B := B0
    refine ⟨_, (pss_one (ps_ret (pe_mk c_Bench (hr.mono (by decide)) (by rfl) (pa_cons (pe_callTy (k_list (K := K) rfl) (by rfl) B.list bb_list (pa_cons (pe_dget (hu_of hr) (pv 0) pe_str (fun _ _ => rfl)) pa_nil)) (pa_cons (pe_dget (hu_of hr) (pv 0) pe_str (fun _ _ => rfl)) (pa_cons (pe_callTy (k_list (K := K) rfl) (by rfl) B.list bb_list (pa_cons (pe_dget (hu_of hr) (pv 0) pe_str (fun _ _ => rfl)) pa_nil)) pa_nil)))))), ?_⟩; refine start_eq (σ' := [some (.ref m)]) rfl ?_
    walk_at "rd"
    refine s_dgk (hF _ _ hd) mv_hard ?_
    walk_at "rd"
    refine s_listL (sqL_mono hF h1) fun a na => ?_
    have e1 := (Ext.refl hF).new (o := .lst (B1.hard.map V.int)) na
    have f1 : (upd F a (.lst (B1.hard.map V.int))) a = some (.lst (B1.hard.map V.int)) := upd_same
    generalize upd H a (.lst (B1.hard.map V.int)) = H1 at *
    generalize upd F a (.lst (B1.hard.map V.int)) = F1 at *
    walk_at "rd"
    refine s_dgk (e1.fh _ _ (e1.ff _ _ hd)) mv_places ?_
    walk_at "rd"
    refine s_dgk (e1.fh _ _ (e1.ff _ _ hd)) mv_told ?_
    walk_at "rd"
    refine s_listL (sqL_mono (e1.ff.trans e1.fh) hgx) fun c nc => ?_
    have e2 := e1.new (o := .lst gx) nc
    have f2 : (upd F1 c (.lst gx)) c = some (.lst gx) := upd_same
    have s2 : Same F1 (upd F1 c (.lst gx)) := same_upd (sub_none e1.fh nc)
    generalize upd H1 c (.lst gx) = H2 at *
    generalize upd F1 c (.lst gx) = F2 at *
    walk_at "rd"
    intro x dx nx ndx nex
    refine ⟨x, dx, a, c, B1, H2, F2, gx, rfl, rfl, nx, ndx, nex, e2.fh, ok, .inl (.inl (e2.fh _ _ (s2 _ _ f1))), .inl (.inl (e2.fh _ _ f2)), dpAll_mono e2.ff hga, fun F' H' e' hb => ⟨rfl, ?_⟩⟩
    exact q x F' H' (e2.trans e') hb
abbrev s__law_stand : Stmt := topS 22
abbrev n__law_stand : List Str := ["_law_state", "_law_model", "_law_most", "_law_many", "_law_k"]
theorem sc__law_stand : FnScope ["_law_state", "_law_model", "_law_most", "_law_many", "_law_k"] ["_law_state", "_law_model", "_law_most"] (defScope s__law_stand) := ⟨rfl, rfl, rfl, by decide +kernel, rfl, by decide +kernel, by decide +kernel⟩
def spStand (K : PySem.W.Frag) : Sp := fun vs H Q _ => ∃ st s F m B, ∃ most : Int, vs = [.ref st, .ref m, .int most] ∧ 0 ≤ most ∧ most < 2 ^ 200 ∧ H st = some (.lst s) ∧ StOk s ∧ Same F (del H st) ∧ BOk B ∧ ModelAt K F m B ∧
  ∀ p (hs : List Int) F' H', SExt st F H F' H' → F' p = some (.tup (hs.map V.int)) → hs.length = B.heavy.length → (∀ h ∈ hs, -most ≤ h ∧ h ≤ most) → Q (.ref p) H'
theorem big_b {b : Int} (h1 : 0 < b) (h2 : b < 2 ^ 250) : ∀ n, CDivW n b := fun n => wide_div (b := 250) h1 (by
  have e : ((2 ^ 250 : Nat) : Int) = (2 : Int) ^ 250 := Int.natCast_pow 2 250
  omega) (by decide) (by decide)
theorem ints_of {most : Int} (ys : List V) (h : ∀ (i : Nat) v, ys[i]? = some v → ∃ x : Int, v = .int x ∧ -most ≤ x ∧ x ≤ most) : ∃ hs : List Int, ys = hs.map V.int ∧ ∀ x ∈ hs, -most ≤ x ∧ x ≤ most := by
  have : ∀ v ∈ ys, ∃ x : Int, v = .int x ∧ -most ≤ x ∧ x ≤ most := fun v hv => by
    obtain ⟨i, hi⟩ := List.getElem?_of_mem hv
    exact h i v hi
  clear h
  induction ys with
  | nil => exact ⟨[], rfl, fun h z => by cases z⟩
  | cons v ys ih =>
    obtain ⟨h, rfl, h9⟩ := this v (List.mem_cons_self ..)
    obtain ⟨hs, rfl, hs9⟩ := ih fun x hx => this x (List.mem_cons_of_mem _ hx)
    exact ⟨h :: hs, rfl, fun x hx => by
      rcases List.mem_cons.mp hx with rfl | hx
      · exact h9
      · exact hs9 x hx⟩
theorem ok_stand (B0 : Blt mg) (d__law_digit : Def P w K mg base 1 "_law_digit" ["_law_state", "_law_base"] (spDigit K)) (F : FunAt K mg "_law_stand" s__law_stand ["_law_state", "_law_model", "_law_most"]) : Def P w K mg base 2 "_law_stand" ["_law_state", "_law_model", "_law_most"] (spStand K) := by
  refine F.def (k := 1) sc__law_stand (fun vs H Q E h => ?_) (fun f cdv A outer s H vs Q E hr h => ?_)
  · obtain ⟨st, s, F, m, B, most, rfl, _⟩ := h
    rfl
  · obtain ⟨st, s, F, m, B1, most, rfl, m0, m1, hst, sok, hF, ok, hm, q⟩ := h
    obtain ⟨l1, l2, l3, l4, hd, h1, h2, h3, h4⟩ := hm.ex
    have B := B0
    have r0 : SExt st F H F H := SExt.refl hF hst sok
    have hl := ok.heavy_lt
    have p200 : (2 : Int) ^ 200 * 4 ≤ 2 ^ 250 := by decide
    refine ⟨_, (pss_cons (ps_set (i := 3) sc__law_stand.nd rfl (Or.inl rfl) (pe_callB (k_len (K := K) rfl) (by rfl) B.len bb_len (pa_cons (pe_dget (hu_of hr) (pv 1) pe_str (fun _ _ => rfl)) pa_nil))) (pss_cons (ps_if (pt_cmpR (k_eq (K := K) rfl hr.units) (pe_d d__law_digit (hr.mono (by decide)) (by rfl) (pa_cons (pv 0) (pa_cons pe_int pa_nil))) pe_int (nomark _)) (pss_one (ps_ret (pe_callTy (k_tuple (K := K) rfl) (by rfl) B.tuple bb_tuple (pa_cons (pe_lc (own := [("_law_k", 4)]) rfl sc__law_stand.nd (pi_range1 (by rfl) B.range (pa_cons (pv 3) pa_nil)) (blkOk_by (own := [("_law_k", 4)]) (N := n__law_stand) (sc := defScope s__law_stand) (by decide +kernel)) (fun _ _ _ _ _ => (pg_name (i := 4) sc__law_stand.nd rfl (Or.inl rfl))) (fun _ _ _ _ _ => pts_nil) (fun _ _ _ _ _ => (pe_op opMulU (pe_op op_sub (pe_d d__law_digit (hr.mono (by decide)) (by rfl) (pa_cons (pv 0) (pa_cons pe_int pa_nil))) pe_int) (pe_d d__law_digit (hr.mono (by decide)) (by rfl) (pa_cons (pv 0) (pa_cons (pe_op (k_add (K := K) rfl) (pv 2) pe_int) pa_nil)))))) pa_nil)))) pss_nil) (pss_one (ps_ret (pe_callTy (k_tuple (K := K) rfl) (by rfl) B.tuple bb_tuple (pa_cons (pe_lc (own := [("_law_k", 4)]) rfl sc__law_stand.nd (pi_range1 (by rfl) B.range (pa_cons (pv 3) pa_nil)) (blkOk_by (own := [("_law_k", 4)]) (N := n__law_stand) (sc := defScope s__law_stand) (by decide +kernel)) (fun _ _ _ _ _ => (pg_name (i := 4) sc__law_stand.nd rfl (Or.inl rfl))) (fun _ _ _ _ _ => pts_nil) (fun _ _ _ _ _ => (pe_op op_sub (pe_d d__law_digit (hr.mono (by decide)) (by rfl) (pa_cons (pv 0) (pa_cons (pe_op (k_add (K := K) rfl) (pe_op opMulU pe_int (pv 2)) pe_int) pa_nil))) (pv 2)))) pa_nil)))))), ?_⟩; refine start_eq (σ' := [some (.ref st), some (.ref m), some (.int most), none, none]) rfl ?_
    walk_at "rd"
    refine s_dgk (r0.fh _ _ hd) mv_heavy ?_
    walk_at "rd"
    refine s_lenL (sqL_mono r0.fh h3) ?_
    rw [List.length_map]
    walk_at "rd"
    refine draw r0 (small_b (by decide) (by decide)) fun d0 H1 a0 b0 r1 _ => ?_
    walk_at "rd"
    have fin : ∀ D ys F' H', SExt st F H1 F' H' → F' D = some (.lst ys) → ys.length = ((B1.heavy.length : Int)).toNat → (∀ (i : Nat) v, ys[i]? = some v → ∃ x : Int, v = .int x ∧ -most ≤ x ∧ x ≤ most) → rTupleOf K [.ref D] H' Q := fun D ys F' H' e' hD hlen hR => by
      obtain ⟨hs, rfl, hb⟩ := ints_of ys hR
      refine s_tupleL (.inl (.inl (e'.fh _ _ hD))) fun p np => ?_
      refine q p hs _ _ ((r1.trans e').new np) upd_same ?_ hb
      rw [List.length_map] at hlen
      omega
    refine s_d2 (fun e0 => ?_) (fun e0 => ?_)
    · walk_at "rd"
      refine ⟨_, rfl, by omega, by omega, ?_⟩
      refine lc_mapS walk_range r1 (by omega) (fun _ _ => trivial) (fun i _ v => ∃ x : Int, v = .int x ∧ -most ≤ x ∧ x ≤ most) (fun _ _ _ _ _ h => h) (fun i x F' Ha Hb D Z hi ex fd hd nD hy hz => ?_) (fun D ys F5 H5 nh r5 fh hlen hR => ?_)
      · obtain ⟨rfl, rfl⟩ := hy
        have ex0 : SExt st F' Hb F' Hb := by
          obtain ⟨s, hs, ok⟩ := ex.st
          exact SExt.refl ex.ext.fh hs ok
        walk_at "rd"
        refine ⟨rfl, ?_⟩
        walk_at "rd"
        refine draw ex0 (small_b (by decide) (by decide)) fun e1 Hc c1 c2 x1 _ => ?_
        walk_at "rd"
        refine draw x1 (big_b (by omega) (by omega)) fun e2 Hd c3 c4 x2 _ => ?_
        refine s_mulI (.inl ⟨by omega, by omega⟩) ?_
        have k3 : e1 = 0 ∨ e1 = 1 ∨ e1 = 2 := by omega
        rcases k3 with rfl | rfl | rfl
        · exact hz _ _ _ x2 ⟨_, rfl, by omega, by omega⟩
        · exact hz _ _ _ x2 ⟨_, rfl, by omega, by omega⟩
        · exact hz _ _ _ x2 ⟨_, rfl, by omega, by omega⟩
      · walk_at "rd"
        exact fin D ys F5 H5 r5 fh hlen hR
    · walk_at "rd"
      refine ⟨_, rfl, by omega, by omega, ?_⟩
      refine lc_mapS walk_range r1 (by omega) (fun _ _ => trivial) (fun i _ v => ∃ x : Int, v = .int x ∧ -most ≤ x ∧ x ≤ most) (fun _ _ _ _ _ h => h) (fun i x F' Ha Hb D Z hi ex fd hd nD hy hz => ?_) (fun D ys F5 H5 nh r5 fh hlen hR => ?_)
      · obtain ⟨rfl, rfl⟩ := hy
        have ex0 : SExt st F' Hb F' Hb := by
          obtain ⟨s, hs, ok⟩ := ex.st
          exact SExt.refl ex.ext.fh hs ok
        walk_at "rd"
        refine ⟨rfl, ?_⟩
        walk_at "rd"
        refine s_mulI (.inl ⟨by decide, by decide⟩) ?_
        walk_at "rd"
        refine draw ex0 (big_b (by omega) (by omega)) fun e1 Hc c1 c2 x1 _ => ?_
        walk_at "rd"
        exact hz _ _ _ x1 ⟨_, rfl, by omega, by omega⟩
      · walk_at "rd"
        exact fin D ys F5 H5 r5 fh hlen hR
def spLGrains (K : PySem.W.Frag) : Sp := fun vs H Q _ => ∃ m B s hs p, ∃ u v : Nat, vs = [.ref m, .ref s, .ref p] ∧ BOk B ∧ ModelAt K H m B ∧ SqT K H s (hs.map V.int) ∧ hs.length = B.heavy.length ∧ SqT K H p [.int u, .int v] ∧ u < B.heavy.length ∧ v < B.heavy.length ∧ Q (.int (grain B.heavy hs (u, v))) H
/-- the law's own bench, a stand, a grinding's number -/
structure LA (K : PySem.W.Frag) (H : Hp) (m s : Addr) (B : BD) (hs : List Int) (r : List (Nat × Nat)) (k : Nat) : Prop where
  ok : BOk B
  model : ModelAt K H m B
  stand : SqT K H s (hs.map V.int)
  len : hs.length = B.heavy.length
  row : B.meets[k]? = some r
theorem LA.mono {H H' : Hp} {b s : Addr} {B : BD} {hs : List Int} {r : List (Nat × Nat)} {k : Nat} (e : Same H H') (h : LA K H b s B hs r k) : LA K H' b s B hs r k := ⟨h.ok, h.model.mono e, sqT_mono e h.stand, h.len, h.row⟩
theorem LA.mem {H : Hp} {b s : Addr} {B : BD} {hs : List Int} {r : List (Nat × Nat)} {k : Nat} (h : LA K H b s B hs r k) : r ∈ B.meets := List.mem_of_getElem? h.row
def spLGround (K : PySem.W.Frag) : Sp := fun vs H Q _ => ∃ m B s hs r k, vs = [.ref m, .ref s, .int (k : Nat)] ∧ LA K H m s B hs r k ∧
  ∀ H' p p1 p2, Same H H' → H p = none → H p1 = none → H p2 = none → H' p = some (.tup [.ref p1, .ref p2]) → H' p1 = some (.tup ((after B.heavy hs r).map V.int)) → H' p2 = some (.tup ((dust B.heavy hs r).map V.int)) → Q (.ref p) H'
end
end G

namespace G
open PySem PySem.Spec PyProof.Rows L2
/-! ## data: what a program's values are worth, without addresses -/
inductive D where
  | non | bl (b : Bool) | int (i : Int) | str (s : Str)
  | lst (l : List D) | tup (l : List D)
  | stn (ns : List Int)
  | ixt (ns : List Int)
  | bench (B : BD)
  | dic (ks : List Key) (l : List D)
  | dit (ks : List (List Key)) (l : List D)
  | st
  | exc (a : Addr) (dd : Option Addr) (ns : List Str) (l : List D)
  | lsx (a : Addr) (ns : List Int)

/-! ### heaps beside the state of the draws -/
def Dl (st : Option Addr) (H : Hp) : Hp := match st with
  | none => H
  | some a => del H a
def StG (st : Option Addr) (H : Hp) : Prop := ∀ a, st = some a → ∃ s, H a = some (.lst s) ∧ StOk s
theorem Dl_sub {st : Option Addr} {H : Hp} : Same (Dl st H) H := by
  cases st with
  | none => exact Same.refl H
  | some a => exact del_sub
theorem Dl_none {st : Option Addr} {H : Hp} {p : Addr} (h : H p = none) : Dl st H p = none := Dl_sub.free h
theorem Dl_upd {st : Option Addr} {H : Hp} {p : Addr} {o : HO} (h : ∀ a, st = some a → p ≠ a) : Dl st (upd H p o) = upd (Dl st H) p o := by
  cases st with
  | none => rfl
  | some a => exact del_upd_ne (h a rfl)
theorem Dl_same {st : Option Addr} {H H' : Hp} (e : Same H H') : Same (Dl st H) (Dl st H') := by
  cases st with
  | none => exact e
  | some a => exact del_same' e
theorem Dl_ne {st : Option Addr} {H : Hp} {p : Addr} {o : HO} (h : Dl st H p = some o) : ∀ a, st = some a → p ≠ a := fun a e z => by
  subst e z
  rw [show Dl (some p) H p = none from del_same] at h
  cases h
theorem StG.ne {st : Option Addr} {H : Hp} {p : Addr} (g : StG st H) (h : H p = none) : ∀ a, st = some a → p ≠ a := fun a e z => by
  obtain ⟨s, hs, _⟩ := g a e
  rw [z, hs] at h
  cases h
theorem StG.upd {st : Option Addr} {H : Hp} {p : Addr} {o : HO} (g : StG st H) (h : ∀ a, st = some a → p ≠ a) : StG st (upd H p o) := fun a e => by
  obtain ⟨s, hs, ok⟩ := g a e
  exact ⟨s, by rw [upd_ne (Ne.symm (h a e))]; exact hs, ok⟩
def isTupO : HO → Bool
  | .tup _ => true
  | _ => false
/-- as Ext; but tuples, which never change, may be frozen at any time -/
structure EX (F H F' H' : Hp) : Prop where
  hh : Same H H'
  ff : Same F F'
  fh : Same F' H'
  fr : ∀ b o, H b = some o → isTupO o = false → F b = none → F' b = none
theorem EX.of {F H F' H' : Hp} (e : Ext F H F' H') : EX F H F' H' := ⟨e.hh, e.ff, e.fh, fun b o h _ => e.fr b (by rw [h]; simp)⟩
theorem EX.refl {F H : Hp} (e : Same F H) : EX F H F H := .of (Ext.refl e)
theorem EX.trans {F H F1 H1 F2 H2 : Hp} (a : EX F H F1 H1) (b : EX F1 H1 F2 H2) : EX F H F2 H2 :=
  ⟨a.hh.trans b.hh, a.ff.trans b.ff, b.fh, fun c o h1 ht h2 => b.fr c o (a.hh c o h1) ht (a.fr c o h1 ht h2)⟩
theorem EX.new {F H F1 H1 : Hp} {p : Addr} {o : HO} (a : EX F H F1 H1) (h : H1 p = none) : EX F H (upd F1 p o) (upd H1 p o) :=
  ⟨a.hh.trans (same_upd h), a.ff.trans (same_upd (sub_none a.fh h)), same_upd2 a.fh, fun b q h1 ht h2 => by
    rw [upd_ne]
    · exact a.fr b q h1 ht h2
    · intro z
      subst z
      rw [a.hh.free h] at h1
      cases h1⟩
theorem EX.mut {F H F1 H1 : Hp} {p : Addr} {o : HO} (a : EX F H F1 H1) (h : H1 p = none) : EX F H F1 (upd H1 p o) :=
  ⟨a.hh.trans (same_upd h), a.ff, same_updR a.fh (sub_none a.fh h), a.fr⟩
theorem EX.chg {F H F1 H1 : Hp} {p : Addr} {o : HO} (a : EX F H F1 H1) (h : H p = none) (hf : F1 p = none) : EX F H F1 (upd H1 p o) :=
  ⟨same_updR a.hh h, a.ff, same_updR a.fh hf, a.fr⟩
theorem EX.frz {F H F1 H1 : Hp} {p : Addr} {o : HO} (a : EX F H F1 H1) (h : H p = none) (hf : F1 p = none) (ho : H1 p = some o) : EX F H (upd F1 p o) H1 :=
  ⟨a.hh, a.ff.trans (same_upd hf), fun b x q => by
    by_cases z : b = p
    · rw [z, upd_same] at q; rw [z]; cases q; exact ho
    · rw [upd_ne z] at q; exact a.fh b x q, fun b q h1 ht h2 => by
    rw [upd_ne]
    · exact a.fr b q h1 ht h2
    · intro z
      subst z
      rw [h] at h1
      cases h1⟩
/-- a tuple is frozen -/
theorem EX.tup {F H F1 H1 : Hp} {p : Addr} {xs : List V} (a : EX F H F1 H1) (ho : H1 p = some (.tup xs)) : EX F H (upd F1 p (.tup xs)) H1 :=
  ⟨a.hh, a.ff.trans (fun b o q => by
    by_cases z : b = p
    · subst z
      have := a.fh b o q
      rw [ho] at this
      rw [upd_same]
      exact this
    · rw [upd_ne z]; exact q), fun b x q => by
    by_cases z : b = p
    · rw [z, upd_same] at q; rw [z]; cases q; exact ho
    · rw [upd_ne z] at q; exact a.fh b x q, fun b q h1 ht h2 => by
    by_cases z : b = p
    · subst z
      have := a.hh b q h1
      rw [ho] at this
      cases this
      cases ht
    · rw [upd_ne z]
      exact a.fr b q h1 ht h2⟩
structure Gd (st : Option Addr) (F H : Hp) : Prop where
  fh : Same F (Dl st H)
  ok : StG st H
structure XE (st : Option Addr) (F H F' H' : Hp) : Prop where
  ext : EX F (Dl st H) F' (Dl st H')
  ok : StG st H'
section
variable {st : Option Addr} {F H F1 H1 F2 H2 : Hp} {p : Addr} {o : HO}
theorem Gd.sub (g : Gd st F H) : Same F H := g.fh.trans Dl_sub
theorem XE.gd (a : XE st F H F1 H1) : Gd st F1 H1 := ⟨a.ext.fh, a.ok⟩
theorem XE.refl (g : Gd st F H) : XE st F H F H := ⟨EX.refl g.fh, g.ok⟩
theorem XE.trans (a : XE st F H F1 H1) (b : XE st F1 H1 F2 H2) : XE st F H F2 H2 := ⟨a.ext.trans b.ext, b.ok⟩
theorem XE.ff (a : XE st F H F1 H1) : Same F F1 := a.ext.ff
theorem XE.new (a : XE st F H F1 H1) (h : H1 p = none) : XE st F H (upd F1 p o) (upd H1 p o) := by
  have ne := a.ok.ne h
  refine ⟨?_, a.ok.upd ne⟩
  rw [Dl_upd ne]
  exact a.ext.new (Dl_none h)
theorem XE.mut (a : XE st F H F1 H1) (h : H1 p = none) : XE st F H F1 (upd H1 p o) := by
  have ne := a.ok.ne h
  refine ⟨?_, a.ok.upd ne⟩
  rw [Dl_upd ne]
  exact a.ext.mut (Dl_none h)
theorem XE.chg {o' : HO} (a : XE st F H F1 H1) (hp : Dl st H1 p = some o') (h : Dl st H p = none) (hf : F1 p = none) : XE st F H F1 (upd H1 p o) := by
  have ne := Dl_ne hp
  refine ⟨?_, a.ok.upd ne⟩
  rw [Dl_upd ne]
  exact a.ext.chg h hf
theorem XE.frz (a : XE st F H F1 H1) (h : Dl st H p = none) (hf : F1 p = none) (ho : Dl st H1 p = some o) : XE st F H (upd F1 p o) H1 := ⟨a.ext.frz h hf ho, a.ok⟩
/-- what changes nothing that stood -/
theorem XE.pure (a : XE st F H F1 H1) (b : Ext F1 H1 F2 H2) : XE st F H F2 H2 := by
  cases st with
  | none => exact ⟨a.ext.trans (.of b), fun _ e => nomatch e⟩
  | some c =>
    obtain ⟨s, hs, ok⟩ := a.ok c rfl
    have S : SExt c F1 H1 F1 H1 := SExt.refl a.ext.fh hs ok
    have T := S.pure b
    exact ⟨a.ext.trans (.of T.ext), fun d e => by cases e; exact T.st⟩
theorem XE.same (g : Gd st F H) (e : Same H H1) : XE st F H F H1 :=
  (XE.refl g).pure ⟨e, Same.refl F, g.sub.trans e, fun _ _ h => h⟩
/-- a new thing of a def that changes nothing -/
theorem XE.got (a : XE st F H F1 H1) (g : StG st H) (h : H p = none) (ho : H1 p = some o) (hf : F1 p = none) : XE st F H (upd F1 p o) H1 := by
  have ne := g.ne h
  refine a.frz (Dl_none h) hf ?_
  cases st with
  | none => exact ho
  | some c =>
    show del H1 c p = _
    rw [del_ne (ne c rfl)]
    exact ho
theorem XE.tup {xs : List V} (a : XE st F H F1 H1) (ho : Dl st H1 p = some (.tup xs)) : XE st F H (upd F1 p (.tup xs)) H1 := ⟨a.ext.tup ho, a.ok⟩
theorem XE.f0 (a : XE st F H F1 H1) (g : Gd st F H) (h : H p = none) (e : F1 = F) : F1 p = none := by
  subst e
  exact sub_none g.sub h
end

/-! ### what a value is worth -/
mutual
inductive R (K : PySem.W.Frag) (C : Addr) (st : Option Addr) (F : Hp) : V → D → Prop
  | non : R K C st F .non .non
  | bl (b : Bool) : R K C st F (.bl b) (.bl b)
  | int (i : Int) : R K C st F (.int i) (.int i)
  | str (s : Str) : R K C st F (.str s) (.str s)
  | lst {a : Addr} {vs : List V} {ds : List D} : SqL K F a vs → RA K C st F vs ds → R K C st F (.ref a) (.lst ds)
  | tup {a : Addr} {vs : List V} {ds : List D} : SqT K F a vs → RA K C st F vs ds → R K C st F (.ref a) (.tup ds)
  | stn {a : Addr} {ns : List Int} : F a = some (.tup (ns.map V.int)) → R K C st F (.ref a) (.stn ns)
  | ixt {a : Addr} {ob : Obj} {ns : List Int} : F a = some (.frz ob (.tup (ns.map V.int))) → ob.dict = none → R K C st F (.ref a) (.ixt ns)
  | bench {b : Addr} {B : BD} : BenchAt K C F b B → R K C st F (.ref b) (.bench B)
  | dic {a : Addr} {ks : List Key} {vs : List V} {ds : List D} : F a = some (.dK (ks.zip vs)) → ks.length = vs.length → RA K C st F vs ds → R K C st F (.ref a) (.dic ks ds)
  | dit {a : Addr} {ks : List (List Key)} {vs : List V} {ds : List D} : F a = some (.dT (ks.zip vs)) → ks.length = vs.length → RA K C st F vs ds → R K C st F (.ref a) (.dit ks ds)
  | st {a : Addr} : st = some a → R K C st F (.ref a) .st
  | exc0 {a : Addr} : R K C st F (.ref a) (.exc a none [] [])
  | exc {a dd : Addr} {ns : List Str} {vs : List V} {ds : List D} : F dd = some (.xd (ns.zip vs)) → ns.length = vs.length → RA K C st F vs ds → R K C st F (.ref a) (.exc a (some dd) ns ds)
  | lsx {a : Addr} {ns : List Int} : F a = some (.lst (ns.map V.int)) → R K C st F (.ref a) (.lsx a ns)
inductive RA (K : PySem.W.Frag) (C : Addr) (st : Option Addr) (F : Hp) : List V → List D → Prop
  | nil : RA K C st F [] []
  | cons {v : V} {vs : List V} {d : D} {ds : List D} : R K C st F v d → RA K C st F vs ds → RA K C st F (v :: vs) (d :: ds)
end
section
variable {K : PySem.W.Frag} {C : Addr} {st : Option Addr} {F F' H : Hp}
mutual
theorem R.mono (e : Same F F') : ∀ {v : V} {d : D}, R K C st F v d → R K C st F' v d
  | _, _, .non => .non
  | _, _, .bl b => .bl b
  | _, _, .int i => .int i
  | _, _, .str x => .str x
  | _, _, .lst h hs => .lst (sqL_mono e h) (RA.mono e hs)
  | _, _, .tup h hs => .tup (sqT_mono e h) (RA.mono e hs)
  | _, _, .stn h => .stn (e _ _ h)
  | _, _, .ixt h d => .ixt (e _ _ h) d
  | _, _, .bench h => .bench (h.mono e)
  | _, _, .dic h l hs => .dic (e _ _ h) l (RA.mono e hs)
  | _, _, .dit h l hs => .dit (e _ _ h) l (RA.mono e hs)
  | _, _, .st h => .st h
  | _, _, .exc0 => .exc0
  | _, _, .exc h l hs => .exc (e _ _ h) l (RA.mono e hs)
  | _, _, .lsx h => .lsx (e _ _ h)
theorem RA.mono (e : Same F F') : ∀ {vs : List V} {ds : List D}, RA K C st F vs ds → RA K C st F' vs ds
  | _, _, .nil => .nil
  | _, _, .cons h hs => .cons (R.mono e h) (RA.mono e hs)
end
theorem RA.len : ∀ {vs : List V} {ds : List D}, RA K C st F vs ds → vs.length = ds.length
  | _, _, .nil => rfl
  | _, _, .cons _ t => by rw [List.length_cons, List.length_cons, RA.len t]
theorem RA.get : ∀ {vs : List V} {ds : List D} {i : Nat} {d : D}, RA K C st F vs ds → ds[i]? = some d → ∃ v, vs[i]? = some v ∧ R K C st F v d
  | _, _, _, _, .nil, h => by simp at h
  | _, _, 0, _, .cons h _, e => by simp at e; subst e; exact ⟨_, rfl, h⟩
  | _, _, i + 1, _, .cons _ t, e => by
    obtain ⟨v, h1, h2⟩ := RA.get (i := i) t (by simpa using e)
    exact ⟨v, by simpa using h1, h2⟩
theorem RA.at : ∀ {vs : List V} {ds : List D} {i : Nat} {v : V}, RA K C st F vs ds → vs[i]? = some v → ∃ d, ds[i]? = some d ∧ R K C st F v d
  | _, _, _, _, .nil, h => by simp at h
  | _, _, 0, _, .cons h _, e => by simp at e; subst e; exact ⟨_, rfl, h⟩
  | _, _, i + 1, _, .cons _ t, e => by
    obtain ⟨v, h1, h2⟩ := RA.at (i := i) t (by simpa using e)
    exact ⟨v, by simpa using h1, h2⟩
theorem RA.of : ∀ {vs : List V} {ds : List D}, vs.length = ds.length → (∀ (i : Nat) v d, vs[i]? = some v → ds[i]? = some d → R K C st F v d) → RA K C st F vs ds
  | [], [], _, _ => .nil
  | [], _ :: _, h, _ => by simp at h
  | _ :: _, [], h, _ => by simp at h
  | v :: vs, d :: ds, h, f => .cons (f 0 v d rfl rfl) (RA.of (by simpa using h) fun i v d h1 h2 => f (i + 1) v d (by simpa using h1) (by simpa using h2))
theorem RA.app : ∀ {vs us : List V} {ds es : List D}, RA K C st F vs ds → RA K C st F us es → RA K C st F (vs ++ us) (ds ++ es)
  | _, _, _, _, .nil, h => h
  | _, _, _, _, .cons a b, h => .cons a (b.app h)
theorem RA.set {vs : List V} {ds : List D} {v : V} {d : D} (i : Nat) (h : RA K C st F vs ds) (r : R K C st F v d) : RA K C st F (vs.set i v) (ds.set i d) := by
  refine RA.of (by simp [h.len]) fun j x e h1 h2 => ?_
  rw [List.getElem?_set] at h1 h2
  by_cases z : i = j
  · subst z
    rw [if_pos rfl] at h1 h2
    by_cases w : i < vs.length
    · rw [if_pos w] at h1
      rw [if_pos (h.len ▸ w)] at h2
      cases h1
      cases h2
      exact r
    · rw [if_neg w] at h1
      cases h1
  · rw [if_neg z] at h1 h2
    obtain ⟨u, h3, h4⟩ := h.get h2
    rw [h1] at h3
    cases h3
    exact h4
theorem RA.drop : ∀ {vs : List V} {ds : List D} (n : Nat), RA K C st F vs ds → RA K C st F (vs.drop n) (ds.drop n)
  | _, _, 0, h => h
  | _, _, n + 1, .nil => .nil
  | _, _, n + 1, .cons _ b => b.drop n
theorem RA.take : ∀ {vs : List V} {ds : List D} (n : Nat), RA K C st F vs ds → RA K C st F (vs.take n) (ds.take n)
  | _, _, 0, _ => .nil
  | _, _, n + 1, .nil => .nil
  | _, _, n + 1, .cons a b => .cons a (b.take n)
theorem RA.ints : ∀ {vs : List V} {ns : List Int}, RA K C st F vs (ns.map D.int) → vs = ns.map V.int
  | [], [], _ => rfl
  | [], _ :: _, h => by cases h
  | _ :: _, [], h => by cases h
  | v :: vs, n :: ns, h => by
    cases h with
    | cons h1 h2 =>
      cases h1
      rw [RA.ints h2]
      rfl
theorem RA.ofInts : ∀ (ns : List Int), RA K C st F (ns.map V.int) (ns.map D.int)
  | [] => .nil
  | n :: ns => .cons (.int n) (RA.ofInts ns)
theorem RA.bools : ∀ {vs : List V} {ns : List Bool}, RA K C st F vs (ns.map D.bl) → vs = ns.map V.bl
  | [], [], _ => rfl
  | [], _ :: _, h => by cases h
  | _ :: _, [], h => by cases h
  | v :: vs, n :: ns, h => by
    cases h with
    | cons h1 h2 =>
      cases h1
      rw [RA.bools h2]
      rfl
end

/-! ### plain data and the model's own -/
mutual
def D.py : D → PyData
  | .non => .none
  | .bl b => .bool b
  | .int i => .int i
  | .str s => .str s
  | .lst l => .list (pys l)
  | .tup l => .tuple (pys l)
  | .stn ns => .tuple (ns.map PyData.int)
  | .ixt ns => .tuple (ns.map PyData.int)
  | .bench _ => .none
  | .dic _ _ => .none
  | .dit _ _ => .none
  | .st => .none
  | .exc _ _ _ _ => .none
  | .lsx _ _ => .none
def pys : List D → List PyData
  | [] => []
  | d :: l => d.py :: pys l
end
theorem pys_map : ∀ l : List D, pys l = l.map D.py
  | [] => by simp [pys]
  | d :: l => by rw [pys, pys_map l]; rfl
/-- plain, of a depth of at most n -/
inductive Pl : Nat → D → Prop
  | non {n : Nat} : Pl n .non
  | bl {n : Nat} {b : Bool} : Pl n (.bl b)
  | int {n : Nat} {i : Int} : Pl n (.int i)
  | str {n : Nat} {s : Str} : PySem.PyData.strOk s = true → Pl n (.str s)
  | lst {n : Nat} {l : List D} : (∀ d ∈ l, Pl n d) → Pl (n + 1) (.lst l)
  | tup {n : Nat} {l : List D} : (∀ d ∈ l, Pl n d) → Pl (n + 1) (.tup l)
  | stn {n : Nat} {ns : List Int} : Pl (n + 1) (.stn ns)
  | ixt {n : Nat} {ns : List Int} : Pl (n + 1) (.ixt ns)
theorem Pl.sh : ∀ {n : Nat} {d : D}, Pl n d → Sh n d.py := by
  intro n d h
  induction h with
  | non => exact ⟨rfl, Nat.zero_le _⟩
  | bl => exact ⟨rfl, Nat.zero_le _⟩
  | int => exact ⟨rfl, Nat.zero_le _⟩
  | str h => exact ⟨h, Nat.zero_le _⟩
  | lst h ih =>
    rw [D.py, pys_map]
    refine sh_list fun e he => ?_
    obtain ⟨x, hx, rfl⟩ := List.mem_map.mp he
    exact ih x hx
  | tup h ih =>
    rw [D.py, pys_map]
    refine sh_tuple fun e he => ?_
    obtain ⟨x, hx, rfl⟩ := List.mem_map.mp he
    exact ih x hx
  | stn =>
    rw [D.py]
    exact sh_mono (sh_tupleI _) (by omega)
  | ixt =>
    rw [D.py]
    exact sh_mono (sh_tupleI _) (by omega)
theorem Pl.mono : ∀ {n m : Nat} {d : D}, Pl n d → n ≤ m → Pl m d := by
  intro n m d h
  induction h generalizing m with
  | non => exact fun _ => .non
  | bl => exact fun _ => .bl
  | int => exact fun _ => .int
  | str h => exact fun _ => .str h
  | lst h ih =>
    intro q
    cases m with
    | zero => omega
    | succ m => exact .lst fun d hd => ih d hd (by omega)
  | tup h ih =>
    intro q
    cases m with
    | zero => omega
    | succ m => exact .tup fun d hd => ih d hd (by omega)
  | stn =>
    intro q
    cases m with
    | zero => omega
    | succ m => exact .stn
  | ixt =>
    intro q
    cases m with
    | zero => omega
    | succ m => exact .ixt
theorem pl_ints {n : Nat} (ns : List Int) : ∀ d ∈ ns.map D.int, Pl n d := fun d h => by
  obtain ⟨x, _, rfl⟩ := List.mem_map.mp h
  exact .int
theorem pl_map {α : Type} {n : Nat} {f : α → D} {l : List α} (h : ∀ x ∈ l, Pl n (f x)) : ∀ d ∈ l.map f, Pl n d := fun d hd => by
  obtain ⟨x, hx, rfl⟩ := List.mem_map.mp hd
  exact h x hx
theorem pl_nil {n : Nat} : ∀ d ∈ ([] : List D), Pl n d := fun _ h => nomatch h
theorem pl_cons {n : Nat} {d : D} {l : List D} (h : Pl n d) (t : ∀ e ∈ l, Pl n e) : ∀ e ∈ d :: l, Pl n e := fun e he => by
  rcases List.mem_cons.mp he with rfl | he
  · exact h
  · exact t e he
section
variable {K : PySem.W.Frag} {C : Addr} {st : Option Addr} {F : Hp}
theorem RA.dpAll {n : Nat} : ∀ {vs : List V} {ds : List D}, (∀ v d, d ∈ ds → R K C st F v d → Dp K F v d.py) → RA K C st F vs ds → DpAll K F vs (pys ds)
  | _, _, _, .nil => .nil
  | _, _, f, .cons h t => .cons (f _ _ List.mem_cons_self h) (RA.dpAll (n := n) (fun v d hd => f v d (List.mem_cons_of_mem _ hd)) t)
theorem Pl.dp : ∀ {n : Nat} {d : D}, Pl n d → ∀ {v : V}, R K C st F v d → Dp K F v d.py := by
  intro n d h
  induction h with
  | non => intro v r; cases r; exact .non
  | bl => intro v r; cases r; exact .bl _
  | int => intro v r; cases r; exact .int _
  | str h => intro v r; cases r; exact .str _
  | lst h ih =>
    intro v r
    cases r with
    | lst a b => exact .lst a (RA.dpAll (n := 0) (fun v d hd r => ih d hd r) b)
  | tup h ih =>
    intro v r
    cases r with
    | tup a b => exact .tup a (RA.dpAll (n := 0) (fun v d hd r => ih d hd r) b)
  | stn =>
    intro v r
    cases r with
    | stn a =>
      rw [D.py]
      exact dp_tupI (.inl (.inl a))
  | ixt =>
    intro v r
    cases r with
    | ixt a _ =>
      rw [D.py]
      exact dp_tupI (.inl (.inr ⟨_, a⟩))
end
def eqD (d e : D) : Bool := PyData.eqv d.py e.py
theorem eqD_self {n : Nat} {d : D} (h : Pl n d) : eqD d d = true := eqv_self h.sh
theorem eqD_int (i j : Int) : eqD (.int i) (.int j) = decide (i = j) := by
  show (i == j) = _
  by_cases h : i = j
  · simp [h]
  · simp [h]
theorem eqD_tup (l m : List D) : eqD (.tup l) (.tup m) = PyData.eqvAll (pys l) (pys m) := by
  unfold eqD
  rw [D.py, D.py]
  rfl
theorem eqD_lst (l m : List D) : eqD (.lst l) (.lst m) = PyData.eqvAll (pys l) (pys m) := by
  unfold eqD
  rw [D.py, D.py]
  rfl
theorem pys_ints (ns : List Int) : pys (ns.map D.int) = ns.map PyData.int := by
  rw [pys_map, List.map_map]
  rfl
theorem eqD_stn (ns ms : List Int) : eqD (.stn ns) (.stn ms) = decide (ns = ms) := by
  unfold eqD
  rw [D.py, D.py]
  exact eqvAll_ints ns ms
theorem eqD_ints (ns ms : List Int) : eqD (.tup (ns.map D.int)) (.tup (ms.map D.int)) = decide (ns = ms) := by
  rw [eqD_tup, pys_ints, pys_ints, eqvAll_ints]
theorem eqD_intsL (ns ms : List Int) : eqD (.lst (ns.map D.int)) (.lst (ms.map D.int)) = decide (ns = ms) := by
  rw [eqD_lst, pys_ints, pys_ints, eqvAll_ints]
end G

namespace G
open PySem PySem.Spec PyProof.Rows L2
/-! ## a def's frame, by data -/
structure Cm where
  K : PySem.W.Frag
  C : Addr
  st : Option Addr
  F0 : Hp
  H0 : Hp
/-- what a slot holds: data; a list, a dict of its own, that may change -/
inductive Sl where
  | d (x : D) | own (l : List D) | ownK (ks : List Key) (l : List D) | ownT (ks : List (List Key)) (l : List D)
  | lk (p : Addr) (o : HO) (vs : List V) (l : List D)
def Sl.mine : Sl → Bool
  | .d _ => false
  | _ => true
abbrev Rho := List (Option Sl)
abbrev RV (M : Cm) (F : Hp) : V → D → Prop := R M.K M.C M.st F
abbrev RL (M : Cm) (F : Hp) : List V → List D → Prop := RA M.K M.C M.st F
abbrev XM (M : Cm) (F H F' H' : Hp) : Prop := XE M.st F H F' H'
def SR (M : Cm) (F H : Hp) (v : V) : Sl → Prop
  | .d x => RV M F v x
  | .own l => ∃ p vs, v = .ref p ∧ Dl M.st H p = some (.lst vs) ∧ F p = none ∧ Dl M.st M.H0 p = none ∧ RL M F vs l
  | .ownK ks l => ∃ p vs, v = .ref p ∧ Dl M.st H p = some (.dK (ks.zip vs)) ∧ ks.length = vs.length ∧ F p = none ∧ Dl M.st M.H0 p = none ∧ RL M F vs l
  | .ownT ks l => ∃ p vs, v = .ref p ∧ Dl M.st H p = some (.dT (ks.zip vs)) ∧ ks.length = vs.length ∧ F p = none ∧ Dl M.st M.H0 p = none ∧ RL M F vs l
  | .lk p o vs l => v = .ref p ∧ Dl M.st H p = some o ∧ isTupO o = false ∧ F p = none ∧ Dl M.st M.H0 p = none ∧ RL M F vs l
structure Fr (M : Cm) (ρ : Rho) (σ : L2.St) (F H : Hp) : Prop where
  x : XM M M.F0 M.H0 F H
  len : σ.length = ρ.length
  each : ∀ (i : Nat) s, ρ[i]? = some (some s) → ∃ v, σ[i]? = some (some v) ∧ SR M F H v s
  dist : ∀ (i j : Nat) s t, i ≠ j → ρ[i]? = some (some s) → ρ[j]? = some (some t) → s.mine = true → t.mine = true → σ[i]? ≠ σ[j]?
section
variable {M : Cm} {ρ : Rho} {σ : L2.St} {F H F' H' : Hp} {v : V} {d : D} {i : Nat} {p : Addr} {vs : List V} {l : List D}
theorem Fr.gd (e : Fr M ρ σ F H) : Gd M.st F H := e.x.gd
theorem SR.step {s : Sl} (x : XM M F H F' H') (h : SR M F H v s) : SR M F' H' v s := by
  cases s with
  | d y => exact R.mono x.ff h
  | own l =>
    obtain ⟨p, vs, rfl, h1, h2, h3, h4⟩ := h
    exact ⟨p, vs, rfl, x.ext.hh _ _ h1, x.ext.fr p _ h1 rfl h2, h3, h4.mono x.ff⟩
  | ownK ks l =>
    obtain ⟨p, vs, rfl, h1, h5, h2, h3, h4⟩ := h
    exact ⟨p, vs, rfl, x.ext.hh _ _ h1, h5, x.ext.fr p _ h1 rfl h2, h3, h4.mono x.ff⟩
  | ownT ks l =>
    obtain ⟨p, vs, rfl, h1, h5, h2, h3, h4⟩ := h
    exact ⟨p, vs, rfl, x.ext.hh _ _ h1, h5, x.ext.fr p _ h1 rfl h2, h3, h4.mono x.ff⟩
  | lk p o vs l =>
    obtain ⟨rfl, h1, h5, h2, h3, h4⟩ := h
    exact ⟨rfl, x.ext.hh _ _ h1, h5, x.ext.fr p _ h1 h5 h2, h3, h4.mono x.ff⟩
theorem Fr.step (e : Fr M ρ σ F H) (x : XM M F H F' H') : Fr M ρ σ F' H' :=
  ⟨e.x.trans x, e.len, fun i s h => by
    obtain ⟨v, h1, h2⟩ := e.each i s h
    exact ⟨v, h1, h2.step x⟩, e.dist⟩
/-- a slot takes data -/
theorem Fr.put (e : Fr M ρ σ F H) (r : RV M F v d) : Fr M (ρ.set i (some (.d d))) (σ.set i (some v)) F H := by
  refine ⟨e.x, by simp [e.len], fun j s h => ?_, fun a b s t ne h1 h2 m1 m2 => ?_⟩
  · rw [List.getElem?_set] at h
    by_cases z : i = j
    · subst z
      rw [if_pos rfl] at h
      by_cases w : i < ρ.length
      · rw [if_pos w] at h
        cases h
        exact ⟨v, by rw [List.getElem?_set_self (by rw [e.len]; exact w)], r⟩
      · rw [if_neg w] at h
        cases h
    · rw [if_neg z] at h
      rw [List.getElem?_set_ne z]
      exact e.each j s h
  · have own : ∀ (j : Nat) s, (ρ.set i (some (Sl.d d)))[j]? = some (some s) → s.mine = true → ρ[j]? = some (some s) ∧ i ≠ j := fun j s h m => by
      rw [List.getElem?_set] at h
      by_cases z : i = j
      · subst z
        rw [if_pos rfl] at h
        by_cases w : i < ρ.length
        · rw [if_pos w] at h
          cases h
          cases m
        · rw [if_neg w] at h
          cases h
      · rw [if_neg z] at h
        exact ⟨h, z⟩
    obtain ⟨a1, a2⟩ := own a s h1 m1
    obtain ⟨b1, b2⟩ := own b t h2 m2
    rw [List.getElem?_set_ne a2, List.getElem?_set_ne b2]
    exact e.dist a b s t ne a1 b1 m1 m2
/-- a slot takes what no other slot holds -/
theorem Fr.putO {s0 : Sl} (e : Fr M ρ σ F H) (r : SR M F H v s0) (nw : ∀ (j : Nat) s, j ≠ i → ρ[j]? = some (some s) → s.mine = true → σ[j]? ≠ some (some v)) : Fr M (ρ.set i (some s0)) (σ.set i (some v)) F H := by
  refine ⟨e.x, by simp [e.len], fun j s h => ?_, fun a b s t ne h1 h2 m1 m2 => ?_⟩
  · rw [List.getElem?_set] at h
    by_cases z : i = j
    · subst z
      rw [if_pos rfl] at h
      by_cases w : i < ρ.length
      · rw [if_pos w] at h
        cases h
        exact ⟨v, by rw [List.getElem?_set_self (by rw [e.len]; exact w)], r⟩
      · rw [if_neg w] at h
        cases h
    · rw [if_neg z] at h
      rw [List.getElem?_set_ne z]
      exact e.each j s h
  · by_cases za : i = a
    · subst za
      have zb : i ≠ b := ne
      rw [List.getElem?_set_ne zb] at h2
      rw [List.getElem?_set_ne zb]
      have w : i < σ.length := by
        rw [e.len]
        rw [List.getElem?_set] at h1
        rw [if_pos rfl] at h1
        by_cases w : i < ρ.length
        · exact w
        · rw [if_neg w] at h1; cases h1
      rw [List.getElem?_set_self w]
      exact fun q => nw b t (Ne.symm zb) h2 m2 q.symm
    · rw [List.getElem?_set_ne za] at h1
      rw [List.getElem?_set_ne za]
      by_cases zb : i = b
      · subst zb
        have w : i < σ.length := by
          rw [e.len]
          rw [List.getElem?_set] at h2
          rw [if_pos rfl] at h2
          by_cases w : i < ρ.length
          · exact w
          · rw [if_neg w] at h2; cases h2
        rw [List.getElem?_set_self w]
        exact nw a s (fun q => za q.symm) h1 m1
      · rw [List.getElem?_set_ne zb] at h2
        rw [List.getElem?_set_ne zb]
        exact e.dist a b s t ne h1 h2 m1 m2
/-- where a thing of its own stands -/
theorem SR.mine_at {s : Sl} (h : SR M F H v s) (m : s.mine = true) : ∃ p o, v = .ref p ∧ Dl M.st H p = some o ∧ F p = none ∧ Dl M.st M.H0 p = none := by
  cases s with
  | d y => cases m
  | own l =>
    obtain ⟨p, vs, rfl, h1, h2, h3, h4⟩ := h
    exact ⟨p, _, rfl, h1, h2, h3⟩
  | ownK ks l =>
    obtain ⟨p, vs, rfl, h1, h5, h2, h3, h4⟩ := h
    exact ⟨p, _, rfl, h1, h2, h3⟩
  | ownT ks l =>
    obtain ⟨p, vs, rfl, h1, h5, h2, h3, h4⟩ := h
    exact ⟨p, _, rfl, h1, h2, h3⟩
  | lk p o vs l =>
    obtain ⟨rfl, h1, h5, h2, h3, h4⟩ := h
    exact ⟨p, _, rfl, h1, h2, h3⟩
/-- a thing of its own changes -/
theorem SR.other {s : Sl} {o : HO} (h : SR M F H v s) (fp : F p = none) (ne : s.mine = true → v ≠ .ref p) (hp : ∀ a, M.st = some a → p ≠ a) : SR M F (upd H p o) v s := by
  cases s with
  | d y => exact h
  | own l =>
    obtain ⟨q, vs, rfl, h1, h2, h3, h4⟩ := h
    refine ⟨q, vs, rfl, ?_, h2, h3, h4⟩
    rw [Dl_upd hp, upd_ne (fun z => ne rfl (by rw [z]))]
    exact h1
  | ownK ks l =>
    obtain ⟨q, vs, rfl, h1, h5, h2, h3, h4⟩ := h
    refine ⟨q, vs, rfl, ?_, h5, h2, h3, h4⟩
    rw [Dl_upd hp, upd_ne (fun z => ne rfl (by rw [z]))]
    exact h1
  | ownT ks l =>
    obtain ⟨q, vs, rfl, h1, h5, h2, h3, h4⟩ := h
    refine ⟨q, vs, rfl, ?_, h5, h2, h3, h4⟩
    rw [Dl_upd hp, upd_ne (fun z => ne rfl (by rw [z]))]
    exact h1
  | lk q o vs l =>
    obtain ⟨rfl, h1, h5, h2, h3, h4⟩ := h
    refine ⟨rfl, ?_, h5, h2, h3, h4⟩
    rw [Dl_upd hp, upd_ne (fun z => ne rfl (by rw [z]))]
    exact h1
theorem Fr.chg {s0 s1 : Sl} {o o' : HO} (e : Fr M ρ σ F H) (hi : ρ[i]? = some (some s0)) (m0 : s0.mine = true) (hv : σ[i]? = some (some (.ref p))) (hp : Dl M.st H p = some o') (fp : F p = none) (h0 : Dl M.st M.H0 p = none) (r : SR M F (upd H p o) (.ref p) s1) : Fr M (ρ.set i (some s1)) σ F (upd H p o) := by
  have w : i < ρ.length := (List.getElem?_eq_some_iff.mp hi).1
  have hne := Dl_ne hp
  refine ⟨e.x.chg hp h0 fp, by simp [e.len], fun j s h => ?_, fun a b s t ne h1 h2 m1 m2 => ?_⟩
  · by_cases z : i = j
    · subst z
      rw [List.getElem?_set_self w] at h
      cases h
      exact ⟨_, hv, r⟩
    · rw [List.getElem?_set_ne z] at h
      obtain ⟨v, q1, q2⟩ := e.each j s h
      refine ⟨v, q1, q2.other fp (fun m q => ?_) hne⟩
      subst q
      exact e.dist i j s0 s z hi h m0 m (by rw [hv, q1])
  · have get : ∀ (j : Nat) s, (ρ.set i (some s1))[j]? = some (some s) → s.mine = true → ∃ s', ρ[j]? = some (some s') ∧ s'.mine = true := fun j s h m => by
      by_cases z : i = j
      · subst z
        exact ⟨s0, hi, m0⟩
      · rw [List.getElem?_set_ne z] at h
        exact ⟨s, h, m⟩
    obtain ⟨s', a1, a2⟩ := get a s h1 m1
    obtain ⟨t', b1, b2⟩ := get b t h2 m2
    exact e.dist a b s' t' ne a1 b1 a2 b2
/-- a thing of its own becomes data -/
theorem Fr.frz {s0 : Sl} {o : HO} (e : Fr M ρ σ F H) (hi : ρ[i]? = some (some s0)) (m0 : s0.mine = true) (hv : σ[i]? = some (some (.ref p))) (hp : Dl M.st H p = some o) (fp : F p = none) (h0 : Dl M.st M.H0 p = none) (r : RV M (upd F p o) (.ref p) d) : Fr M (ρ.set i (some (.d d))) σ (upd F p o) H := by
  have w : i < ρ.length := (List.getElem?_eq_some_iff.mp hi).1
  refine ⟨e.x.frz h0 fp hp, by simp [e.len], fun j s h => ?_, fun a b s t ne h1 h2 m1 m2 => ?_⟩
  · by_cases z : i = j
    · subst z
      rw [List.getElem?_set_self w] at h
      cases h
      exact ⟨_, hv, r⟩
    · rw [List.getElem?_set_ne z] at h
      obtain ⟨v, q1, q2⟩ := e.each j s h
      refine ⟨v, q1, ?_⟩
      have key : ∀ q, v = .ref q → s.mine = true → q ≠ p := fun q e1 m e2 => by
        subst e1 e2
        exact e.dist i j s0 s z hi h m0 m (by rw [hv, q1])
      cases s with
      | d y => exact R.mono (same_upd fp) q2
      | own l =>
        obtain ⟨q, vs, rfl, h1, h2, h3, h4⟩ := q2
        exact ⟨q, vs, rfl, h1, by rw [upd_ne (key q rfl rfl)]; exact h2, h3, h4.mono (same_upd fp)⟩
      | ownK ks l =>
        obtain ⟨q, vs, rfl, h1, h5, h2, h3, h4⟩ := q2
        exact ⟨q, vs, rfl, h1, h5, by rw [upd_ne (key q rfl rfl)]; exact h2, h3, h4.mono (same_upd fp)⟩
      | ownT ks l =>
        obtain ⟨q, vs, rfl, h1, h5, h2, h3, h4⟩ := q2
        exact ⟨q, vs, rfl, h1, h5, by rw [upd_ne (key q rfl rfl)]; exact h2, h3, h4.mono (same_upd fp)⟩
      | lk q o vs l =>
        obtain ⟨rfl, h1, h5, h2, h3, h4⟩ := q2
        exact ⟨rfl, h1, h5, by rw [upd_ne (key q rfl rfl)]; exact h2, h3, h4.mono (same_upd fp)⟩
  · have own : ∀ (j : Nat) s, (ρ.set i (some (Sl.d d)))[j]? = some (some s) → s.mine = true → ρ[j]? = some (some s) := fun j s h m => by
      by_cases z : i = j
      · subst z
        rw [List.getElem?_set_self w] at h
        cases h
        cases m
      · rw [List.getElem?_set_ne z] at h
        exact h
    exact e.dist a b s t ne (own a s h1 m1) (own b t h2 m2) m1 m2
def wipeR (ρ : Rho) : List Nat → Rho
  | [] => ρ
  | v :: vs => (wipeR ρ vs).set v none
theorem Fr.drop (e : Fr M ρ σ F H) (i : Nat) : Fr M (ρ.set i none) (σ.set i none) F H := by
  have get : ∀ (j : Nat) s, (ρ.set i none)[j]? = some (some s) → ρ[j]? = some (some s) ∧ i ≠ j := fun j s h => by
    rw [List.getElem?_set] at h
    by_cases z : i = j
    · rw [if_pos z] at h
      by_cases w : i < ρ.length
      · rw [if_pos w] at h; cases h
      · rw [if_neg w] at h; cases h
    · rw [if_neg z] at h
      exact ⟨h, z⟩
  refine ⟨e.x, by simp [e.len], fun j s h => ?_, fun a b s t ne h1 h2 m1 m2 => ?_⟩
  · obtain ⟨h, z⟩ := get j s h
    rw [List.getElem?_set_ne z]
    exact e.each j s h
  · obtain ⟨h1, z1⟩ := get a s h1
    obtain ⟨h2, z2⟩ := get b t h2
    rw [List.getElem?_set_ne z1, List.getElem?_set_ne z2]
    exact e.dist a b s t ne h1 h2 m1 m2
theorem Fr.wipe (e : Fr M ρ σ F H) : ∀ vs : List Nat, Fr M (wipeR ρ vs) (L2.wipe σ vs) F H
  | [] => e
  | v :: vs => (e.wipe vs).drop v
end
/-! ### borrowed: what is read at once -/
def RB (M : Cm) (F H : Hp) (v : V) (d : D) : Prop := RV M F v d ∨ (∃ p vs l, v = .ref p ∧ d = .lst l ∧ Dl M.st H p = some (.lst vs) ∧ RL M F vs l) ∨
  (∃ p ks vs l, v = .ref p ∧ d = .dic ks l ∧ Dl M.st H p = some (.dK (ks.zip vs)) ∧ ks.length = vs.length ∧ RL M F vs l) ∨ (∃ p ks vs l, v = .ref p ∧ d = .dit ks l ∧ Dl M.st H p = some (.dT (ks.zip vs)) ∧ ks.length = vs.length ∧ RL M F vs l)
section
variable {M : Cm} {F H F' H' : Hp} {v : V} {d : D} {l : List D}
theorem RB.step (x : XM M F H F' H') (h : RB M F H v d) : RB M F' H' v d := by
  rcases h with h | ⟨p, vs, l, rfl, rfl, h1, h2⟩ | ⟨p, ks, vs, l, rfl, rfl, h1, h3, h2⟩ | ⟨p, ks, vs, l, rfl, rfl, h1, h3, h2⟩
  · exact .inl (R.mono x.ff h)
  · exact .inr (.inl ⟨p, vs, l, rfl, rfl, x.ext.hh _ _ h1, h2.mono x.ff⟩)
  · exact .inr (.inr (.inl ⟨p, ks, vs, l, rfl, rfl, x.ext.hh _ _ h1, h3, h2.mono x.ff⟩))
  · exact .inr (.inr (.inr ⟨p, ks, vs, l, rfl, rfl, x.ext.hh _ _ h1, h3, h2.mono x.ff⟩))
theorem RB.lst (g : Gd M.st F H) (h : RB M F H v (.lst l)) : ∃ p vs, v = .ref p ∧ SqL M.K H p vs ∧ RL M F vs l := by
  rcases h with h | ⟨p, vs, l', rfl, e, h1, h2⟩ | ⟨p, ks, vs, l', rfl, e, h1, h3, h2⟩ | ⟨p, ks, vs, l', rfl, e, h1, h3, h2⟩
  · cases h with
    | lst a b => exact ⟨_, _, rfl, sqL_mono g.sub a, b⟩
  · cases e
    exact ⟨p, vs, rfl, .inl (.inl (Dl_sub _ _ h1)), h2⟩
  · cases e
  · cases e
theorem RB.tup (h : RB M F H v (.tup l)) : ∃ p vs, v = .ref p ∧ SqT M.K F p vs ∧ RL M F vs l := by
  rcases h with h | ⟨p, vs, l', rfl, e, h1, h2⟩ | ⟨p, ks, vs, l', rfl, e, h1, h3, h2⟩ | ⟨p, ks, vs, l', rfl, e, h1, h3, h2⟩
  · cases h with
    | tup a b => exact ⟨_, _, rfl, a, b⟩
  · cases e
  · cases e
  · cases e
theorem RB.stn {ns : List Int} (h : RB M F H v (.stn ns)) : ∃ p, v = .ref p ∧ F p = some (.tup (ns.map V.int)) := by
  rcases h with h | ⟨p, vs, l', rfl, e, h1, h2⟩ | ⟨p, ks, vs, l', rfl, e, h1, h3, h2⟩ | ⟨p, ks, vs, l', rfl, e, h1, h3, h2⟩
  · cases h with
    | stn a => exact ⟨_, rfl, a⟩
  · cases e
  · cases e
  · cases e
theorem RB.ixt {ns : List Int} (h : RB M F H v (.ixt ns)) : ∃ p ob, v = .ref p ∧ F p = some (.frz ob (.tup (ns.map V.int))) ∧ ob.dict = none := by
  rcases h with h | ⟨p, vs, l', rfl, e, h1, h2⟩ | ⟨p, ks, vs, l', rfl, e, h1, h3, h2⟩ | ⟨p, ks, vs, l', rfl, e, h1, h3, h2⟩
  · cases h with
    | ixt a b => exact ⟨_, _, rfl, a, b⟩
  · cases e
  · cases e
  · cases e
theorem RB.int {i : Int} (h : RB M F H v (.int i)) : v = .int i := by
  rcases h with h | ⟨p, vs, l', rfl, e, h1, h2⟩ | ⟨p, ks, vs, l', rfl, e, h1, h3, h2⟩ | ⟨p, ks, vs, l', rfl, e, h1, h3, h2⟩
  · cases h; rfl
  · cases e
  · cases e
  · cases e
theorem RB.bl {i : Bool} (h : RB M F H v (.bl i)) : v = .bl i := by
  rcases h with h | ⟨p, vs, l', rfl, e, h1, h2⟩ | ⟨p, ks, vs, l', rfl, e, h1, h3, h2⟩ | ⟨p, ks, vs, l', rfl, e, h1, h3, h2⟩
  · cases h; rfl
  · cases e
  · cases e
  · cases e
theorem RB.str {i : Str} (h : RB M F H v (.str i)) : v = .str i := by
  rcases h with h | ⟨p, vs, l', rfl, e, h1, h2⟩ | ⟨p, ks, vs, l', rfl, e, h1, h3, h2⟩ | ⟨p, ks, vs, l', rfl, e, h1, h3, h2⟩
  · cases h; rfl
  · cases e
  · cases e
  · cases e
theorem RB.non (h : RB M F H v .non) : v = .non := by
  rcases h with h | ⟨p, vs, l', rfl, e, h1, h2⟩ | ⟨p, ks, vs, l', rfl, e, h1, h3, h2⟩ | ⟨p, ks, vs, l', rfl, e, h1, h3, h2⟩
  · cases h; rfl
  · cases e
  · cases e
  · cases e
theorem RB.bench {B : BD} (h : RB M F H v (.bench B)) : ∃ b, v = .ref b ∧ BenchAt M.K M.C F b B := by
  rcases h with h | ⟨p, vs, l', rfl, e, h1, h2⟩ | ⟨p, ks, vs, l', rfl, e, h1, h3, h2⟩ | ⟨p, ks, vs, l', rfl, e, h1, h3, h2⟩
  · cases h with
    | bench a => exact ⟨_, rfl, a⟩
  · cases e
  · cases e
  · cases e
theorem RB.dic {ks : List Key} (g : Gd M.st F H) (h : RB M F H v (.dic ks l)) : ∃ p vs, v = .ref p ∧ H p = some (.dK (ks.zip vs)) ∧ ks.length = vs.length ∧ RL M F vs l := by
  rcases h with h | ⟨p, vs, l', rfl, e, h1, h2⟩ | ⟨p, ks, vs, l', rfl, e, h1, h3, h2⟩ | ⟨p, ks, vs, l', rfl, e, h1, h3, h2⟩
  · cases h with
    | dic a b c => exact ⟨_, _, rfl, g.sub _ _ a, b, c⟩
  · cases e
  · cases e
    exact ⟨p, vs, rfl, Dl_sub _ _ h1, h3, h2⟩
  · cases e
theorem RB.dit {ks : List (List Key)} (g : Gd M.st F H) (h : RB M F H v (.dit ks l)) : ∃ p vs, v = .ref p ∧ H p = some (.dT (ks.zip vs)) ∧ ks.length = vs.length ∧ RL M F vs l := by
  rcases h with h | ⟨p, vs, l', rfl, e, h1, h2⟩ | ⟨p, ks, vs, l', rfl, e, h1, h3, h2⟩ | ⟨p, ks, vs, l', rfl, e, h1, h3, h2⟩
  · cases h with
    | dit a b c => exact ⟨_, _, rfl, g.sub _ _ a, b, c⟩
  · cases e
  · cases e
  · cases e
    exact ⟨p, vs, rfl, Dl_sub _ _ h1, h3, h2⟩
/-- plain data, borrowed, as the model's own -/
theorem RB.dp {n : Nat} (g : Gd M.st F H) (hp : Pl n d) (h : RB M F H v d) : Dp M.K H v d.py := by
  rcases h with h | ⟨p, vs, l', rfl, e, h1, h2⟩ | ⟨p, ks, vs, l', rfl, e, h1, h3, h2⟩ | ⟨p, ks, vs, l', rfl, e, h1, h3, h2⟩
  · exact dp_mono g.sub (hp.dp h)
  · subst e
    cases hp with
    | lst a => exact .lst (.inl (.inl (Dl_sub _ _ h1))) (dpAll_mono g.sub (RA.dpAll (n := 0) (fun v d hd r => (a d hd).dp r) h2))
  · subst e
    cases hp
  · subst e
    cases hp
end

/-! ## the judgements -/
def WE (M : Cm) (t : TE) (ρ : Rho) (k : D → Prop) : Prop := ∀ σ F H Q, Fr M ρ σ F H → (∀ v d F' H', XM M F H F' H' → RV M F' v d → k d → Q v H') → t σ H Q
def WB (M : Cm) (t : TE) (ρ : Rho) (k : D → Prop) : Prop := ∀ σ F H Q, Fr M ρ σ F H → (∀ v d F' H', XM M F H F' H' → RB M F' H' v d → k d → Q v H') → t σ H Q
/-- a new list of its own -/
def WO (M : Cm) (t : TE) (ρ : Rho) (k : List D → Prop) : Prop := ∀ σ F H Q, Fr M ρ σ F H → (∀ p vs l F' H', XM M F H F' H' → Dl M.st H' p = some (.lst vs) → F' p = none → Dl M.st H p = none → RL M F' vs l → k l → Q (.ref p) H') → t σ H Q
def WT (M : Cm) (t : TT) (ρ : Rho) (k : Bool → Prop) : Prop := ∀ σ F H Q, Fr M ρ σ F H → (∀ b F' H', XM M F H F' H' → k b → Q b H') → t σ H Q
def WA (M : Cm) (t : TA) (ρ : Rho) (k : List D → Prop) : Prop := ∀ σ F H Q, Fr M ρ σ F H → (∀ vs ds F' H', XM M F H F' H' → RL M F' vs ds → k ds → Q vs H') → t σ H Q
inductive RBs (M : Cm) (F H : Hp) : List V → List D → Prop
  | nil : RBs M F H [] []
  | cons {v : V} {d : D} {vs : List V} {ds : List D} : RB M F H v d → RBs M F H vs ds → RBs M F H (v :: vs) (d :: ds)
theorem RBs.step {M : Cm} {F H F' H' : Hp} (x : XM M F H F' H') : ∀ {vs : List V} {ds : List D}, RBs M F H vs ds → RBs M F' H' vs ds
  | _, _, .nil => .nil
  | _, _, .cons h t => .cons (h.step x) (t.step x)
def WAB (M : Cm) (t : TA) (ρ : Rho) (k : List D → Prop) : Prop := ∀ σ F H Q, Fr M ρ σ F H → (∀ vs ds F' H', XM M F H F' H' → RBs M F' H' vs ds → k ds → Q vs H') → t σ H Q
def WS (M : Cm) (t : TS) (ρ : Rho) (nx : Rho → Prop) (rt : Sl → Rho → Prop) (bk ct : Rho → Prop) : Prop := ∀ σ F H (E : Ends), Fr M ρ σ F H →
  (∀ ρ' σ' F' H', Same F F' → Fr M ρ' σ' F' H' → nx ρ' → E.nx σ' H') → (∀ v s ρ' σ' F' H', Fr M ρ' σ' F' H' → SR M F' H' v s → rt s ρ' → E.rt v H') →
  (∀ ρ' σ' F' H', Same F F' → Fr M ρ' σ' F' H' → bk ρ' → E.bk σ' H') → (∀ ρ' σ' F' H', Same F F' → Fr M ρ' σ' F' H' → ct ρ' → E.ct σ' H') → t E σ H
/-- data are told -/
abbrev rtD (k : D → Prop) : Sl → Rho → Prop := fun s _ => match s with
  | .d d => k d
  | _ => False
/-- a list of its own is told -/
abbrev rtO (k : List D → Prop) : Sl → Rho → Prop := fun s _ => match s with
  | .own l => k l
  | _ => False
def WG (M : Cm) (S : Nat → Prop) (g : TG) (d : D) (ρ : Rho) (k : Rho → Prop) : Prop := ∀ v σ F H Q, Fr M ρ σ F H → RV M F v d →
  (∀ ρ' σ' F' H', XM M F H F' H' → Fr M ρ' σ' F' H' → σ'.length = σ.length → (∀ i : Nat, ¬ S i → σ'[i]? = σ[i]?) → (∀ (i : Nat) s, ρ'[i]? = some (some s) → s.mine = true → ρ[i]? = some (some s) ∧ σ'[i]? = σ[i]?) → k ρ' → Q σ' H') → g v σ H Q
def WGs (M : Cm) (S : Nat → Prop) (g : TGs) (ds : List D) (ρ : Rho) (k : Rho → Prop) : Prop := ∀ vs σ F H Q, Fr M ρ σ F H → RL M F vs ds →
  (∀ ρ' σ' F' H', XM M F H F' H' → Fr M ρ' σ' F' H' → σ'.length = σ.length → (∀ i : Nat, ¬ S i → σ'[i]? = σ[i]?) → (∀ (i : Nat) s, ρ'[i]? = some (some s) → s.mine = true → ρ[i]? = some (some s) ∧ σ'[i]? = σ[i]?) → k ρ' → Q σ' H') → g vs σ H Q
/-- an iterator over data that stays -/
def Dw (M : Cm) (J : It) (l : List D) (F : Hp) : Prop := ∃ G Y, Walk J l.length G Y ∧ (∀ F' H', Same F F' → Gd M.st F' H' → G H') ∧ ∀ (i : Nat) x Fa Ha Hb d, Same F Fa → Gd M.st Fa Ha → Y i Ha x Hb → l[i]? = some d → ∃ Fb, XM M Fa Ha Fb Hb ∧ RV M Fb x d
/-- an iterator over what is borrowed -/
def Dv (M : Cm) (J : It) (l : List D) (F H : Hp) : Prop := ∃ G Y, Walk J l.length G Y ∧ (∀ F' H', XM M F H F' H' → G H') ∧ ∀ (i : Nat) x Fa Ha Hb d, XM M F H Fa Ha → Y i Ha x Hb → l[i]? = some d → ∃ Fb, XM M Fa Ha Fb Hb ∧ RV M Fb x d
def WI (M : Cm) (wi : TI) (ρ : Rho) (k : List D → Prop) : Prop := ∀ σ F H Q, Fr M ρ σ F H → (∀ J l F' H', XM M F H F' H' → Dw M J l F' → k l → Q J H') → wi σ H Q
def WV (M : Cm) (wi : TI) (ρ : Rho) (k : List D → Prop) : Prop := ∀ σ F H Q, Fr M ρ σ F H → (∀ J l F' H', XM M F H F' H' → Dv M J l F' H' → k l → Q J H') → wi σ H Q
theorem Dw.dv {M : Cm} {J : It} {l : List D} {F H : Hp} (g : Gd M.st F H) (w : Dw M J l F) : Dv M J l F H := by
  obtain ⟨G, Y, w1, w2, w3⟩ := w
  exact ⟨G, Y, w1, fun F' H' x => w2 F' H' x.ff x.gd, fun i x Fa Ha Hb d e => w3 i x Fa Ha Hb d e.ff e.gd⟩
theorem WI.wv {M : Cm} {wi : TI} {ρ : Rho} {k : List D → Prop} (h : WI M wi ρ k) : WV M wi ρ k := fun σ F H Q e q => h σ F H Q e fun J l F' H' x w => q J l F' H' x (w.dv x.gd)
theorem WE.wb {M : Cm} {t : TE} {ρ : Rho} {k : D → Prop} (h : WE M t ρ k) : WB M t ρ k := fun σ F H Q e q => h σ F H Q e fun v d F' H' x r => q v d F' H' x (.inl r)
theorem WO.we {M : Cm} {t : TE} {ρ : Rho} {k : D → Prop} (h : WO M t ρ fun l => k (.lst l)) : WE M t ρ k := fun σ F H Q e q => h σ F H Q e fun p vs l F' H' x h1 h2 h3 h4 => q _ _ (upd F' p (.lst vs)) H' (x.frz h3 h2 h1) (.lst (.inl (.inl upd_same)) (h4.mono (same_upd h2)))
end G

namespace G
open PySem PySem.Spec PyProof.Rows L2
section
variable {M : Cm} {ρ : Rho} {k : D → Prop} {kb : Bool → Prop} {ka : List D → Prop} {kr : Rho → Prop} {ta tb tc te : TE} {t u : TT} {tr : TA} {i : Nat} {d : D} {l : List D}
/-! ### expressions -/
theorem we_var (h : ρ[i]? = some (some (.d d))) (q : k d) : WE M (tVar i) ρ k := fun σ F H Q e f => by
  obtain ⟨v, h1, h2⟩ := e.each i _ h
  exact ⟨v, h1, f v d F H (XE.refl e.gd) h2 q⟩
theorem wb_own (h : ρ[i]? = some (some (.own l))) (q : k (.lst l)) : WB M (tVar i) ρ k := fun σ F H Q e f => by
  obtain ⟨v, h1, p, vs, rfl, h2, h3, h4, h5⟩ := e.each i _ h
  exact ⟨_, h1, f _ _ F H (XE.refl e.gd) (.inr (.inl ⟨p, vs, l, rfl, rfl, h2, h5⟩)) q⟩
theorem wb_ownK {ks : List Key} (h : ρ[i]? = some (some (.ownK ks l))) (q : k (.dic ks l)) : WB M (tVar i) ρ k := fun σ F H Q e f => by
  obtain ⟨v, h1, p, vs, rfl, h2, h6, h3, h4, h5⟩ := e.each i _ h
  exact ⟨_, h1, f _ _ F H (XE.refl e.gd) (.inr (.inr (.inl ⟨p, ks, vs, l, rfl, rfl, h2, h6, h5⟩))) q⟩
theorem wb_ownT {ks : List (List Key)} (h : ρ[i]? = some (some (.ownT ks l))) (q : k (.dit ks l)) : WB M (tVar i) ρ k := fun σ F H Q e f => by
  obtain ⟨v, h1, p, vs, rfl, h2, h6, h3, h4, h5⟩ := e.each i _ h
  exact ⟨_, h1, f _ _ F H (XE.refl e.gd) (.inr (.inr (.inr ⟨p, ks, vs, l, rfl, rfl, h2, h6, h5⟩))) q⟩
theorem we_int {n : Int} (q : k (.int n)) : WE M (tC (.int n)) ρ k := fun σ F H Q e f => f _ _ F H (XE.refl e.gd) (.int n) q
theorem we_str {n : Str} (q : k (.str n)) : WE M (tC (.str n)) ρ k := fun σ F H Q e f => f _ _ F H (XE.refl e.gd) (.str n) q
theorem we_bl {n : Bool} (q : k (.bl n)) : WE M (tC (.bl n)) ρ k := fun σ F H Q e f => f _ _ F H (XE.refl e.gd) (.bl n) q
theorem we_non (q : k .non) : WE M (tC .non) ρ k := fun σ F H Q e f => f _ _ F H (XE.refl e.gd) .non q
theorem WE.mono {k' : D → Prop} (h : WE M te ρ k) (f : ∀ d, k d → k' d) : WE M te ρ k' := fun σ F H Q e q => h σ F H Q e fun v d F' H' x r kd => q v d F' H' x r (f d kd)
theorem WB.mono {k' : D → Prop} (h : WB M te ρ k) (f : ∀ d, k d → k' d) : WB M te ρ k' := fun σ F H Q e q => h σ F H Q e fun v d F' H' x r kd => q v d F' H' x r (f d kd)
/-- a binary operator by data -/
def OP (M : Cm) (r : R2) (d e : D) (k : D → Prop) : Prop := ∀ F H x y Q, Gd M.st F H → RB M F H x d → RB M F H y e → (∀ v d F' H', XM M F H F' H' → RV M F' v d → k d → Q v H') → r x y H Q
theorem we_op {r : R2} (h : WB M ta ρ fun d => WB M tb ρ fun e => OP M r d e k) : WE M (tOp r ta tb) ρ k := fun σ F H Q e f =>
  h σ F H _ e fun x d F1 H1 x1 r1 h1 => h1 σ F1 H1 _ (e.step x1) fun y d2 F2 H2 x2 r2 h2 => h2 F2 H2 x y Q x2.gd (r1.step x2) r2 fun v d3 F3 H3 x3 => f v d3 F3 H3 ((x1.trans x2).trans x3)
/-- .. that makes a new list -/
def OPO (M : Cm) (r : R2) (d e : D) (k : List D → Prop) : Prop := ∀ F H x y Q, Gd M.st F H → RB M F H x d → RB M F H y e → (∀ p vs l F' H', XM M F H F' H' → Dl M.st H' p = some (.lst vs) → F' p = none → Dl M.st H p = none → RL M F' vs l → k l → Q (.ref p) H') → r x y H Q
theorem wo_op {r : R2} (h : WB M ta ρ fun d => WB M tb ρ fun e => OPO M r d e ka) : WO M (tOp r ta tb) ρ ka := fun σ F H Q e f =>
  h σ F H _ e fun x d F1 H1 x1 r1 h1 => h1 σ F1 H1 _ (e.step x1) fun y d2 F2 H2 x2 r2 h2 => h2 F2 H2 x y Q x2.gd (r1.step x2) r2 fun p vs l F3 H3 x3 a b c => f p vs l F3 H3 ((x1.trans x2).trans x3) a b ((x1.trans x2).ext.hh.free c)
theorem wb_op {r : R2} (h : WB M ta ρ fun d => WB M tb ρ fun e => OP M r d e k) : WB M (tOp r ta tb) ρ k := (we_op h).wb
section
variable {m n : Int} {f : Int → Int → V} {r : R2} {e : D}
theorem op_I0i {g : Int → Int → Int} (q : k (.int (g m n))) : OP M (rI0 fun i j => .int (g i j)) (.int m) (.int n) k := fun F H x y Q g0 rx ry f => by
  cases rx.int
  cases ry.int
  exact ⟨m, n, rfl, rfl, f _ _ F H (XE.refl g0) (.int _) q⟩
theorem op_I0b {g : Int → Int → Bool} (q : k (.bl (g m n))) : OP M (rI0 fun i j => .bl (g i j)) (.int m) (.int n) k := fun F H x y Q g0 rx ry f => by
  cases rx.int
  cases ry.int
  exact ⟨m, n, rfl, rfl, f _ _ F H (XE.refl g0) (.bl _) q⟩
theorem op_Ii {cc : Int → Int → Prop} {g : Int → Int → Int} (c : cc m n) (q : k (.int (g m n))) : OP M (rI cc fun i j => .int (g i j)) (.int m) (.int n) k := fun F H x y Q g0 rx ry f => by
  cases rx.int
  cases ry.int
  exact ⟨m, n, rfl, rfl, c, f _ _ F H (XE.refl g0) (.int _) q⟩
theorem op_or1 {r s : R2} {d : D} (h : OP M r d e k) : OP M (fun x y H Q => r x y H Q ∨ s x y H Q) d e k := fun F H x y Q g rx ry f => .inl (h F H x y Q g rx ry f)
theorem op_or2 {r s : R2} {d : D} (h : OP M s d e k) : OP M (fun x y H Q => r x y H Q ∨ s x y H Q) d e k := fun F H x y Q g rx ry f => .inr (h F H x y Q g rx ry f)
theorem op_addII (q : k (.int (m + n))) : OP M (rAddU M.K) (.int m) (.int n) k := op_or1 (op_I0i (g := fun i j => i + j) q)
theorem op_mulII (c : CMul m n) (q : k (.int (m * n))) : OP M rMulU (.int m) (.int n) k := op_or1 (op_Ii (g := fun i j => i * j) c q)
theorem op_eqII (q : k (.bl (decide (m = n)))) : OP M (rEqU M.K) (.int m) (.int n) k := fun F H x y Q g0 rx ry f => by
  cases rx.int
  cases ry.int
  exact s_eqI (f _ _ F H (XE.refl g0) (.bl _) q)
theorem op_neII (q : k (.bl (!decide (m = n)))) : OP M (rNeU M.K) (.int m) (.int n) k := fun F H x y Q g0 rx ry f => by
  cases rx.int
  cases ry.int
  exact s_neI (f _ _ F H (XE.refl g0) (.bl _) q)
theorem op_eqBB {a b : Bool} (q : k (.bl (decide (a = b)))) : OP M (rEqU M.K) (.bl a) (.bl b) k := fun F H x y Q g0 rx ry f => by
  cases rx.bl
  cases ry.bl
  exact s_eqB (f _ _ F H (XE.refl g0) (.bl _) q)
theorem op_neBB {a b : Bool} (q : k (.bl (!decide (a = b)))) : OP M (rNeU M.K) (.bl a) (.bl b) k := fun F H x y Q g0 rx ry f => by
  cases rx.bl
  cases ry.bl
  exact s_neB (f _ _ F H (XE.refl g0) (.bl _) q)
theorem op_eqSS {a b : Str} (q : k (.bl (decide (a = b)))) : OP M (rEqU M.K) (.str a) (.str b) k := fun F H x y Q g0 rx ry f => by
  cases rx.str
  cases ry.str
  exact s_eq rfl (by rw [show decide (V.str a = V.str b) = decide (a = b) from by simp]; exact f _ _ F H (XE.refl g0) (.bl _) q)
theorem op_neSS {a b : Str} (q : k (.bl (!decide (a = b)))) : OP M (rNeU M.K) (.str a) (.str b) k := fun F H x y Q g0 rx ry f => by
  cases rx.str
  cases ry.str
  exact s_ne rfl (by rw [show decide (V.str a = V.str b) = decide (a = b) from by simp]; exact f _ _ F H (XE.refl g0) (.bl _) q)
theorem op_eqDD {d e : D} (h1 : Pl 20 d) (h2 : Pl 20 e) (q : k (.bl (eqD d e))) : OP M (rEqU M.K) d e k := fun F H x y Q g0 rx ry f =>
  s_eqD (rx.dp g0 h1) (ry.dp g0 h2) (sh_shaped h1.sh) (sh_shaped h2.sh) (f _ _ F H (XE.refl g0) (.bl _) q)
theorem op_neDD {d e : D} (h1 : Pl 20 d) (h2 : Pl 20 e) (q : k (.bl (!eqD d e))) : OP M (rNeU M.K) d e k := fun F H x y Q g0 rx ry f =>
  s_neD (rx.dp g0 h1) (ry.dp g0 h2) (sh_shaped h1.sh) (sh_shaped h2.sh) (f _ _ F H (XE.refl g0) (.bl _) q)
/-- is None, is not None -/
def D.isN : D → Bool
  | .non => true
  | _ => false
theorem rb_isN {F H : Hp} {x : V} {d : D} (h : RB M F H x d) : decide (x = V.non) = d.isN := by
  rcases h with h | ⟨p, vs, l', rfl, e, h1, h2⟩ | ⟨p, ks, vs, l', rfl, e, h1, h3, h2⟩ | ⟨p, ks, vs, l', rfl, e, h1, h3, h2⟩
  · cases h <;> rfl
  · subst e; rfl
  · subst e; rfl
  · subst e; rfl
theorem op_isNn {d : D} (q : k (.bl d.isN)) : OP M (fun x y H Q => y = V.non ∧ Q (.bl (decide (x = .non))) H) d .non k := fun F H x y Q g0 rx ry f => by
  cases ry.non
  rw [rb_isN rx]
  exact ⟨rfl, f _ _ F H (XE.refl g0) (.bl _) q⟩
theorem op_notNn {d : D} (q : k (.bl (!d.isN))) : OP M (fun x y H Q => y = V.non ∧ Q (.bl (!decide (x = .non))) H) d .non k := fun F H x y Q g0 rx ry f => by
  cases ry.non
  rw [rb_isN rx]
  exact ⟨rfl, f _ _ F H (XE.refl g0) (.bl _) q⟩
/-! items -/
theorem atI_RA {F : Hp} {vs : List V} {l : List D} {i : Int} {d : D} (h : RL M F vs l) (e : atI l i = some d) : ∃ v, atI vs i = some v ∧ RV M F v d := by
  unfold atI at e ⊢
  rw [h.len]
  cases q : ixN l.length i with
  | none => rw [q] at e; cases e
  | some j =>
    rw [q] at e
    exact h.get e
theorem op_ixT {l : List D} {d : D} (h : atI l m = some d) (q : k d) : OP M (rIx M.K) (.tup l) (.int m) k := fun F H x y Q g0 rx ry f => by
  cases ry.int
  obtain ⟨p, vs, rfl, h1, h2⟩ := rx.tup
  obtain ⟨v, h3, h4⟩ := atI_RA h2 h
  exact s_ixT (sqT_mono g0.sub h1) h3 (f _ _ F H (XE.refl g0) h4 q)
theorem op_ixS {ns : List Int} {d : D} (h : atI (ns.map D.int) m = some d) (q : k d) : OP M (rIx M.K) (.stn ns) (.int m) k := fun F H x y Q g0 rx ry f => by
  cases ry.int
  obtain ⟨p, rfl, h1⟩ := rx.stn
  obtain ⟨v, h3, h4⟩ := atI_RA (M := M) (F := F) (RA.ofInts ns) h
  exact s_ixT (sqT_mono g0.sub (.inl (.inl h1))) h3 (f _ _ F H (XE.refl g0) h4 q)
theorem op_ixX {ns : List Int} {d : D} (h : atI (ns.map D.int) m = some d) (q : k d) : OP M (rIx M.K) (.ixt ns) (.int m) k := fun F H x y Q g0 rx ry f => by
  cases ry.int
  obtain ⟨p, ob, rfl, h1, _⟩ := rx.ixt
  obtain ⟨v, h3, h4⟩ := atI_RA (M := M) (F := F) (RA.ofInts ns) h
  exact s_ixT (sqT_mono g0.sub (.inl (.inr ⟨_, h1⟩))) h3 (f _ _ F H (XE.refl g0) h4 q)
theorem op_ixL {l : List D} {d : D} (h : atI l m = some d) (q : k d) : OP M (rIx M.K) (.lst l) (.int m) k := fun F H x y Q g0 rx ry f => by
  cases ry.int
  obtain ⟨p, vs, rfl, h1, h2⟩ := rx.lst g0
  obtain ⟨v, h3, h4⟩ := atI_RA h2 h
  exact s_ixL h1 h3 (f _ _ F H (XE.refl g0) h4 q)
end
/-! one argument -/
def OU (M : Cm) (r : V → Hp → VK → Prop) (d : D) (k : D → Prop) : Prop := ∀ F H x Q, Gd M.st F H → RB M F H x d → (∀ v d F' H', XM M F H F' H' → RV M F' v d → k d → Q v H') → r x H Q
theorem we_un {r : V → Hp → VK → Prop} (h : WB M ta ρ fun d => OU M r d k) : WE M (tUn r ta) ρ k := fun σ F H Q e f =>
  h σ F H _ e fun x d F1 H1 x1 r1 h1 => h1 F1 H1 x Q x1.gd r1 fun v d3 F3 H3 x3 => f v d3 F3 H3 (x1.trans x3)
theorem ou_neg {m : Int} (q : k (.int (-m))) : OU M (rU fun i => .int (-i)) (.int m) k := fun F H x Q g0 rx f => by
  cases rx.int
  exact ⟨m, rfl, f _ _ F H (XE.refl g0) (.int _) q⟩
/-! tests and truths -/
theorem wt_test (h : WB M te ρ fun d => ∃ b, d = .bl b ∧ kb b) : WT M (tTest te) ρ kb := fun σ F H Q e f =>
  h σ F H _ e fun x d F1 H1 x1 r1 ⟨b, h1, h2⟩ => by
    subst h1
    cases r1.bl
    exact ⟨b, rfl, f b F1 H1 x1 h2⟩
theorem wt_B (h : WB M te ρ fun d => ∃ b, d = .bl b ∧ kb b) : WT M (tB te) ρ kb := fun σ F H Q e f =>
  h σ F H _ e fun x d F1 H1 x1 r1 ⟨b, h1, h2⟩ => by
    subst h1
    cases r1.bl
    exact ⟨b, rfl, f b F1 H1 x1 h2⟩
theorem wt_not (h : WT M t ρ fun c => kb (!c)) : WT M (tNot t) ρ kb := fun σ F H Q e f => h σ F H _ e fun b F1 H1 x1 h1 => f _ F1 H1 x1 h1
theorem wt_and (h : WT M t ρ fun c => if c = true then WT M u ρ kb else kb false) : WT M (tAnd t u) ρ kb := fun σ F H Q e f => h σ F H _ e fun b F1 H1 x1 h1 => by
  cases b with
  | true => exact iteT ((show WT M u ρ kb from h1) σ F1 H1 _ (e.step x1) fun c F2 H2 x2 => f c F2 H2 (x1.trans x2))
  | false => exact iteF (f _ F1 H1 x1 h1)
theorem wt_or (h : WT M t ρ fun c => if c = true then kb true else WT M u ρ kb) : WT M (tOr t u) ρ kb := fun σ F H Q e f => h σ F H _ e fun b F1 H1 x1 h1 => by
  cases b with
  | true => exact iteT (f _ F1 H1 x1 h1)
  | false => exact iteF ((show WT M u ρ kb from h1) σ F1 H1 _ (e.step x1) fun c F2 H2 x2 => f c F2 H2 (x1.trans x2))
theorem wt_yes (q : kb true) : WT M tYes ρ kb := fun σ F H Q e f => f true F H (XE.refl e.gd) q
theorem we_notV (h : WB M ta ρ fun d => ∃ b, d = .bl b ∧ k (.bl (!b))) : WE M (tNotV ta) ρ k := fun σ F H Q e f =>
  h σ F H _ e fun x d F1 H1 x1 r1 ⟨b, h1, h2⟩ => by
    subst h1
    cases r1.bl
    exact ⟨b, rfl, f _ _ F1 H1 x1 (.bl _) h2⟩
theorem we_andV (h : WB M ta ρ fun d => ∃ b, d = .bl b ∧ if b = true then WE M tb ρ k else k (.bl false)) : WE M (tAndV ta tb) ρ k := fun σ F H Q e f =>
  h σ F H _ e fun x d F1 H1 x1 r1 ⟨b, h1, h2⟩ => by
    subst h1
    cases r1.bl
    refine ⟨b, rfl, ?_⟩
    cases b with
    | true => exact iteT ((show WE M tb ρ k from h2) σ F1 H1 _ (e.step x1) fun v c F2 H2 x2 => f v c F2 H2 (x1.trans x2))
    | false => exact iteF (f _ _ F1 H1 x1 (.bl _) h2)
theorem we_orV (h : WB M ta ρ fun d => ∃ b, d = .bl b ∧ if b = true then k (.bl true) else WE M tb ρ k) : WE M (tOrV ta tb) ρ k := fun σ F H Q e f =>
  h σ F H _ e fun x d F1 H1 x1 r1 ⟨b, h1, h2⟩ => by
    subst h1
    cases r1.bl
    refine ⟨b, rfl, ?_⟩
    cases b with
    | true => exact iteT (f _ _ F1 H1 x1 (.bl _) h2)
    | false => exact iteF ((show WE M tb ρ k from h2) σ F1 H1 _ (e.step x1) fun v c F2 H2 x2 => f v c F2 H2 (x1.trans x2))
theorem we_if (h : WT M t ρ fun c => if c = true then WE M ta ρ k else WE M tb ρ k) : WE M (tIf t ta tb) ρ k := fun σ F H Q e f => h σ F H _ e fun b F1 H1 x1 h1 => by
  cases b with
  | true => exact iteT ((show WE M ta ρ k from h1) σ F1 H1 _ (e.step x1) fun v c F2 H2 x2 => f v c F2 H2 (x1.trans x2))
  | false => exact iteF ((show WE M tb ρ k from h1) σ F1 H1 _ (e.step x1) fun v c F2 H2 x2 => f v c F2 H2 (x1.trans x2))
theorem we_chain {r r' : R2} (h : WB M ta ρ fun d => WB M tb ρ fun e => OP M r d e fun z => ∃ b, z = .bl b ∧ if b = true then WB M tc ρ fun w => OP M r' e w k else k (.bl false)) : WE M (tChain r r' ta tb tc) ρ k := fun σ F H Q e f =>
  h σ F H _ e fun x d F1 H1 x1 r1 h1 => h1 σ F1 H1 _ (e.step x1) fun y d2 F2 H2 x2 r2 h2 => h2 F2 H2 x y _ x2.gd (r1.step x2) r2 fun v d3 F3 H3 x3 r3 ⟨b, e3, h3⟩ => by
    subst e3
    cases r3
    refine ⟨b, rfl, ?_⟩
    have x03 := (x1.trans x2).trans x3
    cases b with
    | true => exact iteT ((show WB M tc ρ fun w => OP M r' d2 w k from h3) σ F3 H3 _ (e.step x03) fun w d4 F4 H4 x4 r4 h4 => h4 F4 H4 y w Q x4.gd (r2.step (x3.trans x4)) r4 fun v d5 F5 H5 x5 => f v d5 F5 H5 ((x03.trans x4).trans x5))
    | false => exact iteF (f _ _ F3 H3 x03 (.bl _) h3)
/-! arguments -/
theorem wa_nil (q : ka []) : WA M tNil ρ ka := fun σ F H Q e f => f [] [] F H (XE.refl e.gd) .nil q
theorem wa_cons (h : WE M ta ρ fun d => WA M tr ρ fun ds => ka (d :: ds)) : WA M (tCons ta tr) ρ ka := fun σ F H Q e f =>
  h σ F H _ e fun x d F1 H1 x1 r1 h1 => h1 σ F1 H1 _ (e.step x1) fun vs ds F2 H2 x2 r2 => f _ _ F2 H2 (x1.trans x2) (.cons (r1.mono x2.ff) r2)
theorem wab_nil (q : ka []) : WAB M tNil ρ ka := fun σ F H Q e f => f [] [] F H (XE.refl e.gd) .nil q
theorem wab_cons (h : WB M ta ρ fun d => WAB M tr ρ fun ds => ka (d :: ds)) : WAB M (tCons ta tr) ρ ka := fun σ F H Q e f =>
  h σ F H _ e fun x d F1 H1 x1 r1 h1 => h1 σ F1 H1 _ (e.step x1) fun vs ds F2 H2 x2 r2 => f _ _ F2 H2 (x1.trans x2) (.cons (r1.step x2) r2)
theorem we_tup (h : WA M tr ρ fun ds => ds.length ≤ 1000 ∧ k (.tup ds)) : WE M (tTup tr) ρ k := fun σ F H Q e f =>
  h σ F H _ e fun vs ds F1 H1 x1 r1 ⟨h1, h2⟩ => ⟨Nat.le_trans (by rw [r1.len]; exact h1) (by decide), fun p np => f _ _ _ _ (x1.new np) (.tup (.inl (.inl upd_same)) (r1.mono (same_upd (sub_none x1.gd.sub np)))) h2⟩
theorem we_tupS (ns : List Int) (h : WA M tr ρ fun ds => ds = ns.map D.int ∧ ns.length ≤ 1000 ∧ k (.stn ns)) : WE M (tTup tr) ρ k := fun σ F H Q e f =>
  h σ F H _ e fun vs ds F1 H1 x1 r1 ⟨z, h1, h2⟩ => by
    subst z
    have := r1.ints
    subst this
    exact ⟨Nat.le_trans (by rw [List.length_map]; exact h1) (by decide), fun p np => f _ _ _ _ (x1.new np) (.stn upd_same) h2⟩
theorem wo_lst (h : WA M tr ρ fun ds => ds.length ≤ 1000 ∧ ka ds) : WO M (tLst tr) ρ ka := fun σ F H Q e f =>
  h σ F H _ e fun vs ds F1 H1 x1 r1 ⟨h1, h2⟩ => ⟨Nat.le_trans (by rw [r1.len]; exact h1) (by decide), fun p np => f p vs ds F1 _ (x1.mut np) (by rw [Dl_upd (x1.ok.ne np)]; exact upd_same) (sub_none x1.gd.sub np) (x1.ext.hh.free (Dl_none np)) r1 h2⟩
/-! calls of built-ins -/
def CR (M : Cm) (r : List V → Hp → VK → Prop) (ds : List D) (k : D → Prop) : Prop := ∀ F H vs Q, Gd M.st F H → RBs M F H vs ds → (∀ v d F' H', XM M F H F' H' → RV M F' v d → k d → Q v H') → r vs H Q
def CRO (M : Cm) (r : List V → Hp → VK → Prop) (ds : List D) (k : List D → Prop) : Prop := ∀ F H vs Q, Gd M.st F H → RBs M F H vs ds → (∀ p vs l F' H', XM M F H F' H' → Dl M.st H' p = some (.lst vs) → F' p = none → Dl M.st H p = none → RL M F' vs l → k l → Q (.ref p) H') → r vs H Q
theorem we_cb {r : List V → Hp → VK → Prop} (h : WAB M tr ρ fun ds => CR M r ds k) : WE M (tCB r tr) ρ k := fun σ F H Q e f =>
  h σ F H _ e fun vs ds F1 H1 x1 r1 h1 => h1 F1 H1 vs Q x1.gd r1 fun v d3 F3 H3 x3 => f v d3 F3 H3 (x1.trans x3)
theorem wo_cb {r : List V → Hp → VK → Prop} (h : WAB M tr ρ fun ds => CRO M r ds ka) : WO M (tCB r tr) ρ ka := fun σ F H Q e f =>
  h σ F H _ e fun vs ds F1 H1 x1 r1 h1 => h1 F1 H1 vs Q x1.gd r1 fun p vs l F3 H3 x3 a b c => f p vs l F3 H3 (x1.trans x3) a b (x1.ext.hh.free c)
theorem CRO.cr {r : List V → Hp → VK → Prop} {ds : List D} (h : CRO M r ds fun l => k (.lst l)) : CR M r ds k := fun F H vs Q g rr f => h F H vs Q g rr fun p vs l F' H' x h1 h2 h3 h4 => f _ _ (upd F' p (.lst vs)) H' (x.frz h3 h2 h1) (.lst (.inl (.inl upd_same)) (h4.mono (same_upd h2)))
theorem OPO.op {r : R2} {d e : D} (h : OPO M r d e fun l => k (.lst l)) : OP M r d e k := fun F H x y Q g r1 r2 f => h F H x y Q g r1 r2 fun p vs l F' H' x h1 h2 h3 h4 => f _ _ (upd F' p (.lst vs)) H' (x.frz h3 h2 h1) (.lst (.inl (.inl upd_same)) (h4.mono (same_upd h2)))
theorem rbs1 {F H : Hp} {vs : List V} {d : D} (h : RBs M F H vs [d]) : ∃ v, vs = [v] ∧ RB M F H v d := by
  cases h with
  | cons a b => cases b; exact ⟨_, rfl, a⟩
theorem rbs2 {F H : Hp} {vs : List V} {d e : D} (h : RBs M F H vs [d, e]) : ∃ v u, vs = [v, u] ∧ RB M F H v d ∧ RB M F H u e := by
  cases h with
  | cons a b =>
    cases b with
    | cons b c => cases c; exact ⟨_, _, rfl, a, b⟩
theorem cr_or1 {r s : List V → Hp → VK → Prop} {ds : List D} (h : CR M r ds k) : CR M (fun vs H Q => r vs H Q ∨ s vs H Q) ds k := fun F H vs Q g rr f => .inl (h F H vs Q g rr f)
theorem cr_or2 {r s : List V → Hp → VK → Prop} {ds : List D} (h : CR M s ds k) : CR M (fun vs H Q => r vs H Q ∨ s vs H Q) ds k := fun F H vs Q g rr f => .inr (h F H vs Q g rr f)
theorem cr_lenL (q : k (.int l.length)) : CR M (rLen M.K) [.lst l] k := fun F H vs Q g rr f => by
  obtain ⟨v, rfl, r⟩ := rbs1 rr
  obtain ⟨p, us, rfl, h1, h2⟩ := r.lst g
  refine s_lenL h1 ?_
  rw [h2.len]
  exact f _ _ F H (XE.refl g) (.int _) q
theorem cr_lenT (q : k (.int l.length)) : CR M (rLen M.K) [.tup l] k := fun F H vs Q g rr f => by
  obtain ⟨v, rfl, r⟩ := rbs1 rr
  obtain ⟨p, us, rfl, h1, h2⟩ := r.tup
  refine s_lenT (sqT_mono g.sub h1) ?_
  rw [h2.len]
  exact f _ _ F H (XE.refl g) (.int _) q
theorem cr_lenS {ns : List Int} (q : k (.int ns.length)) : CR M (rLen M.K) [.stn ns] k := fun F H vs Q g rr f => by
  obtain ⟨v, rfl, r⟩ := rbs1 rr
  obtain ⟨p, rfl, h1⟩ := r.stn
  refine s_lenT (sqT_mono g.sub (.inl (.inl h1))) ?_
  rw [List.length_map]
  exact f _ _ F H (XE.refl g) (.int _) q
theorem cr_lenX {ns : List Int} (q : k (.int ns.length)) : CR M (rLen M.K) [.ixt ns] k := fun F H vs Q g rr f => by
  obtain ⟨v, rfl, r⟩ := rbs1 rr
  obtain ⟨p, ob, rfl, h1, _⟩ := r.ixt
  refine s_lenT (sqT_mono g.sub (.inl (.inr ⟨_, h1⟩))) ?_
  rw [List.length_map]
  exact f _ _ F H (XE.refl g) (.int _) q
theorem cr_sumS {ns : List Int} (q : k (.int ns.sum)) : CR M (rSumU M.K) [.stn ns] k := fun F H vs Q g rr f => by
  obtain ⟨v, rfl, r⟩ := rbs1 rr
  obtain ⟨p, rfl, h1⟩ := r.stn
  exact s_sumT (sqT_mono g.sub (.inl (.inl h1))) (f _ _ F H (XE.refl g) (.int _) q)
theorem cr_sumLi {ns : List Int} (q : k (.int ns.sum)) : CR M (rSumU M.K) [.lst (ns.map D.int)] k := fun F H vs Q g rr f => by
  obtain ⟨v, rfl, r⟩ := rbs1 rr
  obtain ⟨p, us, rfl, h1, h2⟩ := r.lst g
  rw [h2.ints] at h1
  exact s_sumL h1 (f _ _ F H (XE.refl g) (.int _) q)
theorem cr_sumTi {ns : List Int} (q : k (.int ns.sum)) : CR M (rSumU M.K) [.tup (ns.map D.int)] k := fun F H vs Q g rr f => by
  obtain ⟨v, rfl, r⟩ := rbs1 rr
  obtain ⟨p, us, rfl, h1, h2⟩ := r.tup
  rw [h2.ints] at h1
  exact s_sumT (sqT_mono g.sub h1) (f _ _ F H (XE.refl g) (.int _) q)
theorem cr_allB {bs : List Bool} (q : k (.bl (bs.all id))) : CR M (rAll M.K) [.lst (bs.map D.bl)] k := fun F H vs Q g rr f => by
  obtain ⟨v, rfl, r⟩ := rbs1 rr
  obtain ⟨p, us, rfl, h1, h2⟩ := r.lst g
  rw [h2.bools] at h1
  exact s_all h1 (f _ _ F H (XE.refl g) (.bl _) q)
theorem cr_anyB {bs : List Bool} (q : k (.bl (bs.any id))) : CR M (rAny M.K) [.lst (bs.map D.bl)] k := fun F H vs Q g rr f => by
  obtain ⟨v, rfl, r⟩ := rbs1 rr
  obtain ⟨p, us, rfl, h1, h2⟩ := r.lst g
  rw [h2.bools] at h1
  exact s_any h1 (f _ _ F H (XE.refl g) (.bl _) q)
theorem cr_absI {m : Int} (q : k (.int (if m < 0 then -m else m))) : CR M (fun xs H Q => ∃ i, xs = [V.int i] ∧ Q (V.int (if i < 0 then -i else i)) H) [.int m] k := fun F H vs Q g rr f => by
  obtain ⟨v, rfl, r⟩ := rbs1 rr
  cases r.int
  exact ⟨m, rfl, f _ _ F H (XE.refl g) (.int _) q⟩
theorem cr_int_i {m : Int} (q : k (.int m)) : CR M (fun xs H Q => (∃ i, xs = [V.int i] ∧ Q (.int i) H) ∨ ∃ k, xs = [V.bl k] ∧ Q (.int (if k then 1 else 0)) H) [.int m] k := fun F H vs Q g rr f => by
  obtain ⟨v, rfl, r⟩ := rbs1 rr
  cases r.int
  exact .inl ⟨m, rfl, f _ _ F H (XE.refl g) (.int _) q⟩
theorem cr_int_b {m : Bool} (q : k (.int (if m then 1 else 0))) : CR M (fun xs H Q => (∃ i, xs = [V.int i] ∧ Q (.int i) H) ∨ ∃ k, xs = [V.bl k] ∧ Q (.int (if k then 1 else 0)) H) [.bl m] k := fun F H vs Q g rr f => by
  obtain ⟨v, rfl, r⟩ := rbs1 rr
  cases r.bl
  exact .inr ⟨m, rfl, f _ _ F H (XE.refl g) (.int _) q⟩
theorem cro_new {F H : Hp} {Q : VK} {vs : List V} {l : List D} {p : Addr} (g : Gd M.st F H) (h2 : RL M F vs l) (np : H p = none) (q : ka l) (f : ∀ p vs l F' H', XM M F H F' H' → Dl M.st H' p = some (.lst vs) → F' p = none → Dl M.st H p = none → RL M F' vs l → ka l → Q (.ref p) H') : Q (.ref p) (upd H p (.lst vs)) :=
  f p vs l F _ ((XE.refl g).mut np) (by rw [Dl_upd (g.ok.ne np)]; exact upd_same) (sub_none g.sub np) (Dl_none np) h2 q
theorem cr_listL (q : ka l) : CRO M (rListOf M.K) [.lst l] ka := fun F H vs Q g rr f => by
  obtain ⟨v, rfl, r⟩ := rbs1 rr
  obtain ⟨p, us, rfl, h1, h2⟩ := r.lst g
  exact s_listL h1 fun p np => cro_new g h2 np q f
theorem cr_listT (q : ka l) : CRO M (rListOf M.K) [.tup l] ka := fun F H vs Q g rr f => by
  obtain ⟨v, rfl, r⟩ := rbs1 rr
  obtain ⟨p, us, rfl, h1, h2⟩ := r.tup
  exact s_listT (sqT_mono g.sub h1) fun p np => cro_new g h2 np q f
theorem cr_listS {ns : List Int} (q : ka (ns.map D.int)) : CRO M (rListOf M.K) [.stn ns] ka := fun F H vs Q g rr f => by
  obtain ⟨v, rfl, r⟩ := rbs1 rr
  obtain ⟨p, rfl, h1⟩ := r.stn
  exact s_listT (sqT_mono g.sub (.inl (.inl h1))) fun p np => cro_new g (RA.ofInts ns) np q f
theorem cr_tupLi {ns : List Int} (q : k (.stn ns)) : CR M (rTupleOf M.K) [.lst (ns.map D.int)] k := fun F H vs Q g rr f => by
  obtain ⟨v, rfl, r⟩ := rbs1 rr
  obtain ⟨p, us, rfl, h1, h2⟩ := r.lst g
  rw [h2.ints] at h1
  exact s_tupleL h1 fun p np => f _ _ _ _ ((XE.refl g).new np) (.stn upd_same) q
theorem cr_tupS {ns : List Int} (q : k (.stn ns)) : CR M (rTupleOf M.K) [.stn ns] k := fun F H vs Q g rr f => by
  obtain ⟨v, rfl, r⟩ := rbs1 rr
  obtain ⟨p, rfl, h1⟩ := r.stn
  exact ⟨p, _, rfl, .inr ⟨sqT_mono g.sub (.inl (.inl h1)), f _ _ F H (XE.refl g) (.stn h1) q⟩⟩
theorem cr_tupL (q : k (.tup l)) : CR M (rTupleOf M.K) [.lst l] k := fun F H vs Q g rr f => by
  obtain ⟨v, rfl, r⟩ := rbs1 rr
  obtain ⟨p, us, rfl, h1, h2⟩ := r.lst g
  exact s_tupleL h1 fun p np => f _ _ _ _ ((XE.refl g).new np) (.tup (.inl (.inl upd_same)) (h2.mono (same_upd (sub_none g.sub np)))) q
theorem cr_tupT (q : k (.tup l)) : CR M (rTupleOf M.K) [.tup l] k := fun F H vs Q g rr f => by
  obtain ⟨v, rfl, r⟩ := rbs1 rr
  obtain ⟨p, us, rfl, h1, h2⟩ := r.tup
  exact ⟨p, us, rfl, .inr ⟨sqT_mono g.sub h1, f _ _ F H (XE.refl g) (.tup h1 h2) q⟩⟩
theorem cr_minI {ns : List Int} (h : 0 < ns.length) (q : ∀ m, m ∈ ns → (∀ y, y ∈ ns → m ≤ y) → k (.int m)) : CR M (rMin M.K) [.lst (ns.map D.int)] k := fun F H vs Q g rr f => by
  obtain ⟨v, rfl, r⟩ := rbs1 rr
  obtain ⟨p, us, rfl, h1, h2⟩ := r.lst g
  rw [h2.ints] at h1
  exact ⟨p, ns, rfl, h1, h, fun m h3 h4 => f _ _ F H (XE.refl g) (.int _) (q m h3 h4)⟩
theorem cr_maxI {ns : List Int} (h : 0 < ns.length) (q : ∀ m, m ∈ ns → (∀ y, y ∈ ns → y ≤ m) → k (.int m)) : CR M (rMax M.K) [.lst (ns.map D.int)] k := fun F H vs Q g rr f => by
  obtain ⟨v, rfl, r⟩ := rbs1 rr
  obtain ⟨p, us, rfl, h1, h2⟩ := r.lst g
  rw [h2.ints] at h1
  exact ⟨p, ns, rfl, h1, h, fun m h3 h4 => f _ _ F H (XE.refl g) (.int _) (q m h3 h4)⟩
/-! slices -/
def WP (M : Cm) (t : TO) (ρ : Rho) (k : Option Int → Prop) : Prop := ∀ σ F H (Q : Option Int → Hp → Prop), Fr M ρ σ F H → (∀ o F' H', XM M F H F' H' → k o → Q o H') → t σ H Q
theorem wp_no {ko : Option Int → Prop} (q : ko none) : WP M tNoPart ρ ko := fun σ F H Q e f => f none F H (XE.refl e.gd) q
theorem wp_some {ko : Option Int → Prop} (h : WB M te ρ fun d => ∃ i, d = .int i ∧ ko (some i)) : WP M (tPart te) ρ ko := fun σ F H Q e f => h σ F H _ e fun x d F1 H1 x1 r1 ⟨j, h1, h2⟩ => by
  subst h1
  cases r1.int
  exact ⟨j, rfl, f _ F1 H1 x1 h2⟩
def cutD (l : List D) (lo hi : Option Int) : List D := (l.drop (HT.sIx l.length 0 lo)).take (HT.sIx l.length l.length hi - HT.sIx l.length 0 lo)
theorem RA.cut {F : Hp} {vs : List V} {lo hi : Option Int} (h : RL M F vs l) : RL M F (cutV vs lo hi) (cutD l lo hi) := by
  unfold cutV cutD
  rw [h.len]
  exact (h.drop _).take _
def wholeSl (n : Nat) (lo hi : Option Int) : Prop := HT.sIx n 0 lo = 0 ∧ HT.sIx n n hi = n
theorem wo_slL {tl th : TO} (h : WB M te ρ fun d => ∃ l, d = .lst l ∧ WP M tl ρ fun lo => WP M th ρ fun hi => ka (cutD l lo hi)) : WO M (tSl (rSlU M.K) te tl th) ρ ka := fun σ F H Q e f =>
  h σ F H _ e fun x d F1 H1 x1 r1 ⟨l, e1, h1⟩ => h1 σ F1 H1 _ (e.step x1) fun lo F2 H2 x2 h2 => h2 σ F2 H2 _ (e.step (x1.trans x2)) fun hi F3 H3 x3 h3 => by
    subst e1
    have x03 := (x1.trans x2).trans x3
    obtain ⟨p, us, rfl, h4, h5⟩ := (r1.step (x2.trans x3)).lst x03.gd
    exact .inl ⟨p, us, rfl, h4, fun p np => cro_new (ka := ka) x03.gd h5.cut np h3 fun p vs l F4 H4 x4 a b c => f p vs l F4 H4 (x03.trans x4) a b (x03.ext.hh.free c)⟩
theorem we_slT {tl th : TO} (h : WB M te ρ fun d => ∃ l, d = .tup l ∧ WP M tl ρ fun lo => WP M th ρ fun hi => ¬ wholeSl l.length lo hi ∧ k (.tup (cutD l lo hi))) : WE M (tSl (rSlU M.K) te tl th) ρ k := fun σ F H Q e f =>
  h σ F H _ e fun x d F1 H1 x1 r1 ⟨l, e1, h1⟩ => h1 σ F1 H1 _ (e.step x1) fun lo F2 H2 x2 h2 => h2 σ F2 H2 _ (e.step (x1.trans x2)) fun hi F3 H3 x3 ⟨hw, h3⟩ => by
    subst e1
    have x03 := (x1.trans x2).trans x3
    obtain ⟨p, us, rfl, h4, h5⟩ := (r1.step (x2.trans x3)).tup
    exact .inr ⟨p, us, rfl, sqT_mono x03.gd.sub h4, by rw [h5.len]; exact hw, fun p np => f _ _ _ _ (x03.new np) (.tup (.inl (.inl upd_same)) (h5.cut.mono (same_upd (sub_none x03.gd.sub np)))) h3⟩
def cutI (l : List Int) (lo hi : Option Int) : List Int := (l.drop (HT.sIx l.length 0 lo)).take (HT.sIx l.length l.length hi - HT.sIx l.length 0 lo)
theorem cutV_ints (ns : List Int) (lo hi : Option Int) : cutV (ns.map V.int) lo hi = (cutI ns lo hi).map V.int := by
  unfold cutV cutI
  rw [List.length_map, ← List.map_drop, ← List.map_take]
theorem we_slS {tl th : TO} (h : WB M te ρ fun d => ∃ ns, d = .stn ns ∧ WP M tl ρ fun lo => WP M th ρ fun hi => ¬ wholeSl ns.length lo hi ∧ k (.stn (cutI ns lo hi))) : WE M (tSl (rSlU M.K) te tl th) ρ k := fun σ F H Q e f =>
  h σ F H _ e fun x d F1 H1 x1 r1 ⟨ns, e1, h1⟩ => h1 σ F1 H1 _ (e.step x1) fun lo F2 H2 x2 h2 => h2 σ F2 H2 _ (e.step (x1.trans x2)) fun hi F3 H3 x3 ⟨hw, h3⟩ => by
    subst e1
    have x03 := (x1.trans x2).trans x3
    obtain ⟨p, rfl, h4⟩ := (r1.step (x2.trans x3)).stn
    refine .inr ⟨p, _, rfl, sqT_mono x03.gd.sub (.inl (.inl h4)), by rw [List.length_map]; exact hw, fun p np => ?_⟩
    rw [cutV_ints]
    exact f _ _ _ _ (x03.new np) (.stn upd_same) h3
end
end G

namespace G
open PySem PySem.Spec PyProof.Rows L2
section
variable {M : Cm} {ρ : Rho} {k : D → Prop} {kb : Bool → Prop} {ka : List D → Prop} {kr nx bk ct : Rho → Prop} {rt : Sl → Rho → Prop} {ta tb te : TE} {t : TT} {ts us : TS} {tr : TA} {i : Nat} {d : D} {l : List D} {S : Nat → Prop}
/-! ### statements -/
theorem ws_seq (h : WS M ts ρ (fun ρ' => WS M us ρ' nx rt bk ct) rt bk ct) : WS M (tSeq ts us) ρ nx rt bk ct := fun σ F H E e f1 f2 f3 f4 =>
  h σ F H ⟨us E, E.rt, E.bk, E.ct⟩ e (fun ρ' σ' F' H' s e' h' => h' σ' F' H' E e' (fun ρ2 σ2 F2 H2 s2 => f1 ρ2 σ2 F2 H2 (s.trans s2)) f2 (fun ρ2 σ2 F2 H2 s2 => f3 ρ2 σ2 F2 H2 (s.trans s2)) (fun ρ2 σ2 F2 H2 s2 => f4 ρ2 σ2 F2 H2 (s.trans s2))) f2 f3 f4
theorem ws_next (h : nx ρ) : WS M tNext ρ nx rt bk ct := fun σ F H E e f1 f2 f3 f4 => f1 ρ σ F H (Same.refl F) e h
theorem ws_break (h : bk ρ) : WS M tBreak ρ nx rt bk ct := fun σ F H E e f1 f2 f3 f4 => f3 ρ σ F H (Same.refl F) e h
theorem ws_cont (h : ct ρ) : WS M tCont ρ nx rt bk ct := fun σ F H E e f1 f2 f3 f4 => f4 ρ σ F H (Same.refl F) e h
theorem ws_ret (h : WE M te ρ fun d => rt (.d d) ρ) : WS M (tRet te) ρ nx rt bk ct := fun σ F H E e f1 f2 f3 f4 => h σ F H _ e fun v d F' H' x r q => f2 v (.d d) ρ σ F' H' (e.step x) r q
theorem ws_retN (h : rt (.d .non) ρ) : WS M tRetN ρ nx rt bk ct := fun σ F H E e f1 f2 f3 f4 => f2 _ (.d .non) ρ σ F H e .non h
/-- a thing of its own is told -/
theorem ws_retS {s : Sl} (hx : ρ[i]? = some (some s)) (h : rt s ρ) : WS M (tRet (tVar i)) ρ nx rt bk ct := fun σ F H E e f1 f2 f3 f4 => by
  obtain ⟨v, h1, h2⟩ := e.each i _ hx
  exact ⟨v, h1, f2 v s ρ σ F H e h2 h⟩

theorem ws_if (h : WT M t ρ fun b => if b = true then WS M ts ρ nx rt bk ct else WS M us ρ nx rt bk ct) : WS M (tIfS t ts us) ρ nx rt bk ct := fun σ F H E e f1 f2 f3 f4 =>
  h σ F H _ e fun b F1 H1 x1 h1 => by
    have g1 := fun ρ2 σ2 F2 H2 s2 => f1 ρ2 σ2 F2 H2 (x1.ff.trans s2)
    have g3 := fun ρ2 σ2 F2 H2 s2 => f3 ρ2 σ2 F2 H2 (x1.ff.trans s2)
    have g4 := fun ρ2 σ2 F2 H2 s2 => f4 ρ2 σ2 F2 H2 (x1.ff.trans s2)
    cases b with
    | true => exact iteT ((show WS M ts ρ nx rt bk ct from h1) σ F1 H1 E (e.step x1) g1 f2 g3 g4)
    | false => exact iteF ((show WS M us ρ nx rt bk ct from h1) σ F1 H1 E (e.step x1) g1 f2 g3 g4)
theorem ws_drop (h : WB M te ρ fun _ => nx ρ) : WS M (tDrop te) ρ nx rt bk ct := fun σ F H E e f1 f2 f3 f4 => h σ F H _ e fun v d F' H' x r q => f1 ρ σ F' H' x.ff (e.step x) q
theorem ws_asg {g : TG} (h : WE M te ρ fun d => WG M (fun _ => True) g d ρ nx) : WS M (tAsg te g) ρ nx rt bk ct := fun σ F H E e f1 f2 f3 f4 => h σ F H _ e fun v d F1 H1 x1 r1 h1 => h1 v σ F1 H1 _ (e.step x1) r1 fun ρ' σ' F' H' x2 e2 _ _ _ q => f1 ρ' σ' F' H' (x1.trans x2).ff e2 q
/-- x = e, a new list that will change -/
theorem ws_setO (h : WO M te ρ fun l => nx (ρ.set i (some (.own l)))) : WS M (tAsg te (gName i)) ρ nx rt bk ct := fun σ F H E e f1 f2 f3 f4 => h σ F H _ e fun p vs l F1 H1 x1 h1 h2 h3 h4 q => by
  have e1 := e.step x1
  refine f1 _ _ F1 H1 x1.ff (e1.putO (i := i) (v := .ref p) (s0 := .own l) ⟨p, vs, rfl, h1, h2, e.x.ext.hh.free h3, h4⟩ fun j s hj hs m z => ?_) q
  obtain ⟨v, q1, q2⟩ := e.each j s hs
  obtain ⟨p', o, rfl, h5, _⟩ := q2.mine_at m
  rw [z] at q1
  cases q1
  rw [h3] at h5
  cases h5
theorem wg_name (s : S i) (h : kr (ρ.set i (some (.d d)))) : WG M S (gName i) d ρ kr := fun v σ F H Q e r f => f _ _ F H (XE.refl e.gd) (e.put r) (by simp) (fun j hj => List.getElem?_set_ne (fun z => by subst z; exact hj s)) (fun j s hj m => by
  rw [List.getElem?_set] at hj
  by_cases z : i = j
  · subst z
    rw [if_pos rfl] at hj
    by_cases w : i < ρ.length
    · rw [if_pos w] at hj
      cases hj
      cases m
    · rw [if_neg w] at hj
      cases hj
  · rw [if_neg z] at hj
    exact ⟨hj, List.getElem?_set_ne z⟩) h
theorem wg_tup {n : Nat} {g : TGs} (hn : l.length = n) (h : WGs M S g l ρ kr) : WG M S (gTup M.K n g) (.tup l) ρ kr := fun v σ F H Q e r f => by
  cases r with
  | tup a b => exact ⟨_, _, rfl, sqT_mono e.gd.sub a, by rw [b.len]; exact hn, h _ σ F H Q e b f⟩
theorem wg_stn {n : Nat} {g : TGs} {ns : List Int} (hn : ns.length = n) (h : WGs M S g (ns.map D.int) ρ kr) : WG M S (gTup M.K n g) (.stn ns) ρ kr := fun v σ F H Q e r f => by
  cases r with
  | stn a => exact ⟨_, _, rfl, .inl (.inl (e.gd.sub _ _ a)), by rw [List.length_map]; exact hn, h _ σ F H Q e (RA.ofInts ns) f⟩
theorem wgs_nil (h : kr ρ) : WGs M S gNil [] ρ kr := fun vs σ F H Q e r f => by
  cases r
  exact ⟨rfl, f ρ σ F H (XE.refl e.gd) e rfl (fun _ _ => rfl) (fun _ _ a _ => ⟨a, rfl⟩) h⟩
theorem wgs_cons {g : TG} {gs : TGs} (h : WG M S g d ρ fun ρ' => WGs M S gs l ρ' kr) : WGs M S (gCons g gs) (d :: l) ρ kr := fun vs σ F H Q e r f => by
  cases r with
  | cons a b => exact ⟨_, _, rfl, h _ σ F H _ e a fun ρ1 σ1 F1 H1 x1 e1 l1 s1 o1 h1 => h1 _ σ1 F1 H1 Q e1 (b.mono x1.ff) fun ρ2 σ2 F2 H2 x2 e2 l2 s2 o2 => f ρ2 σ2 F2 H2 (x1.trans x2) e2 (l2.trans l1) (fun j hj => (s2 j hj).trans (s1 j hj)) fun j s a m => ⟨(o1 j s (o2 j s a m).1 m).1, (o2 j s a m).2.trans (o1 j s (o2 j s a m).1 m).2⟩⟩
theorem wgs_nilM (h : kr ρ) : WGs M S gNil (([] : List Int).map D.int) ρ kr := wgs_nil h
theorem wgs_consM {g : TG} {gs : TGs} {a : Int} {ns : List Int} (h : WG M S g (.int a) ρ fun ρ' => WGs M S gs (ns.map D.int) ρ' kr) : WGs M S (gCons g gs) ((a :: ns).map D.int) ρ kr := wgs_cons h
/-- x op= e -/
theorem ws_aug {ti : TIp} (hx : ρ[i]? = some (some (.d d))) (h : WB M te ρ fun e => OP M ti d e fun z => nx (ρ.set i (some (.d z)))) : WS M (tAug i te ti) ρ nx rt bk ct := fun σ F H E e f1 f2 f3 f4 => by
  obtain ⟨v, h1, h2⟩ := e.each i _ hx
  refine ⟨v, h1, h σ F H _ e fun y d2 F1 H1 x1 r1 q1 => q1 F1 H1 v y _ x1.gd (.inl (R.mono x1.ff h2)) r1 fun z d3 F2 H2 x2 r2 q2 => f1 _ _ F2 H2 (x1.trans x2).ff ((e.step (x1.trans x2)).put r2) q2⟩
theorem op_ip {f : Int → Int → Int} {m n : Int} (q : k (.int (f m n))) : OP M (ipI f) (.int m) (.int n) k := fun F H x y Q g0 rx ry f => by
  cases rx.int
  cases ry.int
  exact ⟨m, n, rfl, rfl, f _ _ F H (XE.refl g0) (.int _) q⟩
/-- a list, a dict of its own becomes data -/
theorem ws_frz (hx : ρ[i]? = some (some (.own l))) (h : WS M ts (ρ.set i (some (.d (.lst l)))) nx rt bk ct) : WS M ts ρ nx rt bk ct := fun σ F H E e f1 f2 f3 f4 => by
  obtain ⟨v, h1, p, vs, rfl, h2, h3, h4, h5⟩ := e.each i _ hx
  have s := same_upd (o := HO.lst vs) h3
  exact h σ _ H E (e.frz hx rfl h1 h2 h3 h4 (.lst (.inl (.inl upd_same)) (h5.mono s))) (fun ρ2 σ2 F2 H2 s2 => f1 ρ2 σ2 F2 H2 (s.trans s2)) f2 (fun ρ2 σ2 F2 H2 s2 => f3 ρ2 σ2 F2 H2 (s.trans s2)) (fun ρ2 σ2 F2 H2 s2 => f4 ρ2 σ2 F2 H2 (s.trans s2))
theorem ws_frzK {ks : List Key} (hx : ρ[i]? = some (some (.ownK ks l))) (h : WS M ts (ρ.set i (some (.d (.dic ks l)))) nx rt bk ct) : WS M ts ρ nx rt bk ct := fun σ F H E e f1 f2 f3 f4 => by
  obtain ⟨v, h1, p, vs, rfl, h2, h6, h3, h4, h5⟩ := e.each i _ hx
  have s := same_upd (o := HO.dK (ks.zip vs)) h3
  exact h σ _ H E (e.frz hx rfl h1 h2 h3 h4 (.dic upd_same h6 (h5.mono s))) (fun ρ2 σ2 F2 H2 s2 => f1 ρ2 σ2 F2 H2 (s.trans s2)) f2 (fun ρ2 σ2 F2 H2 s2 => f3 ρ2 σ2 F2 H2 (s.trans s2)) (fun ρ2 σ2 F2 H2 s2 => f4 ρ2 σ2 F2 H2 (s.trans s2))
theorem ws_frzT {ks : List (List Key)} (hx : ρ[i]? = some (some (.ownT ks l))) (h : WS M ts (ρ.set i (some (.d (.dit ks l)))) nx rt bk ct) : WS M ts ρ nx rt bk ct := fun σ F H E e f1 f2 f3 f4 => by
  obtain ⟨v, h1, p, vs, rfl, h2, h6, h3, h4, h5⟩ := e.each i _ hx
  have s := same_upd (o := HO.dT (ks.zip vs)) h3
  exact h σ _ H E (e.frz hx rfl h1 h2 h3 h4 (.dit upd_same h6 (h5.mono s))) (fun ρ2 σ2 F2 H2 s2 => f1 ρ2 σ2 F2 H2 (s.trans s2)) f2 (fun ρ2 σ2 F2 H2 s2 => f3 ρ2 σ2 F2 H2 (s.trans s2)) (fun ρ2 σ2 F2 H2 s2 => f4 ρ2 σ2 F2 H2 (s.trans s2))
/-- what is asked of a method of a list of its own: the list at p is l, behind it l' -/
def MO (M : Cm) (r : V → List V → Hp → VK → Prop) (l : List D) (ds : List D) (k : List D → D → Prop) : Prop := ∀ F H p vs us Q, Gd M.st F H → Dl M.st H p = some (.lst vs) → F p = none → RL M F vs l → RL M F us ds →
  (∀ vs' l' v d, RL M F vs' l' → RV M F v d → k l' d → Q v (upd H p (.lst vs'))) → r (.ref p) us H Q
theorem ws_mt {r : V → List V → Hp → VK → Prop} (hx : ρ[i]? = some (some (.own l))) (h : WA M tr ρ fun ds => MO M r l ds fun l' _ => nx (ρ.set i (some (.own l')))) : WS M (tDrop (tBM M.K "list" r (tVar i) tr)) ρ nx rt bk ct := fun σ F H E e f1 f2 f3 f4 => by
  obtain ⟨v, h1, p, vs, rfl, h2, h3, h4, h5⟩ := e.each i _ hx
  refine ⟨_, h1, tyV_lst (Dl_sub _ _ h2), h σ F H _ e fun us ds F1 H1 x1 r1 q => ?_⟩
  have e1 := e.step x1
  have h2' := x1.ext.hh _ _ h2
  have h3' := x1.ext.fr p _ h2 rfl h3
  refine q F1 H1 p vs us _ x1.gd h2' h3' (h5.mono x1.ff) r1 fun vs' l' v d r2 r3 q => ?_
  exact f1 _ σ F1 _ x1.ff (e1.chg hx rfl h1 h2' h3' h4 (s1 := .own l') ⟨p, _, rfl, by rw [Dl_upd (Dl_ne h2')]; exact upd_same, h3', h4, r2⟩) q
theorem ws_mt0 {r : V → List V → Hp → VK → Prop} (hx : ρ[i]? = some (some (.own l))) (h : MO M r l [] fun l' _ => nx (ρ.set i (some (.own l')))) : WS M (tDrop (tBM0 M.K "list" r (tVar i))) ρ nx rt bk ct := fun σ F H E e f1 f2 f3 f4 => by
  obtain ⟨v, h1, p, vs, rfl, h2, h3, h4, h5⟩ := e.each i _ hx
  refine ⟨_, h1, tyV_lst (Dl_sub _ _ h2), ?_⟩
  refine h F H p vs [] _ e.gd h2 h3 h5 .nil fun vs' l' v d r2 r3 q => ?_
  exact f1 _ σ F _ (Same.refl F) (e.chg hx rfl h1 h2 h3 h4 (s1 := .own l') ⟨p, _, rfl, by rw [Dl_upd (Dl_ne h2)]; exact upd_same, h3, h4, r2⟩) q
/-- y = xs.pop(), y = xs.pop(e) -/
theorem ws_mtS {r : V → List V → Hp → VK → Prop} {j : Nat} (hx : ρ[i]? = some (some (.own l))) (h : WA M tr ρ fun ds => MO M r l ds fun l' d => nx ((ρ.set i (some (.own l'))).set j (some (.d d)))) : WS M (tAsg (tBM M.K "list" r (tVar i) tr) (gName j)) ρ nx rt bk ct := fun σ F H E e f1 f2 f3 f4 => by
  obtain ⟨v, h1, p, vs, rfl, h2, h3, h4, h5⟩ := e.each i _ hx
  refine ⟨_, h1, tyV_lst (Dl_sub _ _ h2), h σ F H _ e fun us ds F1 H1 x1 r1 q => ?_⟩
  have e1 := e.step x1
  have h2' := x1.ext.hh _ _ h2
  have h3' := x1.ext.fr p _ h2 rfl h3
  refine q F1 H1 p vs us _ x1.gd h2' h3' (h5.mono x1.ff) r1 fun vs' l' v d r2 r3 q => ?_
  exact f1 _ _ F1 _ x1.ff ((e1.chg hx rfl h1 h2' h3' h4 (s1 := .own l') ⟨p, _, rfl, by rw [Dl_upd (Dl_ne h2')]; exact upd_same, h3', h4, r2⟩).put r3) q
theorem ws_mt0S {r : V → List V → Hp → VK → Prop} {j : Nat} (hx : ρ[i]? = some (some (.own l))) (h : MO M r l [] fun l' d => nx ((ρ.set i (some (.own l'))).set j (some (.d d)))) : WS M (tAsg (tBM0 M.K "list" r (tVar i)) (gName j)) ρ nx rt bk ct := fun σ F H E e f1 f2 f3 f4 => by
  obtain ⟨v, h1, p, vs, rfl, h2, h3, h4, h5⟩ := e.each i _ hx
  refine ⟨_, h1, tyV_lst (Dl_sub _ _ h2), ?_⟩
  refine h F H p vs [] _ e.gd h2 h3 h5 .nil fun vs' l' v d r2 r3 q => ?_
  exact f1 _ _ F _ (Same.refl F) ((e.chg hx rfl h1 h2 h3 h4 (s1 := .own l') ⟨p, _, rfl, by rw [Dl_upd (Dl_ne h2)]; exact upd_same, h3, h4, r2⟩).put r3) q
theorem mo_app {kk : List D → D → Prop} (hl : l.length < 100000) (q : kk (l ++ [d]) .non) : MO M rAppend l [d] kk := fun F H p vs us Q g hp fp r1 r2 f => by
  cases r2 with
  | cons a b =>
    cases b
    exact s_app (Dl_sub _ _ hp) (by rw [r1.len]; exact hl) (f _ _ _ _ (r1.app (.cons a .nil)) .non q)
theorem mo_ext {kk : List D → D → Prop} {m : List D} (hl : l.length + m.length ≤ 100000) (q : kk (l ++ m) .non) : MO M (rExtendS M.K) l [.lst m] kk := fun F H p vs us Q g hp fp r1 r2 f => by
  cases r2 with
  | cons a b =>
    cases b
    cases a with
    | lst h1 h2 => exact ⟨p, _, vs, _, rfl, rfl, Dl_sub _ _ hp, sqL_mono g.sub h1, by rw [r1.len, h2.len]; exact hl, f _ _ _ _ (r1.app h2) .non q⟩
theorem mo_pop {kk : List D → D → Prop} (hl : l[l.length - 1]? = some d) (q : kk l.dropLast d) : MO M rPop l [] kk := fun F H p vs us Q g hp fp r1 r2 f => by
  cases r2
  rw [← r1.len] at hl
  obtain ⟨v, h1, h2⟩ := r1.get hl
  refine ⟨p, vs, v, rfl, rfl, Dl_sub _ _ hp, h1, f _ _ _ _ ?_ h2 q⟩
  rw [List.dropLast_eq_take, List.dropLast_eq_take, r1.len]
  exact r1.take _
theorem RA.erase {F : Hp} : ∀ {vs : List V} {l : List D} (n : Nat), RL M F vs l → RL M F (vs.eraseIdx n) (l.eraseIdx n)
  | _, _, _, .nil => .nil
  | _, _, 0, .cons _ b => b
  | _, _, n + 1, .cons a b => .cons a (RA.erase n b)
theorem mo_popAt {kk : List D → D → Prop} {m : Int} {j : Nat} (h1 : -(2 ^ 63) ≤ m ∧ m < 2 ^ 63) (hj : seqIndex? m l.length = some j) (hl : l[j]? = some d) (q : kk (l.eraseIdx j) d) : MO M rPopAt l [.int m] kk := fun F H p vs us Q g hp fp r1 r2 f => by
  cases r2 with
  | cons a b =>
    cases b
    cases a
    obtain ⟨v, h3, h4⟩ := r1.get hl
    exact ⟨p, vs, m, j, v, rfl, rfl, Dl_sub _ _ hp, h1.1, h1.2, by rw [r1.len]; exact hj, h3, f _ _ _ _ (RA.erase j r1) h4 q⟩
theorem mo_clear {kk : List D → D → Prop} (q : kk [] .non) : MO M rClear l [] kk := fun F H p vs us Q g hp fp r1 r2 f => by
  cases r2
  exact ⟨p, vs, rfl, rfl, Dl_sub _ _ hp, f _ _ _ _ .nil .non q⟩
/-- xs[j] = e -/
theorem ws_setItem (hx : ρ[i]? = some (some (.own l))) (h : WE M te ρ fun d => WE M tb ρ fun e => ∃ m j, e = .int m ∧ ixN l.length m = some j ∧ nx (ρ.set i (some (.own (l.set j d))))) : WS M (tAsg te (gSub (tVar i) tb rSetL)) ρ nx rt bk ct := fun σ F H E e f1 f2 f3 f4 => by
  refine h σ F H _ e fun v d F1 H1 x1 r1 h1 => ?_
  have e1 := e.step x1
  obtain ⟨v', h2, p, vs, rfl, h3, h4, h5, h6⟩ := e1.each i _ hx
  refine ⟨_, h2, h1 σ F1 H1 _ e1 fun w d2 F2 H2 x2 r2 ⟨m, j, z, hj, q⟩ => ?_⟩
  subst z
  cases r2
  have e2 := e1.step x2
  have h3' := x2.ext.hh _ _ h3
  have h4' := x2.ext.fr p _ h3 rfl h4
  have h6' := RA.mono x2.ff h6
  refine ⟨p, vs, m, j, rfl, rfl, Dl_sub _ _ h3', by rw [h6.len]; exact hj, ?_⟩
  exact f1 _ σ F2 _ (x1.trans x2).ff (e2.chg hx rfl h2 h3' h4' h5 (s1 := .own (l.set j d)) ⟨p, _, rfl, by rw [Dl_upd (Dl_ne h3')]; exact upd_same, h4', h5, h6'.set j (r1.mono x2.ff)⟩) q
/-- xs[j] op= e -/
theorem ws_augItem {ti : TIp} (hx : ρ[i]? = some (some (.own l))) (h : WE M tb ρ fun e => ∃ m j d, e = .int m ∧ ixN l.length m = some j ∧ l[j]? = some d ∧ WE M te ρ fun y => OP M ti d y fun z => nx (ρ.set i (some (.own (l.set j z))))) : WS M (tAugS (tVar i) tb te (rIxL M.K) ti rSetL) ρ nx rt bk ct := fun σ F H E e f1 f2 f3 f4 => by
  obtain ⟨v', h2, p, vs, rfl, h3, h4, h5, h6⟩ := e.each i _ hx
  refine ⟨_, h2, h σ F H _ e fun w d2 F1 H1 x1 r1 ⟨m, j, d, z, hj, hd, h7⟩ => ?_⟩
  subst z
  cases r1
  have e1 := e.step x1
  have a3 := x1.ext.hh _ _ h3
  have a4 := x1.ext.fr p _ h3 rfl h4
  have a6 := RA.mono x1.ff h6
  obtain ⟨u, hu, ru⟩ := a6.get hd
  refine ⟨p, vs, m, u, rfl, rfl, .inl (.inl (Dl_sub _ _ a3)), ?_, ?_⟩
  · unfold atI
    rw [a6.len, hj]
    exact hu
  refine h7 σ F1 H1 _ e1 fun y dy F2 H2 x2 r2 q => ?_
  refine q F2 H2 u y _ x2.gd (.inl (ru.mono x2.ff)) (.inl r2) fun z dz F3 H3 x3 r3 q3 => ?_
  have x23 := x2.trans x3
  have e3 := e1.step x23
  have b3 := x23.ext.hh _ _ a3
  have b4 := x23.ext.fr p _ a3 rfl a4
  refine ⟨p, vs, m, j, rfl, rfl, Dl_sub _ _ b3, by rw [h6.len]; exact hj, ?_⟩
  exact f1 _ σ F3 _ (x1.trans x23).ff (e3.chg hx rfl h2 b3 b4 h5 (s1 := .own (l.set j dz)) ⟨p, _, rfl, by rw [Dl_upd (Dl_ne b3)]; exact upd_same, b4, h5, (a6.mono x23.ff).set j r3⟩) q3
/-! ### walks -/
theorem wi_seqL (h : WE M te ρ fun d => ∃ l, d = .lst l ∧ ka l) : WI M (iSeq M.K te) ρ ka := fun σ F H Q e f => h σ F H _ e fun v d F1 H1 x1 r1 ⟨l, z, q⟩ => by
  subst z
  cases r1 with
  | @lst a vs _ h1 h2 =>
    refine .inl ⟨a, rfl, ⟨vs, sqL_mono x1.gd.sub h1⟩, f _ l F1 H1 x1 ⟨_, _, by rw [← h2.len]; exact walk_list, fun F' H' s g => sqL_mono (s.trans g.sub) h1, fun i x Fa Ha Hb d s g y hd => ?_⟩ q⟩
    obtain ⟨rfl, hv⟩ := y
    obtain ⟨d', e1, e2⟩ := h2.at hv
    rw [hd] at e1
    cases e1
    exact ⟨Fa, XE.refl g, e2.mono s⟩
theorem wi_seqT (h : WE M te ρ fun d => ∃ l, d = .tup l ∧ ka l) : WI M (iSeq M.K te) ρ ka := fun σ F H Q e f => h σ F H _ e fun v d F1 H1 x1 r1 ⟨l, z, q⟩ => by
  subst z
  cases r1 with
  | @tup a vs _ h1 h2 =>
    refine .inr ⟨a, rfl, ⟨vs, sqT_mono x1.gd.sub h1⟩, f _ l F1 H1 x1 ⟨_, _, by rw [← h2.len]; exact walk_tup, fun F' H' s g => sqT_mono (s.trans g.sub) h1, fun i x Fa Ha Hb d s g y hd => ?_⟩ q⟩
    obtain ⟨rfl, hv⟩ := y
    obtain ⟨d', e1, e2⟩ := h2.at hv
    rw [hd] at e1
    cases e1
    exact ⟨Fa, XE.refl g, e2.mono s⟩
theorem wv_seqB (h : WB M te ρ fun d => ∃ l, d = .lst l ∧ ka l) : WV M (iSeq M.K te) ρ ka := fun σ F H Q e f => h σ F H _ e fun v d F1 H1 x1 r1 ⟨l, z, q⟩ => by
  subst z
  rcases r1 with h | ⟨p, vs, l', rfl, z, h1, h2⟩ | ⟨p, ks, vs, l', rfl, z, h1, h3, h2⟩ | ⟨p, ks, vs, l', rfl, z, h1, h3, h2⟩
  · cases h with
    | @lst a vs _ h1 h2 =>
      refine .inl ⟨a, rfl, ⟨vs, sqL_mono x1.gd.sub h1⟩, f _ l F1 H1 x1 ⟨_, _, by rw [← h2.len]; exact walk_list, fun F' H' s => sqL_mono (s.ff.trans s.gd.sub) h1, fun i x Fa Ha Hb d s y hd => ?_⟩ q⟩
      obtain ⟨rfl, hv⟩ := y
      obtain ⟨d', e1, e2⟩ := h2.at hv
      rw [hd] at e1
      cases e1
      exact ⟨Fa, XE.refl s.gd, e2.mono s.ff⟩
  · cases z
    refine .inl ⟨p, rfl, ⟨vs, .inl (.inl (Dl_sub _ _ h1))⟩, f _ l F1 H1 x1 ⟨fun H => SqL M.K H p vs, _, by rw [← h2.len]; exact walk_list, fun F' H' s => .inl (.inl (Dl_sub _ _ (s.ext.hh _ _ h1))), fun i x Fa Ha Hb d s y hd => ?_⟩ q⟩
    obtain ⟨rfl, hv⟩ := y
    obtain ⟨d', e1, e2⟩ := h2.at hv
    rw [hd] at e1
    cases e1
    exact ⟨Fa, XE.refl s.gd, e2.mono s.ff⟩
  · cases z
  · cases z
def rngD (n : Nat) : List D := (List.range n).map fun (i : Nat) => D.int (i : Int)
theorem rngD_len (n : Nat) : (rngD n).length = n := by simp [rngD]
theorem rngD_at {n i : Nat} {d : D} (h : (rngD n)[i]? = some d) : i < n ∧ d = .int (i : Int) := by
  unfold rngD at h
  rw [List.getElem?_map] at h
  by_cases z : i < n
  · rw [List.getElem?_range z] at h
    cases h
    exact ⟨z, rfl⟩
  · rw [List.getElem?_eq_none (by simpa using z)] at h
    cases h
theorem wi_rng1 (h : WAB M tr ρ fun ds => ∃ m : Int, ds = [.int m] ∧ -1000000 ≤ m ∧ m ≤ 1000000 ∧ ka (rngD m.toNat)) : WI M (iRng1 tr) ρ ka := fun σ F H Q e f => h σ F H _ e fun vs ds F1 H1 x1 r1 ⟨m, z, h1, h2, q⟩ => by
  subst z
  obtain ⟨v, rfl, r⟩ := rbs1 r1
  cases r.int
  refine s_rngI ⟨h1, h2⟩ (f _ (rngD m.toNat) F1 H1 x1 ⟨_, _, by rw [rngD_len]; exact walk_range, fun _ _ _ _ => trivial, fun i x Fa Ha Hb d s g y hd => ?_⟩ q)
  obtain ⟨rfl, rfl⟩ := y
  obtain ⟨_, rfl⟩ := rngD_at hd
  refine ⟨Fa, XE.refl g, ?_⟩
  simp only [Int.zero_add]
  exact .int _
def rngD2 (a b : Int) : List D := (List.range (b - a).toNat).map fun (i : Nat) => D.int (a + (i : Int))
theorem rngD2_len (a b : Int) : (rngD2 a b).length = (b - a).toNat := by simp [rngD2]
theorem rngD2_at {a b : Int} {i : Nat} {d : D} (h : (rngD2 a b)[i]? = some d) : i < (b - a).toNat ∧ d = .int (a + (i : Int)) := by
  unfold rngD2 at h
  rw [List.getElem?_map] at h
  by_cases z : i < (b - a).toNat
  · rw [List.getElem?_range z] at h
    cases h
    exact ⟨z, rfl⟩
  · rw [List.getElem?_eq_none (by simpa using z)] at h
    cases h
def zipD (l m : List D) : List D := List.zipWith (fun a b => D.tup [a, b]) l m
theorem yp {F : Hp} {f g : Nat → Option V} {i : Nat} {x : V} {Fa Ha Hb : Hp} {a b : D} (gd : Gd M.st Fa Ha) (y : YPair f g i Ha x Hb) (ha : ∀ v, f i = some v → RV M Fa v a) (hb : ∀ v, g i = some v → RV M Fa v b) : ∃ Fb, XM M Fa Ha Fb Hb ∧ RV M Fb x (.tup [a, b]) := by
  obtain ⟨T, u, w, rfl, nT, rfl, h1, h2⟩ := y
  have s := same_upd (o := HO.tup [u, w]) (sub_none gd.sub nT)
  exact ⟨upd Fa T (.tup [u, w]), (XE.refl gd).new nT, .tup (.inl (.inl upd_same)) (.cons ((ha u h1).mono s) (.cons ((hb w h2).mono s) .nil))⟩
/-- a sequence: a list or not, its items -/
@[reducible] def isSq : D → Option (Bool × List D)
  | .lst l => some (true, l)
  | .tup l => some (false, l)
  | .stn ns => some (false, ns.map D.int)
  | .ixt ns => some (false, ns.map D.int)
  | _ => none
theorem RV.sqb {F : Hp} {v : V} {d : D} {j : Bool} {l : List D} (h : RV M F v d) (e : isSq d = some (j, l)) : ∃ a vs, v = .ref a ∧ SqB j M.K F a vs ∧ RL M F vs l := by
  cases h with
  | lst a b => cases e; exact ⟨_, _, rfl, a, b⟩
  | tup a b => cases e; exact ⟨_, _, rfl, a, b⟩
  | stn a => cases e; exact ⟨_, _, rfl, .inl (.inl a), RA.ofInts _⟩
  | ixt a _ => cases e; exact ⟨_, _, rfl, .inl (.inr ⟨_, a⟩), RA.ofInts _⟩
  | _ => cases e
theorem sqB_mono {K : PySem.W.Frag} {F H : Hp} {j : Bool} {a : Addr} {vs : List V} (s : Same F H) (h : SqB j K F a vs) : SqB j K H a vs := by
  cases j with
  | true => exact sqL_mono s h
  | false => exact sqT_mono s h
theorem wi_zip (h : WA M tr ρ fun ds => ∃ a b j n l m, ds = [a, b] ∧ isSq a = some (j, l) ∧ isSq b = some (n, m) ∧ ka (zipD l m)) : WI M (iZipM M.K tr) ρ ka := fun σ F H Q e f => h σ F H _ e fun vs ds F1 H1 x1 r1 ⟨da, db, j, n, l, m, z, sa, sb, q⟩ => by
  subst z
  cases r1 with
  | cons ra rb =>
    cases rb with
    | cons rb rc =>
      cases rc
      obtain ⟨a, xs, rfl, a1, a2⟩ := RV.sqb ra sa
      obtain ⟨b, ys, rfl, b1, b2⟩ := RV.sqb rb sb
      refine ⟨j, n, a, b, xs, ys, rfl, sqB_mono x1.gd.sub a1, sqB_mono x1.gd.sub b1, f _ (zipD l m) F1 H1 x1 ⟨_, _, walk_zipM (xs := xs) (ys := ys) (by rw [a2.len, b2.len]; simp [zipD]), fun F' H' s g => ⟨sqB_mono (s.trans g.sub) a1, sqB_mono (s.trans g.sub) b1⟩, fun i x Fa Ha Hb d s g y hd => ?_⟩ q⟩
      unfold zipD at hd
      rw [List.getElem?_zipWith] at hd
      cases hl : l[i]? with
      | none => rw [hl] at hd; cases hd
      | some c =>
        cases hm : m[i]? with
        | none => rw [hl, hm] at hd; cases hd
        | some d' =>
          rw [hl, hm] at hd
          cases hd
          refine yp (F := F1) g y (fun v hv => ?_) fun v hv => ?_
          · obtain ⟨d2, e1, e2⟩ := a2.at hv
            rw [hl] at e1
            cases e1
            exact e2.mono s
          · obtain ⟨d2, e1, e2⟩ := b2.at hv
            rw [hm] at e1
            cases e1
            exact e2.mono s
theorem wi_sq (h : WE M te ρ fun d => ∃ j l, isSq d = some (j, l) ∧ ka l) : WI M (iSeq M.K te) ρ ka := fun σ F H Q e f => h σ F H _ e fun v d F1 H1 x1 r1 ⟨j, l, z, q⟩ => by
  obtain ⟨a, vs, rfl, h1, h2⟩ := RV.sqb r1 z
  have key : ∀ (i : Nat) x Fa Ha Hb d, Same F1 Fa → Gd M.st Fa Ha → YAt vs i Ha x Hb → l[i]? = some d → ∃ Fb, XM M Fa Ha Fb Hb ∧ RV M Fb x d := fun i x Fa Ha Hb d s g y hd => by
    obtain ⟨rfl, hv⟩ := y
    obtain ⟨d', e1, e2⟩ := h2.at hv
    rw [hd] at e1
    cases e1
    exact ⟨Fa, XE.refl g, e2.mono s⟩
  cases j with
  | true => exact .inl ⟨a, rfl, ⟨vs, sqL_mono x1.gd.sub h1⟩, f _ l F1 H1 x1 ⟨_, _, by rw [← h2.len]; exact walk_list, fun F' H' s g => sqL_mono (s.trans g.sub) h1, key⟩ q⟩
  | false => exact .inr ⟨a, rfl, ⟨vs, sqT_mono x1.gd.sub h1⟩, f _ l F1 H1 x1 ⟨_, _, by rw [← h2.len]; exact walk_tup, fun F' H' s g => sqT_mono (s.trans g.sub) h1, key⟩ q⟩
def enumD (l : List D) : List D := l.mapIdx fun i d => D.tup [.int (i : Int), d]
theorem wi_enum (h : WA M tr ρ fun ds => ∃ l, ds = [.lst l] ∧ ka (enumD l)) : WI M (iEnum M.K tr) ρ ka := fun σ F H Q e f => h σ F H _ e fun vs ds F1 H1 x1 r1 ⟨l, z, q⟩ => by
  subst z
  cases r1 with
  | cons ra rb =>
    cases rb
    cases ra with
    | @lst a xs _ a1 a2 =>
      refine ⟨a, xs, rfl, sqL_mono x1.gd.sub a1, f _ (enumD l) F1 H1 x1 ⟨_, _, by rw [show (enumD l).length = xs.length by simp [enumD, a2.len]]; exact walk_enum, fun F' H' s g => sqL_mono (s.trans g.sub) a1, fun i x Fa Ha Hb d s g y hd => ?_⟩ q⟩
      unfold enumD at hd
      rw [List.getElem?_mapIdx] at hd
      cases hl : l[i]? with
      | none => rw [hl] at hd; cases hd
      | some c =>
        rw [hl] at hd
        cases hd
        refine yp (F := F1) g y (fun v hv => ?_) fun v hv => ?_
        · cases hv
          exact .int _
        · obtain ⟨d2, e1, e2⟩ := a2.at hv
          rw [hl] at e1
          cases e1
          exact e2.mono s
/-! ### loops -/
theorem ws_for {wi : TI} {g : TG} {tb : TS} (h : WI M wi ρ fun l => ∃ I : Nat → Rho → Prop, I 0 ρ ∧ (∀ (i : Nat) d ρ', l[i]? = some d → I i ρ' → WG M (fun _ => True) g d ρ' fun ρ2 => WS M tb ρ2 (I (i + 1)) rt nx (I (i + 1))) ∧ ∀ ρ', I l.length ρ' → nx ρ') : WS M (tFor wi g tb) ρ nx rt bk ct := fun σ F H E e f1 f2 f3 f4 =>
  h σ F H _ e fun J l F1 H1 x1 ⟨G, Y, w1, w2, w3⟩ ⟨I, h0, hs, hd⟩ => by
    refine for_w w1 (nx := E.nx) (Q := E.rt) (fun i σ' H' => ∃ ρ' F', Same F1 F' ∧ Fr M ρ' σ' F' H' ∧ I i ρ') ⟨ρ, F1, Same.refl _, e.step x1, h0⟩ ?_ ?_ ?_
    · rintro i σ' H' _ ⟨ρ', F', s, e', _⟩
      exact w2 F' H' s e'.gd
    · rintro i x σ' H' H2 hi ⟨ρ', F', s, e', hI⟩ y
      have hl : l[i]? = some l[i] := List.getElem?_eq_getElem hi
      obtain ⟨Fb, xb, rb⟩ := w3 i x F' H' H2 _ s e'.gd y hl
      refine hs i _ ρ' hl hI x σ' Fb H2 _ (e'.step xb) rb fun ρ2 σ2 F2 H3 x2 e2 _ _ _ h2 => ?_
      refine h2 σ2 F2 H3 ⟨_, _, _, _⟩ e2 (fun ρ3 σ3 F3 H4 s3 e3 h3 => ⟨ρ3, F3, (s.trans (xb.trans x2).ff).trans s3, e3, h3⟩) f2 (fun ρ3 σ3 F3 H4 s3 e3 h3 => f1 ρ3 σ3 F3 H4 (x1.ff.trans ((s.trans (xb.trans x2).ff).trans s3)) e3 h3) fun ρ3 σ3 F3 H4 s3 e3 h3 => ⟨ρ3, F3, (s.trans (xb.trans x2).ff).trans s3, e3, h3⟩
    · rintro σ' H' ⟨ρ', F', s, e', hI⟩
      exact f1 ρ' σ' F' H' (x1.ff.trans s) e' (hd ρ' hI)
theorem ws_while {tb : TS} (I : Nat → Rho → Prop) (n : Nat) (h0 : I n ρ) (hs : ∀ n ρ', I n ρ' → WT M t ρ' fun b => if b = true then WS M tb ρ' (fun ρ2 => ∃ m, m < n ∧ I m ρ2) rt nx (fun ρ2 => ∃ m, m < n ∧ I m ρ2) else nx ρ') : WS M (tWhile t tb) ρ nx rt bk ct := fun σ F H E e f1 f2 f3 f4 => by
  refine ⟨fun m σ' H' => ∃ ρ' F', Same F F' ∧ Fr M ρ' σ' F' H' ∧ I m ρ', ⟨n, ρ, F, Same.refl F, e, h0⟩, ?_⟩
  rintro m σ' H' ⟨ρ', F', s, e', hI⟩
  refine hs m ρ' hI σ' F' H' _ e' fun b F1 H1 x1 h1 => ?_
  cases b with
  | true =>
    refine iteT ⟨fun σ2 H2 => ∃ m', m' < m ∧ ∃ ρ2 F2, Same F F2 ∧ Fr M ρ2 σ2 F2 H2 ∧ I m' ρ2, fun σ2 H2 h => h, ?_⟩
    refine (show WS M tb ρ' _ rt nx _ from h1) σ' F1 H1 ⟨_, _, _, _⟩ (e'.step x1) (fun ρ3 σ3 F3 H4 s3 e3 ⟨m', hm, h3⟩ => ⟨m', hm, ρ3, F3, (s.trans x1.ff).trans s3, e3, h3⟩) f2 (fun ρ3 σ3 F3 H4 s3 e3 h3 => f1 ρ3 σ3 F3 H4 ((s.trans x1.ff).trans s3) e3 h3) fun ρ3 σ3 F3 H4 s3 e3 ⟨m', hm, h3⟩ => ⟨m', hm, ρ3, F3, (s.trans x1.ff).trans s3, e3, h3⟩
  | false => exact iteF (f1 ρ' σ' F1 H1 (s.trans x1.ff) (e'.step x1) h1)
/-! ### comprehensions -/
theorem wipe_eq {σ σ' : L2.St} : ∀ (vs : List Nat), σ'.length = σ.length → (∀ i : Nat, ¬ i ∈ vs → σ'[i]? = (wipe σ vs)[i]?) → wipe σ' vs = wipe σ vs := fun vs hl h => by
  have none_in : ∀ (τ : L2.St) (vs : List Nat) (i : Nat), i ∈ vs → i < τ.length → (wipe τ vs)[i]? = some none := fun τ vs => by
    induction vs with
    | nil => intro i hi; cases hi
    | cons v vs ih =>
      intro i hi hl
      unfold wipe
      by_cases z : v = i
      · subst z
        rw [List.getElem?_set_self (by rw [wipe_length]; exact hl)]
      · rw [List.getElem?_set_ne z]
        rcases List.mem_cons.mp hi with rfl | hi
        · exact absurd rfl z
        · exact ih i hi hl
  have out : ∀ (τ : L2.St) (vs : List Nat) (i : Nat), i ∉ vs → (wipe τ vs)[i]? = τ[i]? := fun τ vs => by
    induction vs with
    | nil => intro i _; rfl
    | cons v vs ih =>
      intro i hi
      unfold wipe
      rw [List.getElem?_set_ne (fun z => hi (by rw [z]; exact List.mem_cons_self))]
      exact ih i fun q => hi (List.mem_cons_of_mem _ q)
  refine List.ext_getElem? fun i => ?_
  by_cases z : i ∈ vs
  · by_cases w : i < σ.length
    · rw [none_in _ _ _ z (by rw [hl]; exact w), none_in _ _ _ z w]
    · rw [List.getElem?_eq_none (by rw [wipe_length, hl]; omega), List.getElem?_eq_none (by rw [wipe_length]; omega)]
  · rw [out _ _ _ z, h i z]
/-- each element some data of a kind -/
theorem wo_lcR {wi : TI} {g : TG} {vs : List Nat} (h : WV M wi ρ fun l => l.length < 100000 ∧ ∃ P : Nat → D → Prop, (∀ (i : Nat) d, l[i]? = some d → WG M (· ∈ vs) g d (wipeR ρ vs) fun ρ' => WE M te ρ' (P i)) ∧ ∀ m : List D, m.length = l.length → (∀ (i : Nat) d, m[i]? = some d → P i d) → ka m) : WO M (tLc wi g tYes te vs) ρ ka := fun σ F H Q e f =>
  h σ F H _ e fun J l F1 H1 x1 ⟨G, Y, w1, w2, w3⟩ ⟨hn, P, hs, hd⟩ => by
    intro L hL
    have nL := x1.ok.ne hL
    have fL := sub_none x1.gd.sub hL
    have e1 := e.step x1
    refine lc_it w1 (fun i H' => ∃ F' acc ds, XM M F1 H1 F' H' ∧ F' L = none ∧ Dl M.st H' L = some (.lst acc) ∧ RL M F' acc ds ∧ ds.length = i ∧ ∀ (j : Nat) d, ds[j]? = some d → P j d) ?_ ?_ ?_ ?_
    · exact ⟨F1, [], [], (XE.refl x1.gd).mut hL, fL, by rw [Dl_upd nL]; exact upd_same, .nil, rfl, fun j d hj => by simp at hj⟩
    · rintro i H' _ ⟨F', acc, ds, x, _⟩
      exact w2 F' H' x
    · rintro i x H' H2 hi ⟨F', acc, ds, x2, fl, hl, hr, hlen, hP⟩ y
      have hli : l[i]? = some l[i] := List.getElem?_eq_getElem hi
      obtain ⟨Fb, xb, rb⟩ := w3 i x F' H' H2 _ x2 y hli
      have eb := (e1.step (x2.trans xb)).wipe vs
      refine hs i _ hli x _ Fb H2 _ eb rb fun ρ3 σ3 F3 H3 x3 e3 l3 s3 _ h3 => ?_
      refine ⟨?_, ?_⟩
      · have := wipe_eq (σ := σ) (σ' := σ3) vs (by rw [l3, wipe_length]) s3
        exact this
      · show te σ3 H3 _
        refine h3 σ3 F3 H3 _ e3 fun v d F4 H4 x4 r4 h4 => ?_
        have xb4 := xb.trans (x3.trans x4)
        have hl4 := xb4.ext.hh _ _ hl
        have fl4 := xb4.ext.fr L _ hl rfl fl
        refine ⟨acc, Dl_sub _ _ hl4, Nat.lt_of_lt_of_le (show acc.length < 100000 by rw [hr.len]; omega) (by decide), F4, acc ++ [v], ds ++ [d], ?_, fl4, ?_, (hr.mono xb4.ff).app (.cons r4 .nil), by simp [hlen], ?_⟩
        · exact (x2.trans xb4).chg hl4 (Dl_none hL) fl4
        · rw [Dl_upd nL]
          exact upd_same
        · intro j dj hj
          by_cases q : j < ds.length
          · rw [List.getElem?_append_left q] at hj
            exact hP j dj hj
          · have : j = ds.length := by
              have := (List.getElem?_eq_some_iff.mp hj).1
              simp at this
              omega
            subst this
            rw [List.getElem?_append_right (Nat.le_refl _)] at hj
            simp at hj
            rw [← hj, hlen]
            exact h4
    · rintro H' ⟨F', acc, ds, x2, fl, hl, hr, hlen, hP⟩
      exact f L acc ds F' H' (x1.trans x2) hl fl (x1.ext.hh.free (Dl_none hL)) hr (hd ds hlen hP)
/-- each element a function of the item -/
theorem wo_lc {α : Type} {wi : TI} {g : TG} {vs : List Nat} (h : WV M wi ρ fun l => l.length < 100000 ∧ ∃ (xs : List α) (f g' : α → D), l = xs.map f ∧ (∀ a ∈ xs, WG M (· ∈ vs) g (f a) (wipeR ρ vs) fun ρ' => WE M te ρ' fun d => d = g' a) ∧ ka (xs.map g')) : WO M (tLc wi g tYes te vs) ρ ka := by
  refine wo_lcR fun σ F H Q e f => h σ F H Q e fun J l F' H' x w ⟨hn, xs, e1, g', hl, hs, q⟩ => f J l F' H' x w ⟨hn, fun i d => ∃ a, xs[i]? = some a ∧ d = g' a, ?_, ?_⟩
  · intro i d hd
    subst hl
    rw [List.getElem?_map] at hd
    cases hx : xs[i]? with
    | none => rw [hx] at hd; cases hd
    | some a =>
      rw [hx] at hd
      cases hd
      have := hs a (List.mem_of_getElem? hx)
      intro v σ F H Q e r f
      exact this v σ F H Q e r fun ρ' σ' F' H' x' e' l' s' o' h' => f ρ' σ' F' H' x' e' l' s' o' (h'.mono fun d hd => ⟨a, hx, hd⟩)
  · intro m hm hP
    have : m = xs.map g' := by
      refine List.ext_getElem? fun i => ?_
      cases hv : m[i]? with
      | none =>
        have : m.length ≤ i := List.getElem?_eq_none_iff.mp hv
        rw [hm, hl, List.length_map] at this
        rw [List.getElem?_eq_none (by simpa using this)]
      | some v =>
        obtain ⟨a, h1, rfl⟩ := hP i v hv
        rw [List.getElem?_map, h1]
        rfl
    rw [this]
    exact q
/-- .. with a test -/
theorem wo_lcf {α : Type} {wi : TI} {g : TG} {tt : TT} {vs : List Nat} (h : WV M wi ρ fun l => l.length < 100000 ∧ ∃ (xs : List α) (f g' : α → D) (p : α → Bool), l = xs.map f ∧ (∀ a ∈ xs, WG M (· ∈ vs) g (f a) (wipeR ρ vs) fun ρ' => WT M tt ρ' fun b => b = p a ∧ (b = true → WE M te ρ' fun d => d = g' a)) ∧ ka ((xs.filter p).map g')) : WO M (tLc wi g tt te vs) ρ ka := fun σ F H Q e f =>
  h σ F H _ e fun J l F1 H1 x1 ⟨G, Y, w1, w2, w3⟩ ⟨hn, xs, fe, g', pp, hle, hs, hd⟩ => by
    intro L hL
    have nL := x1.ok.ne hL
    have fL := sub_none x1.gd.sub hL
    have e1 := e.step x1
    refine lc_it w1 (fun i H' => ∃ F' acc, XM M F1 H1 F' H' ∧ F' L = none ∧ Dl M.st H' L = some (.lst acc) ∧ RL M F' acc (((xs.take i).filter pp).map g')) ?_ ?_ ?_ ?_
    · exact ⟨F1, [], (XE.refl x1.gd).mut hL, fL, by rw [Dl_upd nL]; exact upd_same, by simp; exact .nil⟩
    · rintro i H' _ ⟨F', acc, x, _⟩
      exact w2 F' H' x
    · rintro i x H' H2 hi ⟨F', acc, x2, fl, hl, hr⟩ y
      have hli : l[i]? = some l[i] := List.getElem?_eq_getElem hi
      have hi' : i < xs.length := by rw [hle, List.length_map] at hi; exact hi
      have hxi : xs[i]? = some xs[i] := List.getElem?_eq_getElem hi'
      have hfe : l[i]? = some (fe xs[i]) := by rw [hle, List.getElem?_map, hxi]; rfl
      obtain ⟨Fb, xb, rb⟩ := w3 i x F' H' H2 _ x2 y hfe
      have eb := (e1.step (x2.trans xb)).wipe vs
      have alen : acc.length ≤ i := by
        rw [hr.len, List.length_map]
        exact Nat.le_trans (List.length_filter_le _ _) (by rw [List.length_take]; omega)
      refine hs xs[i] (List.getElem_mem _) x _ Fb H2 _ eb rb fun ρ3 σ3 F3 H3 x3 e3 l3 s3 _ h3 => ⟨wipe_eq (σ := σ) (σ' := σ3) vs (by rw [l3, wipe_length]) s3, ?_⟩
      refine h3 σ3 F3 H3 _ e3 fun b F4 H4 x4 ⟨hb, h4⟩ => ?_
      have tk : xs.take (i + 1) = xs.take i ++ [xs[i]] := by rw [List.take_add_one, hxi]; rfl
      cases b with
      | true =>
        refine iteT ((h4 rfl) σ3 F4 H4 _ (e3.step x4) fun v d F5 H5 x5 r5 h5 => ?_)
        have xb4 := xb.trans (x3.trans (x4.trans x5))
        have hl4 := xb4.ext.hh _ _ hl
        have fl4 := xb4.ext.fr L _ hl rfl fl
        refine ⟨acc, Dl_sub _ _ hl4, Nat.lt_of_lt_of_le (show acc.length < 100000 by omega) (by decide), F5, acc ++ [v], (x2.trans xb4).chg hl4 (Dl_none hL) fl4, fl4, by rw [Dl_upd nL]; exact upd_same, ?_⟩
        rw [tk, List.filter_append, List.map_append]
        refine (hr.mono xb4.ff).app ?_
        subst h5
        rw [List.filter_cons_of_pos (by rw [← hb])]
        exact .cons r5 .nil
      | false =>
        have xb4 := xb.trans (x3.trans x4)
        refine iteF ⟨F4, acc, x2.trans xb4, xb4.ext.fr L _ hl rfl fl, xb4.ext.hh _ _ hl, ?_⟩
        rw [tk, List.filter_append, List.map_append, List.filter_cons_of_neg (by rw [← hb]; decide)]
        simp
        exact hr.mono xb4.ff
    · rintro H' ⟨F', acc, x2, fl, hl, hr⟩
      refine f L acc _ F' H' (x1.trans x2) hl fl (x1.ext.hh.free (Dl_none hL)) hr ?_
      rw [List.take_of_length_le (by rw [hle, List.length_map]; omega)]
      exact hd
end
end G

namespace G
open PySem PySem.Spec PyProof.Rows L2
/-! ## promises by data -/
abbrev Ct := List D → (D → Prop) → Prop
def spD (K : PySem.W.Frag) (C : Addr) (c : Ct) : Sp := fun vs H Q _ => ∃ st F ds k, Gd st F H ∧ RA K C st F vs ds ∧ c ds k ∧ ∀ v d F' H', XE st F H F' H' → R K C st F' v d → k d → Q v H'
def startR (N : List Str) (ds : List D) : Rho := ds.map (fun d => some (Sl.d d)) ++ List.replicate (N.length - ds.length) none
theorem fr_start {K : PySem.W.Frag} {C : Addr} {st : Option Addr} {F H : Hp} {N : List Str} {vs : List V} {ds : List D} (g : Gd st F H) (r : RA K C st F vs ds) : Fr ⟨K, C, st, F, H⟩ (startR N ds) (start N vs) F H := by
  refine ⟨XE.refl g, by simp [L2.start, startR, r.len], fun i s h => ?_, fun i j s t _ h1 _ m1 _ => ?_⟩
  · unfold startR at h
    unfold L2.start
    by_cases z : i < ds.length
    · rw [List.getElem?_append_left (by simpa using z), List.getElem?_map] at h
      rw [List.getElem?_append_left (by simpa [r.len] using z), List.getElem?_map]
      rw [List.getElem?_eq_getElem z] at h
      cases h
      obtain ⟨v, h1, h2⟩ := r.get (List.getElem?_eq_getElem z)
      exact ⟨v, by rw [h1]; rfl, h2⟩
    · rw [List.getElem?_append_right (by simpa using z), List.getElem?_replicate] at h
      split at h
      · cases h
      · cases h
  · unfold startR at h1
    by_cases z : i < ds.length
    · rw [List.getElem?_append_left (by simpa using z), List.getElem?_map, List.getElem?_eq_getElem z] at h1
      cases h1
      cases m1
    · rw [List.getElem?_append_right (by simpa using z), List.getElem?_replicate] at h1
      split at h1
      · cases h1
      · cases h1
theorem ws_start {K : PySem.W.Frag} {C : Addr} {st : Option Addr} {F H : Hp} {N : List Str} {vs : List V} {ds : List D} {k : D → Prop} {Q : VK} {t : TS} (g : Gd st F H) (r : RA K C st F vs ds) (f : ∀ v d F' H', XE st F H F' H' → R K C st F' v d → k d → Q v H')
    (h : WS ⟨K, C, st, F, H⟩ t (startR N ds) (fun _ => k .non) (rtD k) (fun _ => False) (fun _ => False)) : t { nx := fun _ H' => Q .non H', rt := Q } (start N vs) H :=
  h _ F H _ (fr_start g r) (fun ρ' σ' F' H' _ e q => f _ _ F' H' e.x .non q) (fun v s ρ' σ' F' H' e r q => by
    cases s with
    | d d => exact f v d F' H' e.x r q
    | _ => exact q.elim) (fun _ _ _ _ _ _ q => q.elim) (fun _ _ _ _ _ _ q => q.elim)
section
variable {P : Program} {w : World} {K : PySem.W.Frag} {mg : Str → Option Value} {base : Heap} {C : Addr}
theorem FunAt.defD {x : Str} {st : Stmt} {N ps : List Str} {n : Nat} {c : Ct} (F : FunAt K mg x st ps) (S : FnScope N ps (defScope st)) (len : ∀ ds k, c ds k → ds.length = ps.length)
    (hbody : ∀ (f : Addr) (cdv : Value) (A : Around) (outer : List Env) (s : Shared) (H : Hp) (E : XK) (sa : Option Addr) (F : Hp) (ds : List D) (k : D → Prop), Room n (A.deeper (envOfC x (defScope st) s.heap.objs.size f cdv)) → c ds k →
      ∃ t, PSs (cxOf CX0 P w K mg base N x (defScope st) f cdv A outer s H E).nox (defBody st) t ∧ WS ⟨K, C, sa, F, H⟩ t (startR N ds) (fun _ => k .non) (rtD k) (fun _ => False) (fun _ => False)) : Def P w K mg base (n + 1) x ps (spD K C c) := by
  refine F.def S (fun vs H Q E h => ?_) fun f cdv A outer s H vs Q E hr h => ?_
  · obtain ⟨st, F, ds, k, _, r, hc, _⟩ := h
    rw [r.len]
    exact len ds k hc
  · obtain ⟨st, F, ds, k, g, r, hc, q⟩ := h
    obtain ⟨t, h1, h2⟩ := hbody f cdv A outer s H E st F ds k hr hc
    exact ⟨t, h1, ws_start g r q h2⟩
theorem MethAt.defD {x qual : Str} {st : Stmt} {N ps : List Str} {n : Nat} {c : Ct} (F : MethAt K C x qual st ps) (S : FnScope N ps (defScope st)) (len : ∀ ds k, c ds k → ds.length = ps.length)
    (hbody : ∀ (f : Addr) (cdv : Value) (A : Around) (outer : List Env) (s : Shared) (H : Hp) (E : XK) (sa : Option Addr) (F : Hp) (ds : List D) (k : D → Prop), Room n (A.deeper (envOfC qual (defScope st) s.heap.objs.size f cdv)) → c ds k →
      ∃ t, PSs (cxOf CX0 P w K mg base N qual (defScope st) f cdv A outer s H E).nox (defBody st) t ∧ WS ⟨K, C, sa, F, H⟩ t (startR N ds) (fun _ => k .non) (rtD k) (fun _ => False) (fun _ => False)) : DefM P w K mg base (n + 1) C x ps (spD K C c) := by
  refine F.def S (fun vs H Q E h => ?_) fun f cdv A outer s H vs Q E hr h => ?_
  · obtain ⟨st, F, ds, k, _, r, hc, _⟩ := h
    rw [r.len]
    exact len ds k hc
  · obtain ⟨st, F, ds, k, g, r, hc, q⟩ := h
    obtain ⟨t, h1, h2⟩ := hbody f cdv A outer s H E st F ds k hr hc
    exact ⟨t, h1, ws_start g r q h2⟩
/-- an older promise, by data -/
theorem Def.to {k : Nat} {x : Str} {ps : List Str} {sp sp' : Sp} (D : Def P w K mg base k x ps sp) (h : ∀ vs H Q E, sp' vs H Q E → sp vs H Q E) : Def P w K mg base k x ps sp' := by
  obtain ⟨f, fd, F, b⟩ := D.ex
  exact ⟨f, fd, F.imp h, b⟩
theorem DefM.to {k : Nat} {x : Str} {ps : List Str} {sp sp' : Sp} (D : DefM P w K mg base k C x ps sp) (h : ∀ vs H Q E, sp' vs H Q E → sp vs H Q E) : DefM P w K mg base k C x ps sp' := by
  obtain ⟨f, fd, F, b⟩ := D.ex
  exact ⟨f, fd, F.imp h, b⟩
end
section
variable {M : Cm} {ρ : Rho} {k : D → Prop} {ka : List D → Prop} {ta tb te : TE} {tr : TA} {i : Nat} {d : D} {l : List D}
theorem we_call {c : Ct} {E : XK} (h : WA M tr ρ fun ds => c ds k) : WE M (tCall (spD M.K M.C c) [] E tr) ρ k := fun σ F H Q e f => by
  refine s_call (h σ F H _ e fun vs ds F1 H1 x1 r1 h1 => ⟨M.st, F1, ds, k, x1.gd, r1, h1, fun v d F' H' x2 => f v d F' H' (x1.trans x2)⟩)
/-- data that is no object -/
def D.flat : D → Bool
  | .non => true
  | .bl _ => true
  | .int _ => true
  | .str _ => true
  | _ => false
theorem R.flat {K : PySem.W.Frag} {C : Addr} {st : Option Addr} {F F' : Hp} {v : V} {d : D} (h : R K C st F v d) (hf : d.flat = true) : R K C st F' v d := by
  cases h with
  | non => exact .non
  | bl b => exact .bl b
  | int i => exact .int i
  | str s => exact .str s
  | lst _ _ => cases hf
  | tup _ _ => cases hf
  | stn _ => cases hf
  | ixt _ _ => cases hf
  | bench _ => cases hf
  | dic _ _ _ => cases hf
  | dit _ _ _ => cases hf
  | st _ => cases hf
  | exc0 => cases hf
  | exc _ _ _ => cases hf
  | lsx _ => cases hf
theorem RB.rv {F H : Hp} {v : V} {d : D} (g : Gd M.st F H) (h : RB M F H v d) : RV M (Dl M.st H) v d := by
  rcases h with h | ⟨p, vs, l, rfl, rfl, h1, h2⟩ | ⟨p, ks, vs, l, rfl, rfl, h1, h3, h2⟩ | ⟨p, ks, vs, l, rfl, rfl, h1, h3, h2⟩
  · exact R.mono g.fh h
  · exact .lst (.inl (.inl h1)) (h2.mono g.fh)
  · exact .dic h1 h3 (h2.mono g.fh)
  · exact .dit h1 h3 (h2.mono g.fh)
theorem RBs.rl {F H : Hp} (g : Gd M.st F H) : ∀ {vs : List V} {ds : List D}, RBs M F H vs ds → RL M (Dl M.st H) vs ds
  | _, _, .nil => .nil
  | _, _, .cons h t => .cons (h.rv g) (t.rl g)
/-- a call that reads things of one's own and tells no object -/
theorem we_callB {c : Ct} {E : XK} (h : WAB M tr ρ fun ds => c ds fun d => d.flat = true ∧ k d) : WE M (tCall (spD M.K M.C c) [] E tr) ρ k := fun σ F H Q e f => by
  refine s_call (h σ F H _ e fun vs ds F1 H1 x1 r1 h1 => ⟨M.st, Dl M.st H1, ds, _, ⟨Same.refl _, x1.ok⟩, r1.rl x1.gd, h1, fun v d F' H' x2 r2 ⟨hf, q⟩ => ?_⟩)
  exact f v d F1 H' (x1.trans ⟨⟨x2.ext.hh, Same.refl _, x1.gd.fh.trans x2.ext.hh, fun _ _ _ _ h => h⟩, x2.ok⟩) (r2.flat hf) q
theorem fl_noM {m : Str} (h : [("hard" : Str), "places", "told", "heavy", "meets"].contains m = false) {l1 l2 l3 l4 : Addr} {n : Int} : (bflds l1 n l2 l3 l4).lookup m = none := by
  simp only [List.contains_eq_mem, List.mem_cons, List.not_mem_nil, or_false, decide_eq_false_iff_not, not_or] at h
  obtain ⟨h1, h2, h3, h4, h5⟩ := h
  unfold bflds
  simp only [List.lookup]
  rw [show (m == ("hard" : Str)) = false by simpa using h1]
  dsimp only
  rw [show (m == ("places" : Str)) = false by simpa using h2]
  dsimp only
  rw [show (m == ("told" : Str)) = false by simpa using h3]
  dsimp only
  rw [show (m == ("heavy" : Str)) = false by simpa using h4]
  dsimp only
  rw [show (m == ("meets" : Str)) = false by simpa using h5]
theorem we_meth {m : Str} {c : Ct} {E : XK} (hm : [("hard" : Str), "places", "told", "heavy", "meets"].contains m = false) (h : WE M ta ρ fun d => ∃ B, d = .bench B ∧ WA M tr ρ fun ds => c (d :: ds) k) : WE M (tMeth M.C m (spD M.K M.C c) [] E ta tr) ρ k := fun σ F H Q e f => by
  refine s_meth (h σ F H _ e fun v d F1 H1 x1 r1 ⟨B, z, h1⟩ => ?_)
  subst z
  cases r1 with
  | bench hb =>
    obtain ⟨dx, l1, l2, l3, l4, h2, _⟩ := hb.ex
    refine ⟨_, dx, _, rfl, x1.gd.sub _ _ h2, fl_noM hm, h1 σ F1 H1 _ (e.step x1) fun vs ds F2 H2 x2 r2 h3 => ?_⟩
    exact ⟨M.st, F2, _, k, x2.gd, .cons (.bench (hb.mono x2.ff)) r2, h3, fun v d F' H' x3 => f v d F' H' ((x1.trans x2).trans x3)⟩
theorem we_methB {m : Str} {c : Ct} {E : XK} (hm : [("hard" : Str), "places", "told", "heavy", "meets"].contains m = false) (h : WE M ta ρ fun d => ∃ B, d = .bench B ∧ WAB M tr ρ fun ds => c (d :: ds) fun d => d.flat = true ∧ k d) : WE M (tMeth M.C m (spD M.K M.C c) [] E ta tr) ρ k := fun σ F H Q e f => by
  refine s_meth (h σ F H _ e fun v d F1 H1 x1 r1 ⟨B, z, h1⟩ => ?_)
  subst z
  cases r1 with
  | bench hb =>
    obtain ⟨dx, l1, l2, l3, l4, h2, _⟩ := hb.ex
    refine ⟨_, dx, _, rfl, x1.gd.sub _ _ h2, fl_noM hm, h1 σ F1 H1 _ (e.step x1) fun vs ds F2 H2 x2 r2 h3 => ?_⟩
    refine ⟨M.st, Dl M.st H2, _, _, ⟨Same.refl _, x2.ok⟩, .cons (.bench (hb.mono (x2.ff.trans x2.gd.fh))) (r2.rl x2.gd), h3, fun v d F' H' x3 r3 ⟨hf, q⟩ => ?_⟩
    exact f v d F2 H' ((x1.trans x2).trans ⟨⟨x3.ext.hh, Same.refl _, x2.gd.fh.trans x3.ext.hh, fun _ _ _ _ h => h⟩, x3.ok⟩) (r3.flat hf) q
/-! the fields of a bench -/
abbrev gDD (g : Nat × Nat × List Nat) : D := .tup [.int g.1, .int g.2.1, .tup (g.2.2.map fun (x : Nat) => D.int (x : Int))]
abbrev pDD (p : Nat × Nat) : D := .tup [.int p.1, .int p.2]
/-- plain data without strict tuples -/
inductive Pz : D → Prop
  | non : Pz .non
  | bl {b : Bool} : Pz (.bl b)
  | int {i : Int} : Pz (.int i)
  | str {s : Str} : Pz (.str s)
  | lst {l : List D} : (∀ d ∈ l, Pz d) → Pz (.lst l)
  | tup {l : List D} : (∀ d ∈ l, Pz d) → Pz (.tup l)
theorem pz_map {α : Type} {f : α → D} {l : List α} (h : ∀ x ∈ l, Pz (f x)) : ∀ d ∈ l.map f, Pz d := fun d hd => by
  obtain ⟨x, hx, rfl⟩ := List.mem_map.mp hd
  exact h x hx
theorem pz_nil : ∀ d ∈ ([] : List D), Pz d := fun _ h => nomatch h
theorem pz_cons {d : D} {l : List D} (h : Pz d) (t : ∀ e ∈ l, Pz e) : ∀ e ∈ d :: l, Pz e := fun e he => by
  rcases List.mem_cons.mp he with rfl | he
  · exact h
  · exact t e he
theorem Dp.rv {K : PySem.W.Frag} {C : Addr} {st : Option Addr} {F : Hp} {v : V} {p : PyData} {d : D} (h : Dp K F v p) (e : d.py = p) (hp : Pz d) : R K C st F v d := by
  induction hp generalizing v p with
  | non => subst e; cases h; exact .non
  | bl => subst e; cases h; exact .bl _
  | int => subst e; cases h; exact .int _
  | str => subst e; cases h; exact .str _
  | lst hl ih =>
    subst e
    rw [D.py] at h
    obtain ⟨a, xs, rfl, h1, h2⟩ := dp_refL h
    refine .lst h1 (RA.of (by rw [dpAll_len h2, pys_map, List.length_map]) fun i v d hv hd => ?_)
    obtain ⟨v', q1, q2⟩ := dpAll_get (i := i) h2 (by rw [pys_map, List.getElem?_map, hd]; rfl)
    rw [hv] at q1
    cases q1
    exact ih d (List.mem_of_getElem? hd) q2 rfl
  | tup hl ih =>
    subst e
    rw [D.py] at h
    obtain ⟨a, xs, rfl, h1, h2⟩ := dp_refT h
    refine .tup h1 (RA.of (by rw [dpAll_len h2, pys_map, List.length_map]) fun i v d hv hd => ?_)
    obtain ⟨v', q1, q2⟩ := dpAll_get (i := i) h2 (by rw [pys_map, List.getElem?_map, hd]; rfl)
    rw [hv] at q1
    cases q1
    exact ih d (List.mem_of_getElem? hd) q2 rfl
theorem pz_gDD (g : Nat × Nat × List Nat) : Pz (gDD g) := .tup (pz_cons .int (pz_cons .int (pz_cons (.tup (pz_map fun _ _ => .int)) pz_nil)))
theorem pz_pDD (p : Nat × Nat) : Pz (pDD p) := .tup (pz_cons .int (pz_cons .int pz_nil))
theorem pz_told (B : BD) : Pz (.lst (B.told.map gDD)) := .lst (pz_map fun g _ => pz_gDD g)
theorem pz_meets (B : BD) : Pz (.lst (B.meets.map fun r => .lst (r.map pDD))) := .lst (pz_map fun r _ => .lst (pz_map fun p _ => pz_pDD p))
theorem pl_gDD (g : Nat × Nat × List Nat) : Pl 2 (gDD g) := .tup (pl_cons .int (pl_cons .int (pl_cons (.tup (pl_map fun _ _ => .int)) pl_nil)))
theorem pl_pDD (p : Nat × Nat) : Pl 1 (pDD p) := .tup (pl_cons .int (pl_cons .int pl_nil))
theorem py_gDD (g : Nat × Nat × List Nat) : (gDD g).py = gD g := by
  simp only [gDD, D.py, pys, pys_map, gD, List.map_map]
  rfl
theorem py_pDD (p : Nat × Nat) : (pDD p).py = pD p := by
  simp only [pDD, D.py, pys, pD]
abbrev toldD (B : BD) : D := .lst (B.told.map gDD)
abbrev meetsD (B : BD) : D := .lst (B.meets.map fun r => .lst (r.map pDD))
theorem pl_told (B : BD) : Pl 3 (toldD B) := .lst (pl_map fun g _ => pl_gDD g)
theorem pl_meets (B : BD) : Pl 3 (meetsD B) := .lst (pl_map fun r _ => .lst (pl_map fun p _ => pl_pDD p))
theorem py_told (B : BD) : (toldD B).py = .list (B.told.map gD) := by
  simp only [toldD, D.py, pys_map, List.map_map]
  congr 1
  exact List.map_congr_left fun g _ => py_gDD g
theorem py_meets (B : BD) : (meetsD B).py = .list (B.meets.map fun r => .list (r.map pD)) := by
  simp only [meetsD, D.py, pys_map, List.map_map]
  congr 1
  refine List.map_congr_left fun r _ => ?_
  show PyData.list (pys (r.map pDD)) = _
  rw [pys_map, List.map_map]
  congr 1
section
variable {mg : Str → Option Value}
theorem we_fld {f : Str} (h : WE M te ρ fun d => ∃ B v, d = .bench B ∧ k v ∧ (∀ F b dx l1 l2 l3 l4, F b = some (.ins M.C dx (bflds l1 B.places l2 l3 l4)) → SqL M.K F l1 (B.hard.map V.int) → Dp M.K F (.ref l2) (.list (B.told.map gD)) → SqL M.K F l3 (B.heavy.map V.int) → Dp M.K F (.ref l4) (.list (B.meets.map fun r => .list (r.map pD))) → ∃ x, Cls M.K M.C ∧ NoAttr M.K M.C f ∧ (bflds l1 B.places l2 l3 l4).lookup f = some x ∧ RV M F x v)) : WE M (tFld M.K te f) ρ k := fun σ F H Q e g => by
  refine h σ F H _ e fun v d F1 H1 x1 r1 ⟨B, w, z, q, h1⟩ => ?_
  subst z
  cases r1 with
  | bench hb =>
    obtain ⟨dx, l1, l2, l3, l4, h2, h3, h4, h5, h6⟩ := hb.ex
    obtain ⟨x, cl, na, lk, rv⟩ := h1 F1 _ dx l1 l2 l3 l4 h2 h3 h4 h5 h6
    exact ⟨_, M.C, dx, _, x, rfl, x1.gd.sub _ _ h2, cl, na, lk, g _ _ F1 H1 x1 rv q⟩
theorem we_hard (T : Txt M.K mg M.C) (h : WE M te ρ fun d => ∃ B, d = .bench B ∧ k (.lst (B.hard.map D.int))) : WE M (tFld M.K te "hard") ρ k := we_fld (h.mono fun d ⟨B, z, q⟩ => ⟨B, _, z, q, fun F b dx l1 l2 l3 l4 h2 h3 h4 h5 h6 => ⟨_, T.cl, T.n_hard, fl_hard, .lst h3 (RA.ofInts _)⟩⟩)
theorem we_heavy (T : Txt M.K mg M.C) (h : WE M te ρ fun d => ∃ B, d = .bench B ∧ k (.lst (B.heavy.map D.int))) : WE M (tFld M.K te "heavy") ρ k := we_fld (h.mono fun d ⟨B, z, q⟩ => ⟨B, _, z, q, fun F b dx l1 l2 l3 l4 h2 h3 h4 h5 h6 => ⟨_, T.cl, T.n_heavy, fl_heavy, .lst h5 (RA.ofInts _)⟩⟩)
theorem we_places (T : Txt M.K mg M.C) (h : WE M te ρ fun d => ∃ B, d = .bench B ∧ k (.int B.places)) : WE M (tFld M.K te "places") ρ k := we_fld (h.mono fun d ⟨B, z, q⟩ => ⟨B, _, z, q, fun F b dx l1 l2 l3 l4 h2 h3 h4 h5 h6 => ⟨_, T.cl, T.n_places, fl_places, .int _⟩⟩)
theorem we_told (T : Txt M.K mg M.C) (h : WE M te ρ fun d => ∃ B, d = .bench B ∧ k (toldD B)) : WE M (tFld M.K te "told") ρ k := we_fld (h.mono fun d ⟨B, z, q⟩ => ⟨B, _, z, q, fun F b dx l1 l2 l3 l4 h2 h3 h4 h5 h6 => ⟨_, T.cl, T.n_told, fl_told, Dp.rv h4 (py_told B) (pz_told B)⟩⟩)
theorem we_meets (T : Txt M.K mg M.C) (h : WE M te ρ fun d => ∃ B, d = .bench B ∧ k (meetsD B)) : WE M (tFld M.K te "meets") ρ k := we_fld (h.mono fun d ⟨B, z, q⟩ => ⟨B, _, z, q, fun F b dx l1 l2 l3 l4 h2 h3 h4 h5 h6 => ⟨_, T.cl, T.n_meets, fl_meets, Dp.rv h6 (py_meets B) (pz_meets B)⟩⟩)
end
/-! d[k] -/
def valD {κ : Type} [DecidableEq κ] : List κ → List D → κ → Option D
  | q :: ks, d :: l, x => if q = x then some d else valD ks l x
  | _, _, _ => none
theorem valD_RA {κ : Type} [DecidableEq κ] {F : Hp} {x : κ} : ∀ {ks : List κ} {vs : List V} {l : List D} {d : D}, RL M F vs l → valD ks l x = some d → ∃ v, valV (ks.zip vs) x = some v ∧ RV M F v d
  | [], _, _, _, _, h => by simp [valD] at h
  | _ :: _, _, _, _, .nil, h => by simp [valD] at h
  | q :: ks, _, _, d, .cons (vs := vs) (v := v) a b, h => by
    unfold valD at h
    by_cases z : q = x
    · rw [if_pos z] at h
      cases h
      exact ⟨v, by simp [valV, z], a⟩
    · rw [if_neg z] at h
      obtain ⟨u, h1, h2⟩ := valD_RA b h
      refine ⟨u, ?_, h2⟩
      rw [List.zip_cons_cons]
      unfold valV at h1 ⊢
      rw [List.find?_cons_of_neg (by simpa using z)]
      exact h1
theorem we_dgetS {s : Str} {ks : List Key} (h : WB M ta ρ fun x => x = .dic ks l ∧ WB M tb ρ fun y => y = .str s ∧ ∃ d, valD ks l (Sum.inr s : Key) = some d ∧ k d) : WE M (tDGet ta tb) ρ k := fun σ F H Q e f =>
  h σ F H _ e fun x d F1 H1 x1 r1 ⟨z, h1⟩ => h1 σ F1 H1 _ (e.step x1) fun y d2 F2 H2 x2 r2 ⟨z2, d, hv, q⟩ => by
    subst z z2
    cases r2.str
    obtain ⟨p, vs, rfl, h3, h4, h5⟩ := (r1.step x2).dic x2.gd
    obtain ⟨v, h6, h7⟩ := valD_RA h5 hv
    exact ⟨p, v, rfl, h6 ▸ DGet.k (k := Sum.inr s) h3, f _ _ F2 H2 (x1.trans x2) h7 q⟩
theorem we_dgetI {m : Int} {ks : List Key} (h : WB M ta ρ fun x => x = .dic ks l ∧ WB M tb ρ fun y => y = .int m ∧ ∃ d, valD ks l (Sum.inl m : Key) = some d ∧ k d) : WE M (tDGet ta tb) ρ k := fun σ F H Q e f =>
  h σ F H _ e fun x d F1 H1 x1 r1 ⟨z, h1⟩ => h1 σ F1 H1 _ (e.step x1) fun y d2 F2 H2 x2 r2 ⟨z2, d, hv, q⟩ => by
    subst z z2
    cases r2.int
    obtain ⟨p, vs, rfl, h3, h4, h5⟩ := (r1.step x2).dic x2.gd
    obtain ⟨v, h6, h7⟩ := valD_RA h5 hv
    exact ⟨p, v, rfl, h6 ▸ DGet.k (k := Sum.inl m) h3, f _ _ F2 H2 (x1.trans x2) h7 q⟩
/-- the law's own bench -/
abbrev gDX (g : Nat × Nat × List Nat) : D := .tup [.int g.1, .int g.2.1, .ixt (g.2.2.map fun (x : Nat) => (x : Int))]
abbrev toldX (B : BD) : D := .lst (B.told.map gDX)
theorem py_gDX (g : Nat × Nat × List Nat) : (gDX g).py = gD g := by
  show PyData.tuple [_, _, .tuple ((g.2.2.map fun (x : Nat) => (x : Int)).map PyData.int)] = _
  rw [List.map_map]
  rfl
theorem pl_gDX (g : Nat × Nat × List Nat) : Pl 2 (gDX g) := .tup (pl_cons .int (pl_cons .int (pl_cons .ixt pl_nil)))
theorem pl_toldX (B : BD) : Pl 3 (toldX B) := .lst (pl_map fun g _ => pl_gDX g)
theorem py_toldX (B : BD) : (toldX B).py = .list (B.told.map gD) := by
  unfold toldX
  rw [D.py, pys_map, List.map_map]
  congr 1
  exact List.map_congr_left fun g _ => py_gDX g
theorem txs_R {K : PySem.W.Frag} {C : Addr} {st : Option Addr} {F : Hp} : ∀ {vs : List V} {gs : List (Nat × Nat × List Nat)}, TXs K F vs gs → RA K C st F vs (gs.map gDX)
  | _, _, .nil => .nil
  | _, _, .cons h t => .cons (by
      obtain ⟨a, c, ob, rfl, h1, h2, h3⟩ := h
      exact .tup h1 (.cons (.int _) (.cons (.int _) (.cons (.ixt h2 h3) .nil)))) (txs_R t)
theorem R_txs {K : PySem.W.Frag} {C : Addr} {st : Option Addr} {F : Hp} : ∀ {vs : List V} {gs : List (Nat × Nat × List Nat)}, RA K C st F vs (gs.map gDX) → TXs K F vs gs
  | [], [], _ => .nil
  | _ :: _, [], h => by cases h
  | [], _ :: _, h => by cases h
  | v :: vs, g :: gs, h => by
    cases h with
    | cons h1 h2 =>
      refine .cons ?_ (R_txs h2)
      cases h1 with
      | tup a b =>
        cases b with | cons b1 b => cases b with | cons b2 b => cases b with | cons b3 b =>
        cases b
        cases b1
        cases b2
        cases b3 with
        | ixt c d => exact ⟨_, _, _, rfl, a, c, d⟩
abbrev modelD (B : BD) : D := .dic [Sum.inr "hard", Sum.inr "places", Sum.inr "told", Sum.inr "heavy", Sum.inr "meets"] [.lst (B.hard.map D.int), .int B.places, toldX B, .lst (B.heavy.map D.int), meetsD B]
theorem model_R {K : PySem.W.Frag} {C : Addr} {st : Option Addr} {F : Hp} {m : Addr} {B : BD} (h : ModelAt K F m B) : R K C st F (.ref m) (modelD B) := by
  obtain ⟨l1, l2, l3, l4, hb, h1, h2, h3, h4⟩ := h.ex
  obtain ⟨m1, m2, m3, m4, hc, vs, h5, h6⟩ := h.ix
  rw [hb] at hc
  cases hc
  exact .dic (vs := [.ref l1, .int B.places, .ref l2, .ref l3, .ref l4]) hb rfl (.cons (.lst h1 (RA.ofInts _)) (.cons (.int _) (.cons (.lst h5 (txs_R h6)) (.cons (.lst h3 (RA.ofInts _)) (.cons (Dp.rv h4 (py_meets B) (pz_meets B)) .nil)))))
theorem R_model {K : PySem.W.Frag} {C : Addr} {st : Option Addr} {F : Hp} {v : V} {B : BD} (h : R K C st F v (modelD B)) : ∃ m, v = .ref m ∧ ModelAt K F m B := by
  cases h with
  | @dic a _ vs _ hf hl hr =>
    refine ⟨a, rfl, ?_⟩
    cases hr with | cons r1 hr => cases hr with | cons r2 hr => cases hr with | cons r3 hr => cases hr with | cons r4 hr => cases hr with | cons r5 hr =>
    cases hr
    cases r1 with | @lst l1 v1 _ a1 b1 =>
    cases r2
    have p3 := (pl_toldX B).dp r3
    have p5 := (pl_meets B).dp r5
    rw [py_toldX] at p3
    rw [py_meets] at p5
    cases r3 with | @lst l2 v2 _ a2 b2 =>
    obtain ⟨l4, _, rfl, _⟩ := dp_refL p5
    cases r4 with | @lst l3 v3 _ a3 b3 =>
    rw [b1.ints] at a1
    rw [b3.ints] at a3
    exact ⟨⟨l1, l2, l3, l4, hf, v2, a2, R_txs b2⟩, l1, l2, l3, l4, hf, a1, p3, a3, p5⟩
end
end G

namespace G
open PySem PySem.Spec PyProof.Rows L2
/-! ### rules with lists of any kind -/
section
variable {X : Cx} {K : PySem.W.Frag}
/-- xs + ys, any two lists -/
def rCatS (K : PySem.W.Frag) : R2 := fun x y H Q => ∃ l b xs zs, x = .ref l ∧ y = .ref b ∧ SqL K H l xs ∧ SqL K H b zs ∧ xs.length + zs.length ≤ 100000 ∧ ∀ p, H p = none → Q (.ref p) (upd H p (.lst (xs ++ zs)))
theorem op_catS : OpR X (binaryOp .Add) (rCatS X.K) := by
  intro pins s σ H x y v u Q I rx ry h
  obtain ⟨l, b, xs, zs, rfl, rfl, hH, hB, hz, q⟩ := h
  have hz : xs.length + zs.length ≤ sizeLine := Nat.le_trans hz (by decide)
  cases rx
  cases ry
  obtain ⟨its, r1, ⟨⟨oc, od, dt, sl⟩, n1, e1, hc, _, hd⟩, _⟩ := I.list hH
  obtain ⟨its2, r2, ⟨⟨oc2, od2, dt2, sl2⟩, n2, e2, hc2, _, hd2⟩, _⟩ := I.list hB
  dsimp only at hc hd hc2 hd2
  subst hc hd hc2 hd2
  have l1 := r1.length
  have l2 := r2.length
  refine concat_meets ⟨_, e1, rfl⟩ ⟨_, e2, rfl⟩ noFill_list_add seq_list_add PySem.F.slot_list_add PySem.F.entry_list_add (PySem.F.args_list_add_2 _ _) (list_addW l b its.toArray its2.toArray n1 n2 od od2 sl sl2 (by simp; omega)) ⟨e1, e2, ?_⟩
  have ea : its.toArray ++ its2.toArray = (its ++ its2).toArray := by simp
  rw [ea]
  exact ⟨.ref _, _, I.lnew (t' := s.toks) (r1.append r2) (by rw [List.length_append]; omega), rfl, q _ I.fresh⟩
abbrev rAddS (K : PySem.W.Frag) : R2 := fun x y H Q => rAddA K x y H Q ∨ rCatS K x y H Q
theorem k_addS (h : X.K = K) : OpR X (binaryOp .Add) (rAddS K) := by subst h; exact op_or (k_addA rfl) op_catS
abbrev rMulS : R2 := fun x y H Q => rMulU x y H Q ∨ rI CMulW (fun i j => .int (i * j)) x y H Q
theorem k_mulS : OpR X (binaryOp .Mult) rMulS := op_or opMulU op_mulW
/-- x = e, the list a thing of its own -/
def tAsgO (te : TE) (i : Nat) : TS := tAsg te (gName i)
theorem ps_own {st : Stmt} {te : TE} {i : Nat} (h : PS X st (tAsg te (gName i))) : PS X st (tAsgO te i) := h
abbrev rInU (K : PySem.W.Frag) : R2 := fun x y H Q => rIn K false x y H Q ∨ rInD K x y H Q
theorem k_in (h : X.K = K) (hu : X.A.units + 65 < cLine) : OpR X (compareOp .In) (rInU K) := by subst h; exact op_or op_in_seq (op_inD hu)
abbrev rNotInU (K : PySem.W.Frag) : R2 := fun x y H Q => rIn K true x y H Q ∨ rNotInD K x y H Q
theorem k_notIn (h : X.K = K) (hu : X.A.units + 65 < cLine) : OpR X (compareOp .NotIn) (rNotInU K) := by subst h; exact op_or op_notIn_seq (op_notInD hu)
end
section
variable {M : Cm} {ρ : Rho} {k : D → Prop} {kb : Bool → Prop} {ka : List D → Prop} {kr nx bk ct : Rho → Prop} {rt : Sl → Rho → Prop} {ta tb te : TE} {t : TT} {ts us : TS} {tr : TA} {i : Nat} {d : D} {l : List D}
theorem ws_setOwn (h : WO M te ρ fun l => nx (ρ.set i (some (.own l)))) : WS M (tAsgO te i) ρ nx rt bk ct := ws_setO h
theorem op_addSI {m n : Int} (q : k (.int (m + n))) : OP M (rAddS M.K) (.int m) (.int n) k := op_or1 (op_or1 (op_addII q))
theorem opo_cat {l m : List D} (hl : l.length + m.length ≤ 100000) (q : ka (l ++ m)) : OPO M (rAddS M.K) (.lst l) (.lst m) ka := fun F H x y Q g rx ry f => by
  obtain ⟨p, vs, rfl, h1, h2⟩ := rx.lst g
  obtain ⟨p', us, rfl, h3, h4⟩ := ry.lst g
  exact .inr ⟨p, p', vs, us, rfl, rfl, h1, h3, by rw [h2.len, h4.len]; exact hl, fun q' np => cro_new g (h2.app h4) np q f⟩
theorem op_cat {l m : List D} (hl : l.length + m.length ≤ 100000) (q : k (.lst (l ++ m))) : OP M (rAddS M.K) (.lst l) (.lst m) k := (opo_cat hl q).op
theorem op_catT {l m : List D} (hl : l.length + m.length ≤ 1000) (q : k (.tup (l ++ m))) : OP M (rAddS M.K) (.tup l) (.tup m) k := fun F H x y Q g rx ry f => by
  obtain ⟨a, vs, rfl, h1, h2⟩ := rx.tup
  obtain ⟨b, us, rfl, h3, h4⟩ := ry.tup
  refine .inl (.inr ⟨a, b, vs, us, rfl, rfl, sqT_mono g.sub h1, sqT_mono g.sub h3, Nat.le_trans (by rw [h2.len, h4.len]; exact hl) (by decide), fun e => ?_, fun _ e => ?_, fun _ _ p np => ?_⟩)
  · subst e
    have : l = [] := by have := h2.len; simpa using this.symm
    subst this
    exact f _ _ F H (XE.refl g) (.tup h3 h4) q
  · subst e
    have : m = [] := by have := h4.len; simpa using this.symm
    subst this
    rw [List.append_nil] at q
    exact f _ _ F H (XE.refl g) (.tup h1 h2) q
  · exact f _ _ _ _ ((XE.refl g).new np) (.tup (.inl (.inl upd_same)) ((h2.app h4).mono (same_upd (sub_none g.sub np)))) q
theorem op_catS2 {a b : List Int} (hl : a.length + b.length ≤ 1000) (q : k (.stn (a ++ b))) : OP M (rAddS M.K) (.stn a) (.stn b) k := fun F H x y Q g rx ry f => by
  obtain ⟨p, rfl, h1⟩ := rx.stn
  obtain ⟨p', rfl, h3⟩ := ry.stn
  refine .inl (.inr ⟨p, p', _, _, rfl, rfl, .inl (.inl (g.sub _ _ h1)), .inl (.inl (g.sub _ _ h3)), Nat.le_trans (by simp; exact hl) (by decide), fun e => ?_, fun _ e => ?_, fun _ _ p np => ?_⟩)
  · have : a = [] := by simpa using e
    subst this
    exact f _ _ F H (XE.refl g) (.stn h3) q
  · have : b = [] := by simpa using e
    subst this
    rw [List.append_nil] at q
    exact f _ _ F H (XE.refl g) (.stn h1) q
  · rw [← List.map_append]
    exact f _ _ _ _ ((XE.refl g).new np) (.stn upd_same) q
theorem op_mulSI {m n : Int} (c : CMul m n) (q : k (.int (m * n))) : OP M rMulS (.int m) (.int n) k := op_or1 (op_mulII c q)
theorem op_mulSW {m n : Int} (c : CMulW m n) (q : k (.int (m * n))) : OP M rMulS (.int m) (.int n) k := op_or2 (op_Ii (g := fun i j => i * j) c q)
/-- [..] * n -/
theorem wo_rep (h : WO M ta ρ fun l => WB M tb ρ fun e => ∃ m : Int, e = .int m ∧ -(2 ^ 63) ≤ m ∧ m < 2 ^ 63 ∧ l.length * m.toNat ≤ 100000 ∧ ka (List.replicate m.toNat l).flatten) : WO M (tOp rMulS ta tb) ρ ka := fun σ F H Q e f =>
  h σ F H _ e fun p vs l F1 H1 x1 h1 h2 h3 h4 hb => hb σ F1 H1 _ (e.step x1) fun y d F2 H2 x2 r2 ⟨m, z, b1, b2, b3, q⟩ => by
    subst z
    cases r2.int
    have x02 := x1.trans x2
    have h4' := h4.mono x2.ff
    refine .inl (.inr ⟨p, m, vs, rfl, rfl, Dl_sub _ _ (x2.ext.hh _ _ h1), b1, b2, Nat.le_trans (by rw [h4.len]; exact b3) (by decide), fun q' np => ?_⟩)
    have rep : RL M F2 (List.replicate m.toNat vs).flatten (List.replicate m.toNat l).flatten := by
      induction m.toNat with
      | zero => exact .nil
      | succ n ih =>
        rw [List.replicate_succ, List.replicate_succ, List.flatten_cons, List.flatten_cons]
        exact h4'.app ih
    exact cro_new (ka := ka) x02.gd rep np q fun p vs l F4 H4 x4 a b c => f p vs l F4 H4 (x02.trans x4) a b (x02.ext.hh.free c)
theorem rep_one (n : Nat) (d : D) : (List.replicate n [d]).flatten = List.replicate n d := by
  induction n with
  | zero => rfl
  | succ n ih => rw [List.replicate_succ, List.flatten_cons, ih, List.replicate_succ]; rfl
/-- isinstance(x, a built-in class) -/
def D.ty : D → Option String
  | .non => some "NoneType"
  | .bl _ => some "bool"
  | .int _ => some "int"
  | .str _ => some "str"
  | .lst _ => some "list"
  | .tup _ => some "tuple"
  | .stn _ => some "tuple"
  | .ixt _ => some "tuple"
  | .dic _ _ => some "dict"
  | .dit _ _ => some "dict"
  | _ => none
theorem rb_ty {F H : Hp} {v : V} {d : D} {T : String} (g : Gd M.st F H) (h : RB M F H v d) (e : d.ty = some T) : TyX M.K H v (.type T) := by
  have key := h.rv g
  cases key with
  | non => cases e; exact .base .non
  | bl b => cases e; exact .base (.bl b)
  | int b => cases e; exact .base (.int b)
  | str b => cases e; exact .base (.str b)
  | lst a b => cases e; exact ty_lst (sqL_mono Dl_sub a)
  | tup a b => cases e; exact ty_tup (sqT_mono Dl_sub a)
  | stn a => cases e; exact ty_tup (.inl (.inl (Dl_sub _ _ a)))
  | ixt a _ => cases e; exact ty_tup (.inl (.inr ⟨_, Dl_sub _ _ a⟩))
  | bench a => cases e
  | dic a b c => cases e; exact .base (.dK (Dl_sub _ _ a))
  | dit a b c => cases e; exact .base (.dT (Dl_sub _ _ a))
  | st a => cases e
  | exc0 => cases e
  | exc _ _ _ => cases e
  | lsx _ => cases e
theorem we_isi {U : String} (h : WB M te ρ fun d => ∃ T b, d.ty = some T ∧ kitB T U = some b ∧ k (.bl b)) : WE M (tCB (rIsi M.K) (tCons te (tCons (tC (.ty U)) tNil))) ρ k := fun σ F H Q e f =>
  h σ F H _ e fun v d F1 H1 x1 r1 ⟨T, b, e1, e2, q⟩ => s_isi (.ty U) (rb_ty x1.gd r1 e1) (kit_ty e2) (f _ _ F1 H1 x1 (.bl b) q)
theorem kb_ss : kitB "str" "str" = some true := by decide +kernel
theorem kb_is : kitB "int" "str" = some false := by decide +kernel
theorem kb_bs : kitB "bool" "str" = some false := by decide +kernel
theorem kb_ns : kitB "NoneType" "str" = some false := by decide +kernel
theorem kb_ls : kitB "list" "str" = some false := by decide +kernel
theorem kb_ts : kitB "tuple" "str" = some false := by decide +kernel
theorem kb_il : kitB "int" "list" = some false := by decide +kernel
theorem kb_bl : kitB "bool" "list" = some false := by decide +kernel
theorem kb_nl : kitB "NoneType" "list" = some false := by decide +kernel
theorem kb_sl : kitB "str" "list" = some false := by decide +kernel
theorem kb_tl : kitB "tuple" "list" = some false := by decide +kernel
theorem kb_dl : kitB "dict" "list" = some false := by decide +kernel
theorem kb_dt : kitB "dict" "tuple" = some false := by decide +kernel
theorem kb_di : kitB "dict" "int" = some false := by decide +kernel
theorem kb_ds : kitB "dict" "str" = some false := by decide +kernel
theorem kb_nb : kitB "NoneType" "bool" = some false := by decide +kernel
theorem kb_sb : kitB "str" "bool" = some false := by decide +kernel
theorem kb_lb : kitB "list" "bool" = some false := by decide +kernel
theorem kb_tb : kitB "tuple" "bool" = some false := by decide +kernel
theorem cr_lenQ {d : D} {j : Bool} (e : isSq d = some (j, l)) (q : k (.int l.length)) : CR M (rLen M.K) [d] k := by
  cases d with
  | lst l => cases e; exact cr_lenL q
  | tup l => cases e; exact cr_lenT q
  | stn ns => cases e; rw [List.length_map] at q; exact cr_lenS q
  | ixt ns => cases e; rw [List.length_map] at q; exact cr_lenX q
  | _ => cases e
/-! sorted, of ints -/
theorem RL.intsL {F H : Hp} {vs : List V} (g : Gd M.st F H) {ns : List Int} {v : V} (h : RB M F H v (.lst (ns.map D.int))) : ∃ p, v = .ref p ∧ SqL M.K H p (ns.map V.int) := by
  obtain ⟨p, us, rfl, h1, h2⟩ := h.lst g
  rw [h2.ints] at h1
  exact ⟨p, rfl, h1⟩
theorem cro_sortL {ns : List Int} (hl : ns.length < 64) (q : ∀ ms : List Int, ms.Perm ns → ms.Pairwise (· ≤ ·) → ka (ms.map D.int)) : CRO M (rSortedU M.K) [.lst (ns.map D.int)] ka := fun F H vs Q g rr f => by
  obtain ⟨v, rfl, r⟩ := rbs1 rr
  obtain ⟨p, rfl, h1⟩ := RL.intsL (vs := []) g r
  exact .inl ⟨p, ns, rfl, h1, hl, fun ms p' h2 h3 np => cro_new g (RA.ofInts ms) np (q ms h2 h3) f⟩
theorem cro_sortT {ns : List Int} (hl : ns.length < 64) (q : ∀ ms : List Int, ms.Perm ns → ms.Pairwise (· ≤ ·) → ka (ms.map D.int)) : CRO M (rSortedU M.K) [.tup (ns.map D.int)] ka := fun F H vs Q g rr f => by
  obtain ⟨v, rfl, r⟩ := rbs1 rr
  obtain ⟨p, us, rfl, h1, h2⟩ := r.tup
  rw [h2.ints] at h1
  exact .inr ⟨p, ns, rfl, sqT_mono g.sub h1, hl, fun ms p' h2 h3 np => cro_new g (RA.ofInts ms) np (q ms h2 h3) f⟩
/-! list(range(..)) -/
theorem wo_lstRg {tb : TE} (h : WB M tb ρ fun d => ∃ n : Int, d = .int n ∧ -1000000 ≤ n ∧ n ≤ 1000000 ∧ ka (rngD n.toNat)) : WO M (tLstRg (tRg1 tb)) ρ ka := fun σ F H Q e f =>
  h σ F H _ e fun v d F1 H1 x1 r1 ⟨n, z, b1, b2, q⟩ => by
    subst z
    cases r1.int
    refine ⟨n, rfl, ⟨by decide, by decide, by omega, by omega, by omega⟩, fun p np => ?_⟩
    have rl : RL M F1 (rgV 0 n) (rngD n.toNat) := by
      unfold rgV rngD
      simp only [Int.sub_zero, Int.zero_add]
      refine RA.of (by simp) fun i v d h1 h2 => ?_
      rw [List.getElem?_map] at h1 h2
      cases hr : (List.range n.toNat)[i]? with
      | none => rw [hr] at h1; cases h1
      | some j =>
        rw [hr] at h1 h2
        cases h1
        cases h2
        exact .int _
    exact cro_new (ka := ka) x1.gd rl np q fun p vs l F4 H4 x4 a b c => f p vs l F4 H4 (x1.trans x4) a b (x1.ext.hh.free c)
/-! ### compared at any depth: things of one's own within tuples and lists -/
def WD (M : Cm) (t : TE) (ρ : Rho) (k : D → Prop) : Prop := ∀ σ F H Q, Fr M ρ σ F H → (∀ v d F' H', XM M F H F' H' → RV M (Dl M.st H') v d → k d → Q v H') → t σ H Q
def WAD (M : Cm) (t : TA) (ρ : Rho) (k : List D → Prop) : Prop := ∀ σ F H Q, Fr M ρ σ F H → (∀ vs ds F' H', XM M F H F' H' → RL M (Dl M.st H') vs ds → k ds → Q vs H') → t σ H Q
theorem WB.wd (h : WB M te ρ k) : WD M te ρ k := fun σ F H Q e f => h σ F H Q e fun v d F' H' x r => f v d F' H' x (r.rv x.gd)
theorem wad_nil (q : ka []) : WAD M tNil ρ ka := fun σ F H Q e f => f [] [] F H (XE.refl e.gd) .nil q
theorem wad_cons (h : WD M ta ρ fun d => WAD M tr ρ fun ds => ka (d :: ds)) : WAD M (tCons ta tr) ρ ka := fun σ F H Q e f =>
  h σ F H _ e fun x d F1 H1 x1 r1 h1 => h1 σ F1 H1 _ (e.step x1) fun vs ds F2 H2 x2 r2 => f _ _ F2 H2 (x1.trans x2) (.cons (r1.mono x2.ext.hh) r2)
theorem wd_tup (h : WAD M tr ρ fun ds => ds.length ≤ 1000 ∧ k (.tup ds)) : WD M (tTup tr) ρ k := fun σ F H Q e f =>
  h σ F H _ e fun vs ds F1 H1 x1 r1 ⟨h1, h2⟩ => ⟨Nat.le_trans (by rw [r1.len]; exact h1) (by decide), fun p np => f _ _ F1 _ (x1.mut np) (by
    rw [Dl_upd (x1.ok.ne np)]
    exact .tup (.inl (.inl upd_same)) (r1.mono (same_upd (Dl_none np)))) h2⟩
theorem wd_lst (h : WAD M tr ρ fun ds => ds.length ≤ 1000 ∧ k (.lst ds)) : WD M (tLst tr) ρ k := fun σ F H Q e f =>
  h σ F H _ e fun vs ds F1 H1 x1 r1 ⟨h1, h2⟩ => ⟨Nat.le_trans (by rw [r1.len]; exact h1) (by decide), fun p np => f _ _ F1 _ (x1.mut np) (by
    rw [Dl_upd (x1.ok.ne np)]
    exact .lst (.inl (.inl upd_same)) (r1.mono (same_upd (Dl_none np)))) h2⟩
theorem we_eqD (h : WD M ta ρ fun d => WD M tb ρ fun e => Pl 20 d ∧ Pl 20 e ∧ k (.bl (eqD d e))) : WE M (tOp (rEqU M.K) ta tb) ρ k := fun σ F H Q e f =>
  h σ F H _ e fun x d F1 H1 x1 r1 h1 => h1 σ F1 H1 _ (e.step x1) fun y d2 F2 H2 x2 r2 ⟨p1, p2, q⟩ =>
    s_eqD (dp_mono Dl_sub (p1.dp (r1.mono x2.ext.hh))) (dp_mono Dl_sub (p2.dp r2)) (sh_shaped p1.sh) (sh_shaped p2.sh) (f _ _ F2 H2 (x1.trans x2) (.bl _) q)
theorem we_neD (h : WD M ta ρ fun d => WD M tb ρ fun e => Pl 20 d ∧ Pl 20 e ∧ k (.bl (!eqD d e))) : WE M (tOp (rNeU M.K) ta tb) ρ k := fun σ F H Q e f =>
  h σ F H _ e fun x d F1 H1 x1 r1 h1 => h1 σ F1 H1 _ (e.step x1) fun y d2 F2 H2 x2 r2 ⟨p1, p2, q⟩ =>
    s_neD (dp_mono Dl_sub (p1.dp (r1.mono x2.ext.hh))) (dp_mono Dl_sub (p2.dp r2)) (sh_shaped p1.sh) (sh_shaped p2.sh) (f _ _ F2 H2 (x1.trans x2) (.bl _) q)
/-! in -/
theorem op_inL {l : List D} (h1 : Pl 20 d) (h2 : Pl 20 (.lst l)) (q : k (.bl (l.any fun z => eqD z d))) : OP M (rInU M.K) d (.lst l) k := fun F H x y Q g rx ry f => by
  have p2 := ry.dp g h2
  rw [D.py, pys_map] at p2
  refine .inr ⟨_, _, rx.dp g h1, p2, sh_shaped h1.sh, ?_, ?_⟩
  · have := sh_shaped h2.sh
    rw [D.py, pys_map] at this
    exact this
  · rw [List.any_map]
    exact f _ _ F H (XE.refl g) (.bl _) q
theorem op_notInL {l : List D} (h1 : Pl 20 d) (h2 : Pl 20 (.lst l)) (q : k (.bl (!l.any fun z => eqD z d))) : OP M (rNotInU M.K) d (.lst l) k := fun F H x y Q g rx ry f => by
  have p2 := ry.dp g h2
  rw [D.py, pys_map] at p2
  refine .inr ⟨_, _, rx.dp g h1, p2, sh_shaped h1.sh, ?_, ?_⟩
  · have := sh_shaped h2.sh
    rw [D.py, pys_map] at this
    exact this
  · rw [List.any_map]
    exact f _ _ F H (XE.refl g) (.bl _) q
/-! a, b = x, y -/
theorem ws_par {j : Nat} (h : WA M tr ρ fun ds => ∃ d e, ds = [d, e] ∧ nx ((ρ.set i (some (.d d))).set j (some (.d e)))) : WS M (tPar i j tr) ρ nx rt bk ct := fun σ F H E e f1 f2 f3 f4 => h σ F H _ e fun vs ds F1 H1 x1 r1 ⟨a, b, z, q⟩ => by
  subst z
  cases r1 with
  | cons r1 r2 =>
    cases r2 with
    | cons r2 r3 =>
      cases r3
      exact ⟨_, _, rfl, f1 _ _ F1 H1 x1.ff (((e.step x1).put r1).put r2) q⟩
theorem walk_enumB {K : PySem.W.Frag} {j : Bool} {a : Addr} {xs : List V} : Walk (IteM j K a) xs.length (fun H => SqB j K H a xs) (YPair (fun i => some (.int (i : Nat))) (fun i => xs[i]?)) := by
  refine ⟨fun i _ hi q => ⟨xs, xs[i], q, by simp [hi]⟩, fun _ q => ⟨xs, q, rfl⟩, fun i H v H' _ q y => ?_⟩
  obtain ⟨T, x, h1, h2, h3, h4⟩ := y
  exact ⟨T, .int (i : Nat), x, h1, h2, h3, rfl, h4 xs q⟩
/-- enumerate of a tuple or a list -/
theorem wi_enumM (h : WA M tr ρ fun ds => ∃ a j l, ds = [a] ∧ isSq a = some (j, l) ∧ ka (enumD l)) : WI M (iEnumM M.K tr) ρ ka := fun σ F H Q e f => h σ F H _ e fun vs ds F1 H1 x1 r1 ⟨da, j, l, z, sa, q⟩ => by
  subst z
  cases r1 with
  | cons ra rb =>
    cases rb
    obtain ⟨a, xs, rfl, a1, a2⟩ := RV.sqb ra sa
    refine ⟨j, a, xs, rfl, sqB_mono x1.gd.sub a1, f _ (enumD l) F1 H1 x1 ⟨fun H => SqB j M.K H a xs, _, by rw [show (enumD l).length = xs.length by simp [enumD, a2.len]]; exact walk_enumB, fun F' H' s g => sqB_mono (s.trans g.sub) a1, fun i x Fa Ha Hb d s g y hd => ?_⟩ q⟩
    unfold enumD at hd
    rw [List.getElem?_mapIdx] at hd
    cases hl : l[i]? with
    | none => rw [hl] at hd; cases hd
    | some c =>
      rw [hl] at hd
      cases hd
      refine yp (F := F1) g y (fun v hv => ?_) fun v hv => ?_
      · cases hv
        exact .int _
      · obtain ⟨d2, e1, e2⟩ := a2.at hv
        rw [hl] at e1
        cases e1
        exact e2.mono s
theorem start_eqR {ts : TS} {ρ ρ' : Rho} (e : ρ = ρ') (h : WS M ts ρ' nx rt bk ct) : WS M ts ρ nx rt bk ct := by rw [e]; exact h
end
theorem s_nnT {d : D} {A B : Prop} (e : d.isN = true) (h : A) : if d.isN = true then A else B := by rw [e]; exact iteT h
theorem s_nnF {d : D} {A B : Prop} (e : d.isN = false) (h : B) : if d.isN = true then A else B := by rw [e]; exact iteF h
theorem s_mnT {d : D} {A B : Prop} (e : d.isN = false) (h : A) : if (!d.isN) = true then A else B := by rw [e]; exact iteT h
theorem s_mnF {d : D} {A B : Prop} (e : d.isN = true) (h : B) : if (!d.isN) = true then A else B := by rw [e]; exact iteF h
theorem len_ok {l : List D} {A : Prop} (h : Nat.ble l.length 1000 = true) (a : A) : l.length ≤ 1000 ∧ A := ⟨Nat.le_of_ble_eq_true h, a⟩
theorem hu65 {A : Around} {k : Nat} (h : Room k A) : A.units + 65 < cLine := by have := h.un; omega
end G

namespace G
open PySem PySem.Spec PyProof.Rows L2
theorem Fr.jump {M : Cm} {ρ ρ3 : Rho} {σ σ3 : L2.St} {F1 H1 F3 H3 F5 H5 : Hp} (e3 : Fr M ρ3 σ3 F3 H3) (e1 : Fr M ρ σ F1 H1) (own : ∀ (i : Nat) s, ρ3[i]? = some (some s) → s.mine = true → ρ[i]? = some (some s) ∧ σ3[i]? = σ[i]?) (x : XM M F1 H1 F5 H5) (s : Same F3 F5) : Fr M ρ3 σ3 F5 H5 := by
  refine ⟨e1.x.trans x, e3.len, fun i t h => ?_, e3.dist⟩
  by_cases m : t.mine = true
  · obtain ⟨h1, h2⟩ := own i t h m
    obtain ⟨v, h3, h4⟩ := e1.each i t h1
    exact ⟨v, by rw [h2]; exact h3, h4.step x⟩
  · obtain ⟨v, h3, h4⟩ := e3.each i t h
    refine ⟨v, h3, ?_⟩
    cases t with
    | d y => exact R.mono s h4
    | own l => exact absurd rfl m
    | ownK ks l => exact absurd rfl m
    | ownT ks l => exact absurd rfl m
    | lk p o vs l => exact absurd rfl m
theorem wipeR_own {ρ : Rho} : ∀ {vs : List Nat} {i : Nat} {s : Sl}, (wipeR ρ vs)[i]? = some (some s) → ρ[i]? = some (some s) ∧ i ∉ vs
  | [], _, _, h => ⟨h, by simp⟩
  | v :: vs, i, s, h => by
    unfold wipeR at h
    rw [List.getElem?_set] at h
    by_cases z : v = i
    · rw [if_pos z] at h
      split at h <;> cases h
    · rw [if_neg z] at h
      obtain ⟨h1, h2⟩ := wipeR_own h
      exact ⟨h1, by simp only [List.mem_cons, not_or]; exact ⟨fun e => z e.symm, h2⟩⟩
theorem wipe_out {σ : L2.St} : ∀ {vs : List Nat} {i : Nat}, i ∉ vs → (wipe σ vs)[i]? = σ[i]?
  | [], _, _ => rfl
  | v :: vs, i, h => by
    unfold wipe
    rw [List.getElem?_set_ne (fun z => h (by rw [z]; exact List.mem_cons_self))]
    exact wipe_out fun q => h (List.mem_cons_of_mem _ q)
section
variable {M : Cm} {ρ : Rho} {ka : List D → Prop} {te : TE}
/-- two clauses -/
theorem wo_lc2 {α β : Type} {wi wi1 : TI} {g g1 : TG} {vs vs1 : List Nat} (h : WV M wi ρ fun l => l.length < 100000 ∧ ∃ (xs : List α) (f : α → D) (ys : α → List β) (g' : α → β → D), l = xs.map f ∧ ((xs.map fun a => (ys a).map (g' a)).flatten).length < 100000 ∧
    (∀ a ∈ xs, WG M (· ∈ vs) g (f a) (wipeR ρ vs) fun ρ' => WI M wi1 ρ' fun l1 => ∃ f1 : β → D, l1 = (ys a).map f1 ∧ ∀ b ∈ ys a, WG M (· ∈ vs1) g1 (f1 b) (wipeR ρ' vs1) fun ρ2 => WE M te ρ2 fun d => d = g' a b) ∧ ka ((xs.map fun a => (ys a).map (g' a)).flatten)) : WO M (tLc2 wi g tYes wi1 g1 tYes te vs vs1) ρ ka := fun σ F H Q e fin =>
  s_lc2 (h σ F H _ e fun J l F1 H1 x1 ⟨G, Y, w1, w2, w3⟩ ⟨hn, xs, f, ys, g', hle, hsm, hs, hd⟩ => by
    intro L hL
    have nL := x1.ok.ne hL
    have fL := sub_none x1.gd.sub hL
    have e1 := e.step x1
    generalize hrf : (fun a => (ys a).map (g' a)) = rowsF at *
    have rfa : ∀ a, rowsF a = (ys a).map (g' a) := fun a => by rw [← hrf]
    have sz : ∀ i : Nat, ((xs.take i).map rowsF).flatten.length ≤ (xs.map rowsF).flatten.length := fun i => by
      conv => rhs; rw [← List.take_append_drop i xs, List.map_append, List.flatten_append, List.length_append]
      omega
    refine ⟨fun i m H' => m = l.length - i ∧ i ≤ l.length ∧ ∃ F' acc, XM M F1 H1 F' H' ∧ F' L = none ∧ Dl M.st H' L = some (.lst acc) ∧ RL M F' acc ((xs.take i).map rowsF).flatten, ⟨l.length, rfl, Nat.zero_le _, F1, [], (XE.refl x1.gd).mut hL, fL, by rw [Dl_upd nL]; exact upd_same, .nil⟩, ?_⟩
    rintro i m H' ⟨rfl, hi, F', acc, x2, fl, hl, hr⟩
    by_cases hlt : i < l.length
    · refine .inr ⟨w1.goes i H' hlt (w2 F' H' x2), fun H2 => ∃ F2 acc2, XM M F1 H1 F2 H2 ∧ F2 L = none ∧ Dl M.st H2 L = some (.lst acc2) ∧ RL M F2 acc2 ((xs.take (i + 1)).map rowsF).flatten, fun H2 ⟨F2, acc2, q⟩ => ⟨l.length - (i + 1), by omega, rfl, hlt, F2, acc2, q⟩, fun x H2 y => ?_⟩
      have hi' : i < xs.length := by rw [hle, List.length_map] at hlt; exact hlt
      have hxi : xs[i]? = some xs[i] := List.getElem?_eq_getElem hi'
      have hfe : l[i]? = some (f xs[i]) := by rw [hle, List.getElem?_map, hxi]; rfl
      obtain ⟨Fb, xb, rb⟩ := w3 i x F' H' H2 _ x2 (w1.yields i H' x H2 hlt (w2 F' H' x2) y) hfe
      have eb := (e1.step (x2.trans xb)).wipe vs
      have tk : ((xs.take (i + 1)).map rowsF).flatten = ((xs.take i).map rowsF).flatten ++ rowsF xs[i] := by
        rw [List.take_add_one, hxi, List.map_append, List.flatten_append]
        simp
      have szi := sz (i + 1)
      rw [tk, List.length_append, rfa, List.length_map] at szi
      refine hs xs[i] (List.getElem_mem _) x _ Fb H2 _ eb rb fun ρ3 σ3 F3 H3 x3 e3 l3 s3 o3 h3 => ⟨wipe_eq (σ := σ) (σ' := σ3) vs (by rw [l3, wipe_length]) s3, ?_⟩
      have own3 : ∀ (j : Nat) s, ρ3[j]? = some (some s) → s.mine = true → ρ[j]? = some (some s) ∧ σ3[j]? = σ[j]? := fun j s a m => by
        obtain ⟨a1, a2⟩ := o3 j s a m
        obtain ⟨b1, b2⟩ := wipeR_own a1
        exact ⟨b1, a2.trans (wipe_out b2)⟩
      show wi1 σ3 H3 _
      refine h3 σ3 F3 H3 _ e3 fun J1 l1 F4 H4 x4 ⟨G1, Y1, v1, v2, v3⟩ ⟨f1, hl1, hb⟩ => ?_
      have xb4 := xb.trans (x3.trans x4)
      have hl4 := xb4.ext.hh _ _ hl
      have fl4 := xb4.ext.fr L _ hl rfl fl
      have hr4 := hr.mono xb4.ff
      have x24 := x2.trans xb4
      have len1 : l1.length = (ys xs[i]).length := by rw [hl1, List.length_map]
      refine ⟨fun j k H5 => k = l1.length - j ∧ j ≤ l1.length ∧ ∃ F5 acc5, Same F4 F5 ∧ XM M F1 H1 F5 H5 ∧ F5 L = none ∧ Dl M.st H5 L = some (.lst acc5) ∧ RL M F5 acc5 (((xs.take i).map rowsF).flatten ++ ((ys xs[i]).take j).map (g' xs[i])), ⟨l1.length, rfl, Nat.zero_le _, F4, acc, Same.refl _, x24, fl4, hl4, by simpa using hr4⟩, ?_⟩
      rintro j k H5 ⟨rfl, hj, F5, acc5, s45, x15, fl5, hl5, hr5⟩
      by_cases hjl : j < l1.length
      · have hj' : j < (ys xs[i]).length := by omega
        have hyj : (ys xs[i])[j]? = some (ys xs[i])[j] := List.getElem?_eq_getElem hj'
        have hf1 : l1[j]? = some (f1 (ys xs[i])[j]) := by rw [hl1, List.getElem?_map, hyj]; rfl
        refine .inr ⟨v1.goes j H5 hjl (v2 F5 H5 s45 x15.gd), fun H6 => ∃ F6 acc6, Same F4 F6 ∧ XM M F1 H1 F6 H6 ∧ F6 L = none ∧ Dl M.st H6 L = some (.lst acc6) ∧ RL M F6 acc6 (((xs.take i).map rowsF).flatten ++ ((ys xs[i]).take (j + 1)).map (g' xs[i])), fun H6 ⟨F6, acc6, q⟩ => ⟨l1.length - (j + 1), by omega, rfl, hjl, F6, acc6, q⟩, fun x5 H6 y5 => ?_⟩
        obtain ⟨Fc, xc, rc⟩ := v3 j x5 F5 H5 H6 _ s45 x15.gd (v1.yields j H5 x5 H6 hjl (v2 F5 H5 s45 x15.gd) y5) hf1
        have x1c := x15.trans xc
        have e5 : Fr M ρ3 σ3 Fc H6 := e3.jump e1 own3 x1c ((x4.ff.trans s45).trans xc.ff)
        refine hb _ (List.getElem_mem hj') x5 _ Fc H6 _ (e5.wipe vs1) rc fun ρ7 σ7 F7 H7 x7 e7 l7 s7 o7 h7 => ⟨wipe_eq (σ := σ3) (σ' := σ7) vs1 (by rw [l7, wipe_length]) s7, ?_⟩
        show te σ7 H7 _
        refine h7 σ7 F7 H7 _ e7 fun v d F8 H8 x8 r8 h8 => ?_
        have xc8 := xc.trans (x7.trans x8)
        have hl8 := xc8.ext.hh _ _ hl5
        have fl8 := xc8.ext.fr L _ hl5 rfl fl5
        have alen := hr5.len
        rw [List.length_append, List.length_map, List.length_take] at alen
        refine ⟨acc5, Dl_sub _ _ hl8, Nat.lt_of_lt_of_le (show acc5.length < 100000 by omega) (by decide), F8, acc5 ++ [v], s45.trans xc8.ff, (x15.trans xc8).chg hl8 (Dl_none hL) fl8, fl8, by rw [Dl_upd nL]; exact upd_same, ?_⟩
        subst h8
        rw [List.take_add_one, hyj, List.map_append, ← List.append_assoc]
        exact (hr5.mono xc8.ff).app (.cons r8 .nil)
      · have : j = l1.length := by omega
        subst this
        refine .inl ⟨v1.stops H5 (v2 F5 H5 s45 x15.gd), F5, acc5, x15, fl5, hl5, ?_⟩
        rw [tk, rfa]
        rw [show (ys xs[i]).take l1.length = ys xs[i] from List.take_of_length_le (by omega)] at hr5
        exact hr5
    · have : i = l.length := by omega
      subst this
      refine .inl ⟨w1.stops H' (w2 F' H' x2), ?_⟩
      rw [List.take_of_length_le (by rw [hle, List.length_map]; omega)] at hr
      exact fin L acc _ F' H' (x1.trans x2) hl fl (x1.ext.hh.free (Dl_none hL)) hr hd)
/-! d[k] -/
def DGt (M : Cm) (x y : D) (k : D → Prop) : Prop := (∃ ks l s d, x = .dic ks l ∧ y = .str s ∧ valD ks l (Sum.inr s : Key) = some d ∧ k d) ∨ (∃ ks l m d, x = .dic ks l ∧ y = .int m ∧ valD ks l (Sum.inl m : Key) = some d ∧ k d) ∨ (∃ ks l ns d, x = .dit ks l ∧ y = .stn ns ∧ valD ks l (ns.map (Sum.inl : Int → Key)) = some d ∧ k d)
theorem we_dget {ta tb : TE} {k : D → Prop} (h : WB M ta ρ fun x => WB M tb ρ fun y => DGt M x y k) : WE M (tDGet ta tb) ρ k := fun σ F H Q e f =>
  h σ F H _ e fun x d F1 H1 x1 r1 h1 => h1 σ F1 H1 _ (e.step x1) fun y d2 F2 H2 x2 r2 h2 => by
    rcases h2 with ⟨ks, l, s, d, rfl, rfl, hv, q⟩ | ⟨ks, l, s, d, rfl, rfl, hv, q⟩ | ⟨ks, l, ns, d, rfl, rfl, hv, q⟩
    · cases r2.str
      obtain ⟨p, vs, rfl, h3, h4, h5⟩ := (r1.step x2).dic x2.gd
      obtain ⟨v, h6, h7⟩ := valD_RA h5 hv
      exact ⟨p, v, rfl, h6 ▸ DGet.k (k := Sum.inr s) h3, f _ _ F2 H2 (x1.trans x2) h7 q⟩
    · cases r2.int
      obtain ⟨p, vs, rfl, h3, h4, h5⟩ := (r1.step x2).dic x2.gd
      obtain ⟨v, h6, h7⟩ := valD_RA h5 hv
      exact ⟨p, v, rfl, h6 ▸ DGet.k (k := Sum.inl s) h3, f _ _ F2 H2 (x1.trans x2) h7 q⟩
    · obtain ⟨b, rfl, hb⟩ := r2.stn
      obtain ⟨p, vs, rfl, h3, h4, h5⟩ := (r1.step x2).dit x2.gd
      obtain ⟨v, h6, h7⟩ := valD_RA h5 hv
      exact ⟨p, v, rfl, h6 ▸ DGet.t (k := ns.map Sum.inl) h3 (by rw [List.map_map]; exact x2.gd.sub _ _ hb), f _ _ F2 H2 (x1.trans x2) h7 q⟩
theorem dg_T {ks : List (List Key)} {l : List D} {ns : List Int} {d : D} {k : D → Prop} (h : valD ks l (ns.map (Sum.inl : Int → Key)) = some d) (q : k d) : DGt M (.dit ks l) (.stn ns) k := .inr (.inr ⟨ks, l, ns, d, rfl, rfl, h, q⟩)
theorem dg_S {ks : List Key} {l : List D} {s : Str} {d : D} {k : D → Prop} (h : valD ks l (Sum.inr s : Key) = some d) (q : k d) : DGt M (.dic ks l) (.str s) k := .inl ⟨ks, l, s, d, rfl, rfl, h, q⟩
theorem dg_I {ks : List Key} {l : List D} {s : Int} {d : D} {k : D → Prop} (h : valD ks l (Sum.inl s : Key) = some d) (q : k d) : DGt M (.dic ks l) (.int s) k := .inr (.inl ⟨ks, l, s, d, rfl, rfl, h, q⟩)
theorem dg_hard {B : BD} {k : D → Prop} (q : k (.lst (B.hard.map D.int))) : DGt M (modelD B) (.str "hard") k := dg_S rfl q
theorem dg_places {B : BD} {k : D → Prop} (q : k (.int B.places)) : DGt M (modelD B) (.str "places") k := dg_S rfl q
theorem dg_told {B : BD} {k : D → Prop} (q : k (toldX B)) : DGt M (modelD B) (.str "told") k := dg_S rfl q
theorem dg_heavy {B : BD} {k : D → Prop} (q : k (.lst (B.heavy.map D.int))) : DGt M (modelD B) (.str "heavy") k := dg_S rfl q
theorem dg_meets {B : BD} {k : D → Prop} (q : k (meetsD B)) : DGt M (modelD B) (.str "meets") k := dg_S rfl q
theorem snd_cons (p : Str × Nat) (l : List (Str × Nat)) : List.map (fun x : Str × Nat => x.2) (p :: l) = p.2 :: List.map (fun x => x.2) l := rfl
theorem snd_nil : List.map (fun x : Str × Nat => x.2) [] = [] := rfl
end
end G

namespace G
open PySem PySem.Spec PyProof.Rows L2
/-! ## dicts by data -/
section
variable {κ : Type} [DecidableEq κ]
def hasK (ks : List κ) (x : κ) : Bool := decide (x ∈ ks)
theorem hasK_iff {ks : List κ} {x : κ} : hasK ks x = true ↔ x ∈ ks := decide_eq_true_iff
theorem hasK_no {ks : List κ} {x : κ} : hasK ks x = false ↔ x ∉ ks := decide_eq_false_iff_not
def putKs (ks : List κ) (x : κ) : List κ := if x ∈ ks then ks else ks ++ [x]
def putDs {α : Type} (ks : List κ) (l : List α) (x : κ) (d : α) : List α := if x ∈ ks then List.zipWith (fun q y => if q = x then d else y) ks l else l ++ [d]
theorem any_key (x : κ) : ∀ (ks : List κ) (vs : List V), ks.length = vs.length → ((ks.zip vs).any fun kv => decide (kv.1 = x)) = decide (x ∈ ks)
  | [], [], _ => rfl
  | [], _ :: _, h => by simp at h
  | _ :: _, [], h => by simp at h
  | q :: ks, v :: vs, h => by
    rw [List.zip_cons_cons, List.any_cons, any_key x ks vs (by simpa using h)]
    by_cases z : q = x
    · subst z; simp
    · simp [z, Ne.symm z]
theorem putK_zip (ks : List κ) (vs : List V) (x : κ) (v : V) (h : ks.length = vs.length) : putK (ks.zip vs) x v = (putKs ks x).zip (putDs ks vs x v) := by
  unfold putK putKs putDs
  rw [any_key x ks vs h]
  by_cases m : x ∈ ks
  · rw [decide_eq_true m, if_pos rfl, if_pos m, if_pos m]
    clear m
    induction ks generalizing vs with
    | nil => rfl
    | cons q ks ih =>
      cases vs with
      | nil => simp at h
      | cons y vs =>
        rw [List.zip_cons_cons, List.map_cons, List.zipWith_cons_cons, List.zip_cons_cons, ih vs (by simpa using h)]
        by_cases z : q = x
        · simp [z]
        · simp [z]
  · rw [decide_eq_false m, if_neg (by decide), if_neg m, if_neg m, List.zip_append h]
    rfl
theorem putKs_len {α : Type} (ks : List κ) (l : List α) (x : κ) (d : α) (h : ks.length = l.length) : (putKs ks x).length = (putDs ks l x d).length := by
  unfold putKs putDs
  by_cases m : x ∈ ks
  · rw [if_pos m, if_pos m]
    simp
    omega
  · rw [if_neg m, if_neg m]
    simp [h]
theorem valV_zip_isSome (x : κ) (ks : List κ) (vs : List V) (h : ks.length = vs.length) : (valV (ks.zip vs) x).isSome = hasK ks x := by
  rw [← valV_any, any_key x ks vs h]
  rfl
end
section
variable {M : Cm}
theorem RL.put {κ : Type} [DecidableEq κ] {F : Hp} {x : κ} {v : V} {d : D} (r : RV M F v d) : ∀ {ks : List κ} {vs : List V} {l : List D}, RL M F vs l → RL M F (putDs ks vs x v) (putDs ks l x d) := fun {ks vs l} h => by
  unfold putDs
  by_cases m : x ∈ ks
  · rw [if_pos m, if_pos m]
    clear m
    induction ks generalizing vs l with
    | nil => cases h <;> exact .nil
    | cons q ks ih =>
      cases h with
      | nil => exact .nil
      | cons a b =>
        rw [List.zipWith_cons_cons, List.zipWith_cons_cons]
        refine .cons ?_ (ih b)
        by_cases z : q = x
        · rw [if_pos z, if_pos z]; exact r
        · rw [if_neg z, if_neg z]; exact a
  · rw [if_neg m, if_neg m]
    exact h.app (.cons r .nil)
end
section
variable {M : Cm} {ρ : Rho} {k : D → Prop} {nx bk ct : Rho → Prop} {rt : Sl → Rho → Prop} {ta tb te ty td tv : TE} {tr : TA} {i : Nat} {d : D} {l : List D}
/-- new dicts of one's own -/
def WOK (M : Cm) (t : TE) (ρ : Rho) (k : List Key → List D → Prop) : Prop := ∀ σ F H Q, Fr M ρ σ F H → (∀ p ks vs l F' H', XM M F H F' H' → Dl M.st H' p = some (.dK (ks.zip vs)) → ks.length = vs.length → F' p = none → Dl M.st H p = none → RL M F' vs l → k ks l → Q (.ref p) H') → t σ H Q
def WOT (M : Cm) (t : TE) (ρ : Rho) (k : List (List Key) → List D → Prop) : Prop := ∀ σ F H Q, Fr M ρ σ F H → (∀ p ks vs l F' H', XM M F H F' H' → Dl M.st H' p = some (.dT (ks.zip vs)) → ks.length = vs.length → F' p = none → Dl M.st H p = none → RL M F' vs l → k ks l → Q (.ref p) H') → t σ H Q
theorem WOK.we (h : WOK M te ρ fun ks l => k (.dic ks l)) : WE M te ρ k := fun σ F H Q e q => h σ F H Q e fun p ks vs l F' H' x h1 h5 h2 h3 h4 => q _ _ (upd F' p (.dK (ks.zip vs))) H' (x.frz h3 h2 h1) (.dic upd_same h5 (h4.mono (same_upd h2)))
theorem WOT.we (h : WOT M te ρ fun ks l => k (.dit ks l)) : WE M te ρ k := fun σ F H Q e q => h σ F H Q e fun p ks vs l F' H' x h1 h5 h2 h3 h4 => q _ _ (upd F' p (.dT (ks.zip vs))) H' (x.frz h3 h2 h1) (.dit upd_same h5 (h4.mono (same_upd h2)))
theorem ws_setOwnK (h : WOK M te ρ fun ks l => nx (ρ.set i (some (.ownK ks l)))) : WS M (tAsgO te i) ρ nx rt bk ct := fun σ F H E e f1 f2 f3 f4 => h σ F H _ e fun p ks vs l F1 H1 x1 h1 h5 h2 h3 h4 q => by
  have e1 := e.step x1
  refine f1 _ _ F1 H1 x1.ff (e1.putO (i := i) (v := .ref p) (s0 := .ownK ks l) ⟨p, vs, rfl, h1, h5, h2, e.x.ext.hh.free h3, h4⟩ fun j s hj hs m z => ?_) q
  obtain ⟨v, q1, q2⟩ := e.each j s hs
  obtain ⟨p', o, rfl, h5, _⟩ := q2.mine_at m
  rw [z] at q1
  cases q1
  rw [h3] at h5
  cases h5
theorem ws_setOwnT (h : WOT M te ρ fun ks l => nx (ρ.set i (some (.ownT ks l)))) : WS M (tAsgO te i) ρ nx rt bk ct := fun σ F H E e f1 f2 f3 f4 => h σ F H _ e fun p ks vs l F1 H1 x1 h1 h5 h2 h3 h4 q => by
  have e1 := e.step x1
  refine f1 _ _ F1 H1 x1.ff (e1.putO (i := i) (v := .ref p) (s0 := .ownT ks l) ⟨p, vs, rfl, h1, h5, h2, e.x.ext.hh.free h3, h4⟩ fun j s hj hs m z => ?_) q
  obtain ⟨v, q1, q2⟩ := e.each j s hs
  obtain ⟨p', o, rfl, h5, _⟩ := q2.mine_at m
  rw [z] at q1
  cases q1
  rw [h3] at h5
  cases h5
theorem wok_new {kk : List Key → List D → Prop} (h : kk [] []) : WOK M tDNewK ρ kk := fun σ F H Q e f p np =>
  f p [] [] [] F _ ((XE.refl e.gd).mut np) (by rw [Dl_upd (e.gd.ok.ne np)]; exact upd_same) rfl (sub_none e.gd.sub np) (Dl_none np) .nil h
theorem wot_new {kk : List (List Key) → List D → Prop} (h : kk [] []) : WOT M tDNewT ρ kk := fun σ F H Q e f p np =>
  f p [] [] [] F _ ((XE.refl e.gd).mut np) (by rw [Dl_upd (e.gd.ok.ne np)]; exact upd_same) rfl (sub_none e.gd.sub np) (Dl_none np) .nil h
/-- a key -/
def keyD : Key → D
  | .inl m => .int m
  | .inr s => .str s
theorem RB.key {F H : Hp} {v : V} {x : Key} (h : RB M F H v (keyD x)) : v = kV x := by
  cases x with
  | inl m => exact h.int
  | inr s => exact h.str
/-- {e: f} -/
theorem wok_disp1 {tk : TE} {kk : List Key → List D → Prop} (h : WE M tk ρ fun y => ∃ x, y = keyD x ∧ WE M tv ρ fun d => kk [x] [d]) : WOK M (tDisp [(tk, tv)]) ρ kk := fun σ F H Q e f p np => by
  have g := e.gd
  have x0 : XM M F H F (upd H p (.dK [])) := (XE.refl g).mut np
  have hp0 : Dl M.st (upd H p (.dK [])) p = some (.dK []) := by rw [Dl_upd (g.ok.ne np)]; exact upd_same
  refine h σ F _ _ (e.step x0) fun y dy F1 H1 x1 r1 ⟨x, z, h1⟩ => h1 σ F1 H1 _ (e.step (x0.trans x1)) fun v d F2 H2 x2 r2 q => ?_
  subst z
  have x12 := x1.trans x2
  have hp2 := x12.ext.hh _ _ hp0
  have fp2 := x12.ext.fr p _ hp0 rfl (sub_none g.sub np)
  have ey : y = kV x := (show RB M F1 H1 y (keyD x) from .inl r1).key
  refine ⟨Dl_sub _ _ hp2, [(x, v)], by rw [ey]; rfl, by show 1 ≤ 15; decide, ?_⟩
  refine f p [x] [v] [d] F2 _ ((x0.trans x12).chg hp2 (Dl_none np) fp2) ?_ rfl fp2 (Dl_none np) (.cons r2 .nil) q
  rw [Dl_upd (Dl_ne hp2), upd_same]
  simp [mergeK, putK]
/-- y in d -/
def DIn (M : Cm) (y x : D) (k : Bool → Prop) : Prop := (∃ c ks l, y = keyD c ∧ x = .dic ks l ∧ k (hasK ks c)) ∨ (∃ ns ks l, y = .stn ns ∧ x = .dit ks l ∧ k (hasK ks (ns.map (Sum.inl : Int → Key))))
theorem din_get {F H : Hp} {v u : V} {y x : D} {k : Bool → Prop} (g : Gd M.st F H) (rv : RB M F H v y) (ru : RB M F H u x) (h : DIn M y x k) : ∃ a o, u = .ref a ∧ DGet H a v o ∧ k o.isSome := by
  rcases h with ⟨c, ks, l, rfl, rfl, q⟩ | ⟨ns, ks, l, rfl, rfl, q⟩
  · cases rv.key
    obtain ⟨p, vs, rfl, h3, h4, h5⟩ := ru.dic g
    refine ⟨p, _, rfl, DGet.k (k := c) h3, ?_⟩
    rw [valV_zip_isSome c ks vs h4]
    exact q
  · obtain ⟨b, rfl, hb⟩ := rv.stn
    obtain ⟨p, vs, rfl, h3, h4, h5⟩ := ru.dit g
    refine ⟨p, _, rfl, DGet.t (k := ns.map Sum.inl) h3 (by rw [List.map_map]; exact g.sub _ _ hb), ?_⟩
    rw [valV_zip_isSome _ ks vs h4]
    exact q
theorem we_din (h : WB M ty ρ fun y => WB M td ρ fun x => DIn M y x fun b => k (.bl b)) : WE M (tDIn ty td) ρ k := fun σ F H Q e f =>
  h σ F H _ e fun v y F1 H1 x1 r1 h1 => h1 σ F1 H1 _ (e.step x1) fun u x F2 H2 x2 r2 h2 => by
    obtain ⟨a, o, e1, e2, q⟩ := din_get x2.gd (r1.step x2) r2 h2
    exact ⟨a, o, e1, e2, f _ _ F2 H2 (x1.trans x2) (.bl _) q⟩
theorem we_dnotin (h : WB M ty ρ fun y => WB M td ρ fun x => DIn M y x fun b => k (.bl (!b))) : WE M (tDNotIn ty td) ρ k := fun σ F H Q e f =>
  h σ F H _ e fun v y F1 H1 x1 r1 h1 => h1 σ F1 H1 _ (e.step x1) fun u x F2 H2 x2 r2 h2 => by
    obtain ⟨a, o, e1, e2, q⟩ := din_get x2.gd (r1.step x2) r2 h2
    exact ⟨a, o, e1, e2, f _ _ F2 H2 (x1.trans x2) (.bl _) q⟩
theorem din_I {m : Int} {ks : List Key} {kb : Bool → Prop} (q : kb (hasK ks (Sum.inl m : Key))) : DIn M (.int m) (.dic ks l) kb := .inl ⟨.inl m, ks, l, rfl, rfl, q⟩
theorem din_S {m : Str} {ks : List Key} {kb : Bool → Prop} (q : kb (hasK ks (Sum.inr m : Key))) : DIn M (.str m) (.dic ks l) kb := .inl ⟨.inr m, ks, l, rfl, rfl, q⟩
theorem din_T {ns : List Int} {ks : List (List Key)} {kb : Bool → Prop} (q : kb (hasK ks (ns.map (Sum.inl : Int → Key)))) : DIn M (.stn ns) (.dit ks l) kb := .inr ⟨ns, ks, l, rfl, rfl, q⟩
/-- d[y] = v, d one's own -/
theorem ws_dput {ks : List Key} (hx : ρ[i]? = some (some (.ownK ks l))) (h : WE M tv ρ fun d => WE M ty ρ fun y => ∃ c, y = keyD c ∧ ks.length < 100000 ∧ nx (ρ.set i (some (.ownK (putKs ks c) (putDs ks l c d))))) : WS M (sDPut (tVar i) ty tv) ρ nx rt bk ct := fun σ F H E e f1 f2 f3 f4 => by
  refine h σ F H _ e fun v d F1 H1 x1 r1 h1 => ?_
  have e1 := e.step x1
  obtain ⟨v', h2, p, vs, rfl, h3, h9, h4, h5, h6⟩ := e1.each i _ hx
  refine ⟨_, h2, h1 σ F1 H1 _ e1 fun w d2 F2 H2 x2 r2 ⟨c, z, hl, q⟩ => ?_⟩
  subst z
  have ew : w = kV c := (show RB M F2 H2 w (keyD c) from .inl r2).key
  subst ew
  have e2 := e1.step x2
  have h3' := x2.ext.hh _ _ h3
  have h4' := x2.ext.fr p _ h3 rfl h4
  have h6' := RA.mono x2.ff h6
  refine ⟨p, _, rfl, DPut.k (k := c) (Dl_sub _ _ h3') (Nat.lt_of_lt_of_le (show (ks.zip vs).length < 100000 by rw [List.length_zip]; omega) (by decide)), ?_⟩
  rw [putK_zip ks vs c v h9]
  exact f1 _ σ F2 _ (x1.trans x2).ff (e2.chg hx rfl h2 h3' h4' h5 (s1 := .ownK (putKs ks c) (putDs ks l c d)) ⟨p, _, rfl, by rw [Dl_upd (Dl_ne h3')]; exact upd_same, putKs_len _ _ _ _ h9, h4', h5, RL.put (r1.mono x2.ff) h6'⟩) q
theorem ws_dputT {ks : List (List Key)} (hx : ρ[i]? = some (some (.ownT ks l))) (h : WE M tv ρ fun d => WE M ty ρ fun y => ∃ ns : List Int, y = .stn ns ∧ ks.length < 100000 ∧ nx (ρ.set i (some (.ownT (putKs ks (ns.map (Sum.inl : Int → Key))) (putDs ks l (ns.map (Sum.inl : Int → Key)) d))))) : WS M (sDPut (tVar i) ty tv) ρ nx rt bk ct := fun σ F H E e f1 f2 f3 f4 => by
  refine h σ F H _ e fun v d F1 H1 x1 r1 h1 => ?_
  have e1 := e.step x1
  obtain ⟨v', h2, p, vs, rfl, h3, h9, h4, h5, h6⟩ := e1.each i _ hx
  refine ⟨_, h2, h1 σ F1 H1 _ e1 fun w d2 F2 H2 x2 r2 ⟨ns, z, hl, q⟩ => ?_⟩
  subst z
  obtain ⟨b, rfl, hb⟩ := (show RB M F2 H2 w (.stn ns) from .inl r2).stn
  have e2 := e1.step x2
  have h3' := x2.ext.hh _ _ h3
  have h4' := x2.ext.fr p _ h3 rfl h4
  have h6' := RA.mono x2.ff h6
  refine ⟨p, _, rfl, DPut.t (k := ns.map Sum.inl) (Dl_sub _ _ h3') (by rw [List.map_map]; exact x2.gd.sub _ _ hb) (Nat.lt_of_lt_of_le (show (ks.zip vs).length < 100000 by rw [List.length_zip]; omega) (by decide)), ?_⟩
  rw [putK_zip ks vs _ v h9]
  exact f1 _ σ F2 _ (x1.trans x2).ff (e2.chg hx rfl h2 h3' h4' h5 (s1 := .ownT _ _) ⟨p, _, rfl, by rw [Dl_upd (Dl_ne h3')]; exact upd_same, putKs_len _ _ _ _ h9, h4', h5, RL.put (r1.mono x2.ff) h6'⟩) q
end
end G

namespace G
open PySem PySem.Spec PyProof.Rows L2
section
variable {X : Cx} {K : PySem.W.Frag}
/-- d.update(e) -/
def rUpd : V → List V → Hp → VK → Prop := fun x vs H Q => ∃ a b kvs more, x = .ref a ∧ vs = [.ref b] ∧ a ≠ b ∧ H a = some (.dK kvs) ∧ H b = some (.dK more) ∧ kvs.length + more.length ≤ 100000 ∧ Q .non (upd H a (.dK (mergeK kvs more)))
theorem mt_update : MtR X "dict.update" rUpd := by
  intro pins s σ H x vs v us Q I rx rv h
  obtain ⟨a, b, kvs, more, rfl, rfl, ne, ha, hb, hz, q⟩ := h
  cases rx
  obtain ⟨u, rfl, ru⟩ := rv.one
  cases ru
  obtain ⟨z, hd, va, rel, dd⟩ := dk_of I.hok ha
  obtain ⟨z2, hd2, vb, rel2, dd2⟩ := dk_of I.hok hb
  have hz' : kvs.length + more.length ≤ sizeLine := Nat.le_trans hz (by decide)
  refine call_meetsIn PySem.F.slot_dict_update dd.typeIs PySem.F.entry_dict_update (PySem.F.args_dict_update_2 _ _) (meets_dict_update (mixKind X.prog X.w) a b ne hd2) ⟨va, vb, dd, dd2, by rw [← rel.length, ← rel2.length]; exact hz', fun h' dd' _ hs => ?_⟩
  have he : ∃ q, h'.get? a = some q := let ⟨q, _, _, hq, _⟩ := dd'; ⟨q, hq⟩
  exact ⟨.non, _, d_write (t' := s.toks) I (by rw [ha]; exact True.intro) hs he (dk_new (Nat.le_trans (length_mergeK more kvs) hz') hd (KV.merge rel2 rel) dd'), rfl, q⟩
def rSortedDI : List V → Hp → VK → Prop := fun xs H Q => ∃ (a : Addr) (kvs : List (Key × V)) (ks : List Int), xs = [.ref a] ∧ Rd H a (.dK kvs) ∧ kvs.map (·.1) = ks.map Sum.inl ∧ ks.length < 64 ∧
    ∀ (ys : List Int) (p : Addr), ys.Perm ks → ys.Pairwise (· ≤ ·) → H p = none → Q (.ref p) (upd H p (.lst (ys.map V.int)))
abbrev rSortedV (K : PySem.W.Frag) : List V → Hp → VK → Prop := fun vs H Q => rSortedU K vs H Q ∨ rSortedDI vs H Q
theorem k_sortedV (h : X.K = K) (hc : X.calm = true) : CallR X (.builtin "sorted") (rSortedV K) := cr_or (k_sorted h) (call_sortedDI hc)
def rListT : List V → Hp → VK → Prop := fun xs H Q => ∃ d kvs, xs = [V.ref d] ∧ Rd H d (.dT kvs) ∧ ∀ p bs, H p = none → IsKeys H kvs bs → Q (.ref p) (upd H p (.lst (bs.map V.ref)))
abbrev rListV (K : PySem.W.Frag) : List V → Hp → VK → Prop := fun vs H Q => rListOf K vs H Q ∨ rListD vs H Q ∨ rListT vs H Q
theorem k_listV (h : X.K = K) (hc : X.calm = true) : CallR X (.type "list") (rListV K) := cr_or (k_list h) (cr_or (call_list_dK hc) (call_list_dT hc))
def rLenD : List V → Hp → VK → Prop := fun xs H Q => ∃ a kvs, xs = [V.ref a] ∧ Rd H a (.dK kvs) ∧ Q (.int kvs.length) H
theorem call_len_dK : CallR X (.builtin "len") rLenD := by
  intro pins s σ H xs us Q I r h
  obtain ⟨a, kvs, rfl, hd, q⟩ := h
  obtain ⟨u, rfl, rx⟩ := vals1 r
  obtain rfl : u = Value.ref a := rx
  exact d_len I hd fun t s' I' => ⟨.int kvs.length, H, I', ⟨t, rfl⟩, q⟩
abbrev rLenV (K : PySem.W.Frag) : List V → Hp → VK → Prop := fun vs H Q => rLen K vs H Q ∨ rLenD vs H Q ∨ rLenT vs H Q
theorem k_lenV (h : X.K = K) : CallR X (.builtin "len") (rLenV K) := cr_or (k_len h) (cr_or call_len_dK call_len_dT)
end
section
variable {M : Cm} {ρ : Rho} {k : D → Prop} {ka : List D → Prop} {nx bk ct : Rho → Prop} {rt : Sl → Rho → Prop} {ta tb te ty td tv tk : TE} {tr : TA} {i : Nat} {d : D} {l : List D}
theorem zip_fst {κ : Type} : ∀ (ks : List κ) (vs : List V), ks.length = vs.length → (ks.zip vs).map (·.1) = ks
  | [], [], _ => rfl
  | [], _ :: _, h => by simp at h
  | _ :: _, [], h => by simp at h
  | q :: ks, v :: vs, h => by rw [List.zip_cons_cons, List.map_cons, zip_fst ks vs (by simpa using h)]
theorem cro_orL {r s : List V → Hp → VK → Prop} {ds : List D} (h : CRO M r ds ka) : CRO M (fun vs H Q => r vs H Q ∨ s vs H Q) ds ka := fun F H vs Q g rr f => .inl (h F H vs Q g rr f)
theorem cro_orR {r s : List V → Hp → VK → Prop} {ds : List D} (h : CRO M s ds ka) : CRO M (fun vs H Q => r vs H Q ∨ s vs H Q) ds ka := fun F H vs Q g rr f => .inr (h F H vs Q g rr f)
theorem cro_sortD {ns : List Int} (hl : ns.length < 64) (q : ∀ ms : List Int, ms.Perm ns → ms.Pairwise (· ≤ ·) → ka (ms.map D.int)) : CRO M (rSortedV M.K) [.dic (ns.map Sum.inl) l] ka := fun F H vs Q g rr f => by
  obtain ⟨v, rfl, r⟩ := rbs1 rr
  obtain ⟨p, us, rfl, h1, h2, h3⟩ := r.dic g
  exact .inr ⟨p, _, ns, rfl, .inl h1, zip_fst _ _ h2, hl, fun ms p' h4 h5 np => cro_new g (RA.ofInts ms) np (q ms h4 h5) f⟩
theorem cro_sortVL {ns : List Int} (hl : ns.length < 64) (q : ∀ ms : List Int, ms.Perm ns → ms.Pairwise (· ≤ ·) → ka (ms.map D.int)) : CRO M (rSortedV M.K) [.lst (ns.map D.int)] ka := cro_orL (cro_sortL hl q)
theorem cro_listVL (q : ka l) : CRO M (rListV M.K) [.lst l] ka := cro_orL (cr_listL q)
theorem cro_listVT (q : ka l) : CRO M (rListV M.K) [.tup l] ka := cro_orL (cr_listT q)
theorem cro_listVS {ns : List Int} (q : ka (ns.map D.int)) : CRO M (rListV M.K) [.stn ns] ka := cro_orL (cr_listS q)
theorem cro_listK {ks : List Key} (q : ka (ks.map keyD)) : CRO M (rListV M.K) [.dic ks l] ka := fun F H vs Q g rr f => by
  obtain ⟨v, rfl, r⟩ := rbs1 rr
  obtain ⟨p, us, rfl, h1, h2, h3⟩ := r.dic g
  refine .inr (.inl ⟨p, _, rfl, h1, fun p' np => cro_new g ?_ np q f⟩)
  rw [show (ks.zip us).map (fun kv => kV kv.1) = ks.map kV by rw [← zip_fst ks us h2, List.map_map, zip_fst ks us h2]; rfl]
  clear h1 h2 h3 q r rr
  induction ks with
  | nil => exact .nil
  | cons c ks ih =>
    refine .cons ?_ ih
    cases c with
    | inl m => exact .int m
    | inr s => exact .str s
/-- tuples frozen, one by one -/
theorem frz_keys {F H : Hp} : ∀ {nss : List (List Int)} {us : List V} {bs : List Addr} {F1 : Hp}, us.length = nss.length → XM M F H F1 H → IsKeys (Dl M.st H) ((nss.map fun ns => ns.map (Sum.inl : Int → Key)).zip us) bs → ∃ F', XM M F H F' H ∧ Same F1 F' ∧ RL M F' (bs.map V.ref) (nss.map D.stn)
  | [], [], bs, F1, _, x, h => by cases h; exact ⟨F1, x, Same.refl _, .nil⟩
  | [], _ :: _, _, _, hl, _, _ => by simp at hl
  | _ :: _, [], _, _, hl, _, _ => by simp at hl
  | ns :: nss, u :: us, bs, F1, hl, x, h => by
    cases h with
    | @cons _ b _ bs h1 h2 =>
      have hb : Dl M.st H b = some (.tup (ns.map V.int)) := by rw [h1, List.map_map]; rfl
      have x1 : XM M F H (upd F1 b (.tup (ns.map V.int))) H := x.tup hb
      obtain ⟨F', x2, s2, r2⟩ := frz_keys (by simpa using hl) x1 h2
      refine ⟨F', x2, ?_, .cons (.stn (s2 _ _ upd_same)) r2⟩
      refine Same.trans (fun c o q => ?_) s2
      by_cases z : c = b
      · subst z
        have := x.ext.fh c o q
        rw [hb] at this
        rw [upd_same]
        exact this
      · rw [upd_ne z]
        exact q
theorem isKeys_dl {st : Option Addr} {H : Hp} (g : StG st H) : ∀ {kvs : List (List Key × V)} {bs : List Addr}, IsKeys H kvs bs → IsKeys (Dl st H) kvs bs
  | _, _, .nil => .nil
  | _, _, .cons h t => .cons (by
    cases st with
    | none => exact h
    | some c =>
      show del H c _ = _
      rw [del_ne]
      · exact h
      · intro z
        subst z
        obtain ⟨s, hs, _⟩ := g _ rfl
        rw [h] at hs
        cases hs) (isKeys_dl g t)
theorem cro_listT2 {nss : List (List Int)} (q : ka (nss.map D.stn)) : CRO M (rListV M.K) [.dit (nss.map fun ns => ns.map Sum.inl) l] ka := fun F H vs Q g rr f => by
  obtain ⟨v, rfl, r⟩ := rbs1 rr
  obtain ⟨p, us, rfl, h1, h2, h3⟩ := r.dit g
  refine .inr (.inr ⟨p, _, rfl, .inl h1, fun p' bs np hk => ?_⟩)
  obtain ⟨F', x1, s1, r1⟩ := frz_keys (M := M) (by simpa using h2.symm) (XE.refl g) (isKeys_dl g.ok hk)
  exact f p' _ _ F' _ (x1.mut np) (by rw [Dl_upd (g.ok.ne np)]; exact upd_same) (sub_none x1.gd.sub np) (Dl_none np) r1 q
theorem cr_lenV1 {ds : List D} (h : CR M (rLen M.K) ds k) : CR M (rLenV M.K) ds k := cr_or1 h
theorem cr_lenDK {ks : List Key} (q : k (.int ks.length)) : CR M (rLenV M.K) [.dic ks l] k := fun F H vs Q g rr f => by
  obtain ⟨v, rfl, r⟩ := rbs1 rr
  obtain ⟨p, us, rfl, h1, h2, h3⟩ := r.dic g
  refine .inr (.inl ⟨p, _, rfl, .inl h1, ?_⟩)
  rw [List.length_zip, ← h2, Nat.min_self]
  exact f _ _ F H (XE.refl g) (.int _) q
theorem cr_lenDT {ks : List (List Key)} (q : k (.int ks.length)) : CR M (rLenV M.K) [.dit ks l] k := fun F H vs Q g rr f => by
  obtain ⟨v, rfl, r⟩ := rbs1 rr
  obtain ⟨p, us, rfl, h1, h2, h3⟩ := r.dit g
  refine .inr (.inr ⟨p, _, rfl, h1, ?_⟩)
  rw [List.length_zip, ← h2, Nat.min_self]
  exact f _ _ F H (XE.refl g) (.int _) q
/-! d.update(e) -/
def mergeKD : List Key → List D → List Key → List D → List Key × List D
  | ks, l, c :: cs, d :: ds => mergeKD (putKs ks c) (putDs ks l c d) cs ds
  | ks, l, _, _ => (ks, l)
theorem merge_RL {F : Hp} : ∀ {cs : List Key} {us : List V} {ds : List D} {ks : List Key} {vs : List V} {l : List D}, ks.length = vs.length → cs.length = us.length → RL M F vs l → RL M F us ds →
    ∃ vs', mergeK (ks.zip vs) (cs.zip us) = (mergeKD ks l cs ds).1.zip vs' ∧ (mergeKD ks l cs ds).1.length = vs'.length ∧ RL M F vs' (mergeKD ks l cs ds).2
  | [], _, ds, ks, vs, l, h1, _, r1, _ => ⟨vs, by simp [mergeK, mergeKD], by simp [mergeKD, h1], by simp [mergeKD]; exact r1⟩
  | c :: cs, [], _, _, _, _, _, h, _, _ => by simp at h
  | c :: cs, u :: us, ds, ks, vs, l, h1, h2, r1, r2 => by
    cases r2 with
    | @cons _ _ d ds ra rb =>
      have := merge_RL (cs := cs) (us := us) (ds := ds) (ks := putKs ks c) (vs := putDs ks vs c u) (l := putDs ks l c d) (putKs_len _ _ _ _ h1) (by simpa using h2) (RL.put ra r1) rb
      obtain ⟨vs', e1, e2, e3⟩ := this
      refine ⟨vs', ?_, e2, e3⟩
      rw [List.zip_cons_cons]
      show mergeK (putK (ks.zip vs) c u) (cs.zip us) = _
      rw [putK_zip _ _ _ _ h1]
      exact e1
theorem ws_upd {ks : List Key} (hx : ρ[i]? = some (some (.ownK ks l))) (h : WA M tr ρ fun ds => ∃ cs es, ds = [.dic cs es] ∧ ks.length + cs.length ≤ 100000 ∧ nx (ρ.set i (some (.ownK (mergeKD ks l cs es).1 (mergeKD ks l cs es).2)))) : WS M (tDrop (tBM M.K "dict" rUpd (tVar i) tr)) ρ nx rt bk ct := fun σ F H E e f1 f2 f3 f4 => by
  obtain ⟨v, h1, p, vs, rfl, h2, h6, h3, h4, h5⟩ := e.each i _ hx
  refine ⟨_, h1, .inr (.inr (.inl ⟨rfl, .inl ⟨_, Dl_sub _ _ h2⟩⟩)), h σ F H _ e fun us ds F1 H1 x1 r1 ⟨cs, es, z, hl, q⟩ => ?_⟩
  subst z
  have e1 := e.step x1
  have h2' := x1.ext.hh _ _ h2
  have h3' := x1.ext.fr p _ h2 rfl h3
  have h5' := RA.mono x1.ff h5
  cases r1 with
  | cons ra rb =>
    cases rb
    cases ra with
    | @dic b _ ws _ d1 d2 d3 =>
      obtain ⟨vs', m1, m2, m3⟩ := merge_RL (ks := ks) h6 d2 h5' d3
      refine ⟨p, b, _, _, rfl, rfl, fun z => ?_, Dl_sub _ _ h2', x1.gd.sub _ _ d1, by rw [List.length_zip, List.length_zip]; omega, ?_⟩
      · subst z
        rw [h3'] at d1
        cases d1
      · rw [m1]
        exact f1 _ σ F1 _ x1.ff (e1.chg hx rfl h1 h2' h3' h4 (s1 := .ownK _ _) ⟨p, vs', rfl, by rw [Dl_upd (Dl_ne h2')]; exact upd_same, m2, h3', h4, m3⟩) q
/-! {e: f for x in xs} -/
theorem putKs_new {κ : Type} [DecidableEq κ] {ks : List κ} {x : κ} (h : x ∉ ks) : putKs ks x = ks ++ [x] := by unfold putKs; rw [if_neg h]
theorem putDs_new {κ α : Type} [DecidableEq κ] {ks : List κ} {l : List α} {x : κ} {d : α} (h : x ∉ ks) : putDs ks l x d = l ++ [d] := by unfold putDs; rw [if_neg h]
theorem wok_dc {α : Type} {wi : TI} {g : TG} {vs : List Nat} {kk : List Key → List D → Prop} (h : WV M wi ρ fun l => l.length < 100000 ∧ ∃ (xs : List α) (f : α → D) (c : α → Key) (g' : α → D), l = xs.map f ∧ (xs.map c).Nodup ∧
    (∀ a ∈ xs, WG M (· ∈ vs) g (f a) (wipeR ρ vs) fun ρ' => WE M tk ρ' fun y => y = keyD (c a) ∧ WE M tv ρ' fun d => d = g' a) ∧ kk (xs.map c) (xs.map g')) : WOK M (tDc wi g tYes tk tv vs) ρ kk := fun σ F H Q e fin =>
  h σ F H _ e fun J l F1 H1 x1 ⟨G, Y, w1, w2, w3⟩ ⟨hn, xs, f, c, g', hle, nd, hs, hd⟩ => by
    intro L hL
    have nL := x1.ok.ne hL
    have fL := sub_none x1.gd.sub hL
    have e1 := e.step x1
    refine ⟨fun i m H' => m = l.length - i ∧ i ≤ l.length ∧ ∃ F' us, XM M F1 H1 F' H' ∧ F' L = none ∧ Dl M.st H' L = some (.dK (((xs.take i).map c).zip us)) ∧ ((xs.take i).map c).length = us.length ∧ RL M F' us ((xs.take i).map g'), ⟨l.length, rfl, Nat.zero_le _, F1, [], (XE.refl x1.gd).mut hL, fL, by rw [Dl_upd nL]; exact upd_same, by simp, .nil⟩, ?_⟩
    rintro i m H' ⟨rfl, hi, F', us, x2, fl, hl, hul, hr⟩
    by_cases hlt : i < l.length
    · refine .inr ⟨w1.goes i H' hlt (w2 F' H' x2), fun H2 => ∃ F2 us2, XM M F1 H1 F2 H2 ∧ F2 L = none ∧ Dl M.st H2 L = some (.dK (((xs.take (i + 1)).map c).zip us2)) ∧ ((xs.take (i + 1)).map c).length = us2.length ∧ RL M F2 us2 ((xs.take (i + 1)).map g'), fun H2 ⟨F2, us2, q⟩ => ⟨l.length - (i + 1), by omega, rfl, hlt, F2, us2, q⟩, fun x H2 y => ?_⟩
      have hi' : i < xs.length := by rw [hle, List.length_map] at hlt; exact hlt
      have hxi : xs[i]? = some xs[i] := List.getElem?_eq_getElem hi'
      have hfe : l[i]? = some (f xs[i]) := by rw [hle, List.getElem?_map, hxi]; rfl
      obtain ⟨Fb, xb, rb⟩ := w3 i x F' H' H2 _ x2 (w1.yields i H' x H2 hlt (w2 F' H' x2) y) hfe
      have eb := (e1.step (x2.trans xb)).wipe vs
      have tk1 : xs.take (i + 1) = xs.take i ++ [xs[i]] := by rw [List.take_add_one, hxi]; rfl
      have fresh : c xs[i] ∉ (xs.take i).map c := by
        have nd' := nd
        rw [← List.take_append_drop (i + 1) xs, List.map_append] at nd'
        have nd2 := (List.nodup_append.mp nd').1
        rw [tk1, List.map_append, List.nodup_append] at nd2
        intro hm
        exact nd2.2.2 _ hm _ (by simp) rfl
      refine hs xs[i] (List.getElem_mem _) x _ Fb H2 _ eb rb fun ρ3 σ3 F3 H3 x3 e3 l3 s3 _ h3 => ⟨wipe_eq (σ := σ) (σ' := σ3) vs (by rw [l3, wipe_length]) s3, ?_⟩
      show tk σ3 H3 _
      refine h3 σ3 F3 H3 _ e3 fun yv yd F4 H4 x4 r4 ⟨z, h4⟩ => h4 σ3 F4 H4 _ (e3.step x4) fun v d F5 H5 x5 r5 h5 => ?_
      subst z h5
      have ey : yv = kV (c xs[i]) := (show RB M F4 H4 yv (keyD (c xs[i])) from .inl r4).key
      have xb5 := xb.trans (x3.trans (x4.trans x5))
      have hl5 := xb5.ext.hh _ _ hl
      have fl5 := xb5.ext.fr L _ hl rfl fl
      refine ⟨_, c xs[i], ey, Dl_sub _ _ hl5, Nat.lt_of_lt_of_le (show _ < 100000 by rw [List.length_zip, List.length_map, List.length_take]; omega) (by decide), F5, us ++ [v], (x2.trans xb5).chg hl5 (Dl_none hL) fl5, fl5, ?_, ?_, ?_⟩
      · rw [Dl_upd nL, upd_same, putK_zip _ _ _ _ hul, putKs_new fresh, putDs_new fresh, tk1, List.map_append]
        rfl
      · rw [tk1, List.map_append, List.length_append, List.length_append, hul]
        rfl
      · rw [tk1, List.map_append]
        exact (hr.mono xb5.ff).app (.cons r5 .nil)
    · have : i = l.length := by omega
      subst this
      refine .inl ⟨w1.stops H' (w2 F' H' x2), ?_⟩
      rw [List.take_of_length_le (by rw [hle, List.length_map]; omega)] at hr hl hul
      exact fin L _ us _ F' H' (x1.trans x2) hl hul fl (x1.ext.hh.free (Dl_none hL)) hr hd
end
end G

namespace G
open PySem PySem.Spec PyProof.Rows L2
/-- {(..): e}, the key a tuple -/
def tDispT1 (tk tv : TE) : TE := fun σ H Q => ∀ p, H p = none → tk σ (upd H p (.dT [])) fun y H1 => tv σ H1 fun v H2 => H2 p = some (.dT []) ∧ ∃ b k, y = .ref b ∧ H2 b = some (.tup (k.map kV)) ∧ Q (.ref p) (upd H2 p (.dT [(k, v)]))
theorem pe_dispT1 {X : Cx} {pos : Pos} {k v : Expr} {tk tv : TE} (hu : X.A.units + 1 < cLine) (hk : PE X k tk) (hv : PE X v tv) : PE X (.Dict [some k] [v] pos) (tDispT1 tk tv) := by
  refine ⟨fun pins s σ H Q I q => ?_⟩
  have hn := I.hok.fresh (Nat.le_refl s.heap.objs.size)
  have I1 := I.laid (a := s.heap.objs.size) (o := .dT []) (h' := s.heap.push { cls := .type "dict", data := .dict #[] }) (t' := s.toks) (fun _ _ q => Heap.get?_push_of_some _ q) (Nat.le_refl _) (dt_empty s.heap I.big)
  refine wpAny_Dict_any rfl rfl (by simp) (by show 1 ≤ 15; decide) (pairTrees_cons_walk (thn (hk.run pins _ σ _ _ I1 (q _ hn)) fun u s1 ⟨y, H1, J1, ry, q1⟩ => thn (hv.run pins s1 σ H1 _ J1 q1) fun w s2 ⟨x, H2, J2, rx, e, b, kk, ey, eb, q2⟩ => pairTrees_nil_walk ?_))
  subst ey
  cases (show u = Value.ref b from ry)
  obtain ⟨z, hd, xs, rel, dd⟩ := dt_of J2.hok e
  cases rel
  unfold storeAll
  rw [List.forIn_cons]
  refine wpAny_bind (wpAny_bind (wpAny_dictSet_heap (hsz := Nat.zero_le _) (knd := tupleKind (mixKind X.prog X.w)) (show X.A.units < cLine by omega) (key_of J2.hok eb) dd fun h' dd' hs => wpAny_pure ?_))
  dsimp only
  rw [List.forIn_nil]
  refine wpAny_pure ?_
  obtain ⟨qo, es, ep, hq, h2, h3, h4, _, h5⟩ := dd'
  refine ⟨.ref s.heap.objs.size, upd H2 s.heap.objs.size (.dT [(kk, x)]), d_write (ob := .dT [(kk, x)]) J2 (by rw [e]; exact True.intro) hs ⟨qo, hq⟩ ⟨by show 1 ≤ sizeLine; decide, hd, _, (KT.put .nil kk eb rx).keeps fun c ys ec => ?_, qo, es, ep, hq, h2, h3, h4, h5⟩, rfl, ?_⟩
  · rw [upd_ne (ne_of ec e (fun z => nomatch z))]
    exact ec
  · exact q2
section
variable {M : Cm} {ρ : Rho} {tk tv : TE}
theorem wot_disp1 {kk : List (List Key) → List D → Prop} (h : WE M tk ρ fun y => ∃ ns : List Int, y = .stn ns ∧ WE M tv ρ fun d => kk [ns.map (Sum.inl : Int → Key)] [d]) : WOT M (tDispT1 tk tv) ρ kk := fun σ F H Q e f p np => by
  have g := e.gd
  have x0 : XM M F H F (upd H p (.dT [])) := (XE.refl g).mut np
  have hp0 : Dl M.st (upd H p (.dT [])) p = some (.dT []) := by rw [Dl_upd (g.ok.ne np)]; exact upd_same
  refine h σ F _ _ (e.step x0) fun y dy F1 H1 x1 r1 ⟨ns, z, h1⟩ => h1 σ F1 H1 _ (e.step (x0.trans x1)) fun v d F2 H2 x2 r2 q => ?_
  subst z
  have x12 := x1.trans x2
  have hp2 := x12.ext.hh _ _ hp0
  have fp2 := x12.ext.fr p _ hp0 rfl (sub_none g.sub np)
  obtain ⟨b, rfl, hb⟩ := (show RB M F1 H1 y (.stn ns) from .inl r1).stn
  refine ⟨Dl_sub _ _ hp2, b, ns.map Sum.inl, rfl, by rw [List.map_map]; exact x2.gd.sub _ _ (x2.ff _ _ hb), ?_⟩
  exact f p [ns.map Sum.inl] [v] [d] F2 _ ((x0.trans x12).chg hp2 (Dl_none np) fp2) (by rw [Dl_upd (Dl_ne hp2)]; exact upd_same) rfl fp2 (Dl_none np) (.cons r2 .nil) q
end
/-- y = {k: v for ..} -/
theorem ps_setDc {X : Cx} {i : Nat} {y : Str} {py : Pos} {kx vx tg iter : Expr} {ifs : List Expr} {scope : Scope} {own : List (Str × Nat)} {pos spos : Pos} {wi : TI} {g : TG} {tt : TT} {tk tv : TE} (hc : X.calm = true) (hN : X.N.Nodup) (hy : X.N[i]? = some y) (hyl : X.env.scope.names.lookup y = some .local)
    (hsw : swapsWith (.DictComp kx vx [⟨tg, iter, ifs, 0⟩] scope pos) (some (.Name y py)) spos.line X.env = pure true) (hi : PI X tg iter wi) (ok : BlkOk X.N X.env.scope scope own)
    (hg : ∀ (s : Shared) (H : Hp) (C : Addr) (cl : List (Str × Addr)) (fp : List Addr), PG (X.blk s H scope (compEnvC scope cl C X.env) fp) tg g) (ht : ∀ (s : Shared) (H : Hp) (C : Addr) (cl : List (Str × Addr)) (fp : List Addr), PTs (X.blk s H scope (compEnvC scope cl C X.env) fp) ifs tt)
    (hk : ∀ (s : Shared) (H : Hp) (C : Addr) (cl : List (Str × Addr)) (fp : List Addr), PE (X.blk s H scope (compEnvC scope cl C X.env) fp) kx tk)
    (he : ∀ (s : Shared) (H : Hp) (C : Addr) (cl : List (Str × Addr)) (fp : List Addr), PE (X.blk s H scope (compEnvC scope cl C X.env) fp) vx tv) (hs : ∀ x, foldedSetIterable iter X.env x = pure x := by intro _; rfl) :
    PS X (.Assign [.Name y py] (.DictComp kx vx [⟨tg, iter, ifs, 0⟩] scope pos) spos) (tAsg (tDc wi g tt tk tv (own.map (·.2))) (gName i)) := by
  refine ⟨fun pins s σ H D I h => ?_⟩
  rw [exec_Assign_Name_used _ _ _ _ hsw]
  refine wpAny_bind (wpAny_standAt (wpAny_bind ?_))
  show wpAny _ X.A (do let _ ← comprehension (.DictComp kx vx [⟨tg, iter, ifs, 0⟩] scope pos) scope X.env (firstIterPos [⟨tg, iter, ifs, 0⟩] pos) newDict false (eval iter X.env) (some (assign (.Name y py) X.env))) _ _ s
  have h : tDc wi g tt tk tv (own.map (·.2)) σ H (fun x H1 => gName i x σ H1 D.nx) := h
  refine wpAny_bind (thn (dc_core (Qf := fun _ s' => SP X pins D .next s') hc hN I hi ok hg ht hk he hs h fun L C s' m H' I' q hn f => ?_) fun _ s' hq => wpAny_pure (wpAny_pure hq))
  show wpAny _ _ (assign (.Name y py) X.env (.ref L)) _ _ _
  refine wpAny_assign_Name (store_ok2 (v := V.ref L) I' hN hy (.inl hyl) rfl (fun s2 I2 ⟨a, sb, ha⟩ => ?_) (.inr hyl))
  obtain ⟨f0, f1, f2, f3, f4, f5⟩ := f
  have haC : C ≠ a := by
    rcases ha with z | z
    · rw [z]; exact f1
    · exact fun e => f4 y a z e.symm
  refine ⟨m, hn.sameBut sb haC, fun h3 sb3 => ?_⟩
  exact ⟨_, H', I2.turned (t' := s2.toks) (fun b o hb e => (sb3.2 b hb).trans e) f0 f1 f3 f4 f5, q⟩
theorem sw_trueD {kx vx : Expr} {gs : List Comprehension} {scope : Scope} {pos py : Pos} {y : Str} {l : Nat} {env : Env} (hk : env.scope.kind = .function) (hy : env.scope.names.lookup y = some .local) (hl : (py.line == pos.line) = true)
    (ha : (scope.names.any fun (n, k) => n == y && (k == .local || k == .cell)) = false) : swapsWith (.DictComp kx vx gs scope pos) (some (.Name y py)) l env = pure true := by
  have ky : env.kindOf y = some .local := hy
  have hb : env.blockKind = .function := by unfold Env.blockKind; rw [hk]; rfl
  unfold swapsWith
  simp only [hb, ky, ha, Expr.pos, hl]
  rfl
/-- a tuple that is a key -/
def tTupK (tr : TA) : TE := tTup tr
theorem pe_tupK {X : Cx} {e : Expr} {tr : TA} (h : PE X e (tTup tr)) : PE X e (tTupK tr) := h
theorem we_tupK2 {M : Cm} {ρ : Rho} {k : D → Prop} {ta tb : TE} (h : WE M ta ρ fun d => ∃ a : Int, d = .int a ∧ WE M tb ρ fun e => ∃ b : Int, e = .int b ∧ k (.stn [a, b])) : WE M (tTupK (tCons ta (tCons tb tNil))) ρ k := fun σ F H Q e f => by
  refine h σ F H _ e fun v d F1 H1 x1 r1 ⟨a, z, h1⟩ => h1 σ F1 H1 _ (e.step x1) fun u d2 F2 H2 x2 r2 ⟨b, z2, q⟩ => ?_
  subst z z2
  cases r1
  cases r2
  exact ⟨by show 2 ≤ sizeLine; decide, fun p np => f _ _ _ _ ((x1.trans x2).new np) (.stn upd_same) q⟩
/-! len of a bench -/
abbrev rLenB (K : PySem.W.Frag) (C : Addr) (sp : Sp) : List V → Hp → VK → Prop := fun vs H Q => rLen K vs H Q ∨ rOwnLen C sp vs H Q
theorem k_lenB {X : Cx} {K : PySem.W.Frag} {k : Nat} {C : Addr} {ps : List Str} {sp : Sp} (h : X.K = K) (D : DefM X.prog X.w X.K X.mg X.base k C "__len__" ps sp) (hr : Room (k + 1) X.A) : CallR X (.builtin "len") (rLenB K C sp) := cr_or (k_len h) (call_ownLen D hr)
def cLen : Ct := fun ds k => ∃ B, ds = [.bench B] ∧ k (.int B.heavy.length)
theorem cr_lenB {M : Cm} {k : D → Prop} {B : BD} (ok : BOk B) (q : k (.int B.heavy.length)) : CR M (rLenB M.K M.C (spD M.K M.C cLen)) [.bench B] k := fun F H vs Q g rr f => by
  obtain ⟨v, rfl, r⟩ := rbs1 rr
  obtain ⟨b, rfl, hb⟩ := r.bench
  obtain ⟨dx, l1, l2, l3, l4, h2, _⟩ := hb.ex
  have := ok.heavy_lt
  exact .inr ⟨b, dx, _, rfl, g.sub _ _ h2, M.st, F, [.bench B], fun d => d = .int B.heavy.length, g, .cons (.bench hb) .nil, ⟨B, rfl, rfl⟩, fun v d F' H' x r z => by
    subst z
    cases r
    exact ⟨B.heavy.length, rfl, by omega, f _ _ F' H' x (.int _) q⟩⟩
/-! ### a dict of lists that grow -/
/-- at p a dict of lists of ints, of one's own: the lists at qs, as ls tells -/
structure Nest (st : Option Addr) (F H0 H : Hp) (p : Addr) (qs : List Addr) (ls : List (List Int)) : Prop where
  len : qs.length = ls.length
  dp : Dl st H p = some (.dK (((List.range qs.length).map fun (i : Nat) => (Sum.inl (i : Int) : Key)).zip (qs.map V.ref)))
  fp : F p = none
  hp : Dl st H0 p = none
  nd : qs.Nodup
  np : p ∉ qs
  each : ∀ (i : Nat) q l, qs[i]? = some q → ls[i]? = some l → Dl st H q = some (.lst (l.map V.int)) ∧ F q = none ∧ Dl st H0 q = none
theorem nodup_ne {qs : List Addr} {i j : Nat} {a b : Addr} (nd : qs.Nodup) (h1 : qs[i]? = some a) (h2 : qs[j]? = some b) (ne : i ≠ j) : a ≠ b := fun z => by
  subst z
  have i1 := (List.getElem?_eq_some_iff.mp h1)
  have i2 := (List.getElem?_eq_some_iff.mp h2)
  obtain ⟨a1, e1⟩ := i1
  obtain ⟨a2, e2⟩ := i2
  have key := List.pairwise_iff_getElem.mp nd
  rcases Nat.lt_or_gt_of_ne ne with h | h
  · exact key i j a1 a2 h (e1.trans e2.symm)
  · exact key j i a2 a1 h (e2.trans e1.symm)
theorem Nest.step {st : Option Addr} {F H0 H F' H' : Hp} {p : Addr} {qs : List Addr} {ls : List (List Int)} (n : Nest st F H0 H p qs ls) (x : XE st F H F' H') : Nest st F' H0 H' p qs ls :=
  ⟨n.len, x.ext.hh _ _ n.dp, x.ext.fr p _ n.dp rfl n.fp, n.hp, n.nd, n.np, fun i q l h1 h2 => by
    obtain ⟨a, b, c⟩ := n.each i q l h1 h2
    exact ⟨x.ext.hh _ _ a, x.ext.fr q _ a rfl b, c⟩⟩
/-- one of its lists grows -/
theorem Nest.app {st : Option Addr} {F H0 H : Hp} {p : Addr} {qs : List Addr} {ls : List (List Int)} {i : Nat} {q : Addr} {l l' : List Int} (n : Nest st F H0 H p qs ls) (h1 : qs[i]? = some q) (h2 : ls[i]? = some l) : Nest st F H0 (upd H q (.lst (l'.map V.int))) p qs (ls.set i l') := by
  obtain ⟨a, b, c⟩ := n.each i q l h1 h2
  have ne := Dl_ne a
  have hi := (List.getElem?_eq_some_iff.mp h2).1
  refine ⟨by rw [List.length_set]; exact n.len, ?_, n.fp, n.hp, n.nd, n.np, fun j q' m h3 h4 => ?_⟩
  · rw [Dl_upd ne, upd_ne (fun z => n.np (by rw [z]; exact List.mem_of_getElem? h1))]
    exact n.dp
  · by_cases z : i = j
    · subst z
      rw [h1] at h3
      cases h3
      rw [List.getElem?_set_self hi] at h4
      cases h4
      exact ⟨by rw [Dl_upd ne]; exact upd_same, b, c⟩
    · rw [List.getElem?_set_ne z] at h4
      obtain ⟨a', b', c'⟩ := n.each j q' m h3 h4
      exact ⟨by rw [Dl_upd ne, upd_ne (fun w => nodup_ne n.nd h1 h3 z w.symm)]; exact a', b', c'⟩
theorem Nest.get {st : Option Addr} {F H0 H : Hp} {p : Addr} {qs : List Addr} {ls : List (List Int)} {i : Nat} {q : Addr} (n : Nest st F H0 H p qs ls) (h1 : qs[i]? = some q) : DGet H p (.int (i : Int)) (some (.ref q)) := by
  have hi := (List.getElem?_eq_some_iff.mp h1).1
  have : valV (((List.range qs.length).map fun (i : Nat) => (Sum.inl (i : Int) : Key)).zip (qs.map V.ref)) (Sum.inl (i : Int)) = some (.ref q) := by
    refine valV_at (i := i) ?_ ?_
    · rw [zip_fst _ _ (by simp)]
      exact List.pairwise_map.mpr (List.nodup_range.imp fun h z => h (by have := Sum.inl.inj z; omega))
    · rw [List.getElem?_zip_eq_some]
      exact ⟨by rw [List.getElem?_map, List.getElem?_range hi]; rfl, by rw [List.getElem?_map, h1]; rfl⟩
  rw [← this]
  exact DGet.k (k := Sum.inl (i : Int)) (Dl_sub _ _ n.dp)
/-- {x: [] for x in range(n)} -/
theorem dc_nest {st : Option Addr} {F H : Hp} {σ : L2.St} {j n : Nat} {Q : VK} (g : Gd st F H) (hj : j < σ.length) (hn : n < 100000) (q : ∀ p qs H', XE st F H F H' → qs.length = n → Nest st F H H' p qs (List.replicate n []) → Q (.ref p) H') :
    ∀ D, H D = none → ∃ W : Nat → Nat → Hp → Prop, (∃ m, W 0 m (upd H D (.dK []))) ∧ ∀ i m H, W i m H →
      ((Itr 0 n).stop i H ∧ Q (.ref D) H) ∨ ((Itr 0 n).go i H ∧ ∃ Nx : Hp → Prop, (∀ H', Nx H' → ∃ m', m' < m ∧ W (i + 1) m' H') ∧ ∀ x H', (Itr 0 n).yld i H x H' → gName j x (wipe σ [j]) H' fun σ2 H2 => wipe σ2 [j] = wipe σ [j] ∧ tYes σ2 H2 fun b H3 =>
        if b = true then tVar j σ2 H3 fun y H4 => tLst tNil σ2 H4 fun z H5 => ∃ kvs k, y = kV k ∧ H5 D = some (.dK kvs) ∧ kvs.length < sizeLine ∧ Nx (upd H5 D (.dK (putK kvs k z))) else Nx H3) := by
  intro L hL
  have nL := g.ok.ne hL
  have fL := sub_none g.sub hL
  refine ⟨fun i m H' => m = n - i ∧ i ≤ n ∧ ∃ qs, XE st F H F H' ∧ qs.length = i ∧ Nest st F H H' L qs (List.replicate i []), ⟨n, rfl, Nat.zero_le _, [], (XE.refl g).mut hL, rfl, rfl, by rw [Dl_upd nL]; exact upd_same, fL, Dl_none hL, List.Pairwise.nil, by simp, fun i q l h => by simp at h⟩, ?_⟩
  rintro i m H' ⟨rfl, hi, qs, x, ql, nest⟩
  have w := walk_range (lo := 0) (n := n)
  by_cases hlt : i < n
  · refine .inr ⟨w.goes i H' hlt trivial, fun H2 => ∃ qs, XE st F H F H2 ∧ qs.length = i + 1 ∧ Nest st F H H2 L qs (List.replicate (i + 1) []), fun H2 ⟨qs, h⟩ => ⟨n - (i + 1), by omega, rfl, hlt, qs, h⟩, fun v H2 y => ?_⟩
    obtain ⟨rfl, rfl⟩ := w.yields i H' v H2 hlt trivial y
    refine ⟨?_, ?_⟩
    · simp [wipe]
    · refine s_yes ?_
      refine s_cT ?_
      refine ⟨.int (0 + (i : Int)), ?_, by decide, fun q1 nq => ?_⟩
      · simp [wipe, hj]
      have x1 := x.mut (o := .lst []) nq
      have nest1 := nest.step ((XE.refl x.gd).mut (o := .lst []) nq)
      have dL := nest1.dp
      have neq : q1 ≠ L := fun z => by
        have := Dl_sub _ _ nest.dp
        rw [z, this] at nq
        cases nq
      refine ⟨_, Sum.inl (i : Int), by simp [kV], Dl_sub _ _ dL, Nat.lt_of_lt_of_le (show _ < 100000 by rw [List.length_zip, List.length_map, List.length_range, List.length_map]; omega) (by decide), qs ++ [q1], x1.chg dL (Dl_none hL) fL, by simp [ql], ?_⟩
      have fresh : (Sum.inl (i : Int) : Key) ∉ (List.range qs.length).map fun (i : Nat) => (Sum.inl (i : Int) : Key) := by
        intro hm
        obtain ⟨a, ha, e⟩ := List.mem_map.mp hm
        have := List.mem_range.mp ha
        have : (a : Int) = (i : Int) := by simpa using e
        omega
      have qn : q1 ∉ qs := fun hm => by
        obtain ⟨k, hk⟩ := List.getElem?_of_mem hm
        have hkl : (List.replicate i ([] : List Int))[k]? = some [] := by
          rw [List.getElem?_replicate, if_pos]
          have := (List.getElem?_eq_some_iff.mp hk).1
          omega
        have := Dl_sub _ _ (nest.each k q1 [] hk hkl).1
        rw [nq] at this
        cases this
      refine ⟨by simp [ql], ?_, fL, Dl_none hL, List.nodup_append.mpr ⟨nest.nd, List.pairwise_singleton _ _, fun a ha b hb z => qn (by rw [List.mem_singleton] at hb; rw [← hb, ← z]; exact ha)⟩, ?_, fun k q' l h1 h2 => ?_⟩
      · rw [Dl_upd nL, upd_same, putK_zip _ _ _ _ (by simp), putKs_new fresh, putDs_new fresh, List.length_append, List.length_singleton, List.range_succ, List.map_append, List.map_append, ql]
        rfl
      · rw [List.mem_append, List.mem_singleton]
        rintro (h | h)
        · exact nest.np h
        · exact neq h.symm
      · by_cases hk : k < qs.length
        · rw [List.getElem?_append_left hk] at h1
          have h2' : (List.replicate i ([] : List Int))[k]? = some l := by
            rw [List.getElem?_replicate] at h2 ⊢
            rw [if_pos (by omega)] at h2 ⊢
            exact h2
          obtain ⟨a, b, c⟩ := nest1.each k q' l h1 h2'
          refine ⟨?_, b, c⟩
          rw [Dl_upd nL, upd_ne]
          · exact a
          · intro z
            exact nest.np (by rw [← z]; exact List.mem_of_getElem? h1)
        · have hk' : k = qs.length := by
            have := (List.getElem?_eq_some_iff.mp h1).1
            simp at this
            omega
          subst hk'
          rw [List.getElem?_append_right (Nat.le_refl _)] at h1
          have e1 : q1 = q' := by simpa using h1
          subst e1
          have e2 : l = [] := by
            rw [List.getElem?_replicate, if_pos (by omega)] at h2
            cases h2
            rfl
          subst e2
          refine ⟨?_, sub_none x.gd.sub nq, x.ext.hh.free (Dl_none nq)⟩
          rw [Dl_upd nL, upd_ne neq, Dl_upd (x.ok.ne nq)]
          exact upd_same
  · have e : i = n := by omega
    subst e
    exact .inl ⟨w.stops H' trivial, q L qs H' x ql nest⟩
/-- all of it frozen -/
theorem Nest.frz {M : Cm} {F H0 H : Hp} {p : Addr} {qs : List Addr} {ls : List (List Int)} (n : Nest M.st F H0 H p qs ls) (x : XE M.st M.F0 H0 F H) : ∃ F', XE M.st M.F0 H0 F' H ∧ RV M F' (.ref p) (.dic ((List.range qs.length).map fun (i : Nat) => (Sum.inl (i : Int) : Key)) (ls.map fun l => .lst (l.map D.int))) := by
  have key : ∀ (qs : List Addr) (ls : List (List Int)) (F1 : Hp), qs.length = ls.length → qs.Nodup → XE M.st M.F0 H0 F1 H → F1 p = none → p ∉ qs → (∀ (i : Nat) q l, qs[i]? = some q → ls[i]? = some l → Dl M.st H q = some (.lst (l.map V.int)) ∧ F1 q = none ∧ Dl M.st H0 q = none) →
      ∃ F2, XE M.st M.F0 H0 F2 H ∧ F2 p = none ∧ Same F1 F2 ∧ RL M F2 (qs.map V.ref) (ls.map fun l => .lst (l.map D.int)) := by
    intro qs
    induction qs with
    | nil =>
      intro ls F1 hl _ x1 f1 _ _
      cases ls with
      | nil => exact ⟨F1, x1, f1, Same.refl _, .nil⟩
      | cons _ _ => simp at hl
    | cons q qs ih =>
      intro ls F1 hl nd x1 f1 np h
      cases ls with
      | nil => simp at hl
      | cons l ls =>
        obtain ⟨a, b, c⟩ := h 0 q l rfl rfl
        rw [List.nodup_cons] at nd
        have qp : p ≠ q := fun z => np (by rw [z]; exact List.mem_cons_self)
        obtain ⟨F2, x2, f2, s2, r2⟩ := ih ls (upd F1 q (.lst (l.map V.int))) (by simpa using hl) nd.2 (x1.frz c b a) (by rw [upd_ne qp]; exact f1) (fun z => np (List.mem_cons_of_mem _ z)) fun i q' l' h1 h2 => by
          obtain ⟨a', b', c'⟩ := h (i + 1) q' l' (by simpa using h1) (by simpa using h2)
          refine ⟨a', ?_, c'⟩
          rw [upd_ne (fun z => nd.1 (by rw [← z]; exact List.mem_of_getElem? h1))]
          exact b'
        exact ⟨F2, x2, f2, (same_upd b).trans s2, .cons (.lst (.inl (.inl (s2 _ _ upd_same))) (RA.ofInts _)) r2⟩
  obtain ⟨F2, x2, f2, s2, r2⟩ := key qs ls F n.len n.nd x n.fp n.np n.each
  refine ⟨upd F2 p _, x2.frz n.hp f2 n.dp, .dic upd_same (by simp) (r2.mono (same_upd f2))⟩
end G

namespace G
/-! ## tables: keys and values, in order -/
section
variable {κ α : Type} [DecidableEq κ]
def lkp : List κ → List α → κ → Option α
  | q :: ks, d :: l, x => if q = x then some d else lkp ks l x
  | _, _, _ => none
theorem lkp_none {x : κ} : ∀ {ks : List κ} {l : List α}, x ∉ ks → lkp ks l x = none
  | [], _, _ => by simp [lkp]
  | _ :: _, [], _ => by simp [lkp]
  | q :: ks, d :: l, h => by
    simp only [List.mem_cons, not_or] at h
    simp only [lkp]
    rw [if_neg (Ne.symm h.1)]
    exact lkp_none h.2
theorem lkp_some {x : κ} : ∀ {ks : List κ} {l : List α}, ks.length = l.length → x ∈ ks → ∃ d, lkp ks l x = some d ∧ d ∈ l
  | [], _, _, h => by simp at h
  | _ :: _, [], h, _ => by simp at h
  | q :: ks, d :: l, hl, h => by
    simp only [lkp]
    by_cases z : q = x
    · rw [if_pos z]
      exact ⟨d, rfl, List.mem_cons_self⟩
    · rw [if_neg z]
      rcases List.mem_cons.mp h with rfl | h
      · exact absurd rfl z
      · obtain ⟨d', h1, h2⟩ := lkp_some (by simpa using hl) h
        exact ⟨d', h1, List.mem_cons_of_mem _ h2⟩
theorem lkp_mem {x : κ} : ∀ {ks : List κ} {l : List α} {d : α}, lkp ks l x = some d → x ∈ ks
  | [], _, _, h => by simp [lkp] at h
  | _ :: _, [], _, h => by simp [lkp] at h
  | q :: ks, d :: l, d', h => by
    simp only [lkp] at h
    by_cases z : q = x
    · rw [z]; exact List.mem_cons_self
    · rw [if_neg z] at h
      exact List.mem_cons_of_mem _ (lkp_mem h)
theorem lkp_app {x : κ} {q : κ} {v : α} : ∀ {ks : List κ} {l : List α}, ks.length = l.length → lkp (ks ++ [q]) (l ++ [v]) x = if x ∈ ks then lkp ks l x else if q = x then some v else none
  | [], [], _ => by simp [lkp]
  | [], _ :: _, h => by simp at h
  | _ :: _, [], h => by simp at h
  | c :: ks, d :: l, h => by
    simp only [List.cons_append, lkp]
    rw [lkp_app (by simpa using h)]
    by_cases z : c = x
    · rw [if_pos z, if_pos (by rw [z]; exact List.mem_cons_self), if_pos z]
    · rw [if_neg z, if_neg z]
      by_cases m : x ∈ ks
      · rw [if_pos m, if_pos (List.mem_cons_of_mem _ m)]
      · rw [if_neg m, if_neg (show ¬ x ∈ c :: ks from fun h => (List.mem_cons.mp h).elim (fun e => z e.symm) m)]
theorem lkp_repl {x q : κ} {v : α} : ∀ {ks : List κ} {l : List α}, ks.length = l.length → lkp ks (List.zipWith (fun c y => if c = q then v else y) ks l) x = if x = q then (lkp ks l x).map fun _ => v else lkp ks l x
  | [], [], _ => by simp [lkp]
  | [], _ :: _, h => by simp at h
  | _ :: _, [], h => by simp at h
  | c :: ks, d :: l, h => by
    simp only [List.zipWith_cons_cons, lkp]
    rw [lkp_repl (by simpa using h)]
    by_cases z : c = x
    · subst z
      rw [if_pos rfl, if_pos rfl]
      by_cases w : c = q
      · rw [if_pos w, if_pos w]; rfl
      · rw [if_neg w, if_neg w]
    · rw [if_neg z, if_neg z]
/-- what a table holds behind a store -/
theorem lkp_put {x q : κ} {v : α} {ks : List κ} {l : List α} (h : ks.length = l.length) : lkp (putKs ks q) (putDs ks l q v) x = if x = q then some v else lkp ks l x := by
  unfold putKs putDs
  by_cases m : q ∈ ks
  · rw [if_pos m, if_pos m, lkp_repl h]
    by_cases z : x = q
    · rw [if_pos z, if_pos z, z]
      obtain ⟨d, h1, _⟩ := lkp_some h m
      rw [h1]
      rfl
    · rw [if_neg z, if_neg z]
  · rw [if_neg m, if_neg m, lkp_app h]
    by_cases z : x = q
    · subst z
      rw [if_neg m, if_pos rfl, if_pos rfl]
    · rw [if_neg z]
      by_cases w : x ∈ ks
      · rw [if_pos w]
      · rw [if_neg w, if_neg (Ne.symm z), lkp_none w]
theorem put_mem {x q : κ} {ks : List κ} : x ∈ putKs ks q ↔ x = q ∨ x ∈ ks := by
  unfold putKs
  by_cases m : q ∈ ks
  · rw [if_pos m]
    constructor
    · exact .inr
    · rintro (rfl | h)
      · exact m
      · exact h
  · rw [if_neg m, List.mem_append, List.mem_singleton]
    exact ⟨fun h => h.symm, fun h => h.symm⟩
theorem put_nodup {q : κ} {ks : List κ} (h : ks.Nodup) : (putKs ks q).Nodup := by
  unfold putKs
  by_cases m : q ∈ ks
  · rw [if_pos m]; exact h
  · rw [if_neg m]
    exact List.nodup_append.mpr ⟨h, List.pairwise_singleton _ _, fun a ha b hb z => m (by rw [List.mem_singleton] at hb; rw [← hb, ← z]; exact ha)⟩
end
section
variable {κ κ' α : Type} [DecidableEq κ] [DecidableEq κ'] {f : κ → κ'} (hf : ∀ a b, f a = f b → a = b)
include hf
theorem hasK_map {ks : List κ} {x : κ} : hasK (ks.map f) (f x) = decide (x ∈ ks) := by
  unfold hasK
  have : f x ∈ ks.map f ↔ x ∈ ks := ⟨fun h => by obtain ⟨y, h1, h2⟩ := List.mem_map.mp h; rw [← hf _ _ h2]; exact h1, fun h => List.mem_map.mpr ⟨x, h, rfl⟩⟩
  by_cases m : x ∈ ks
  · rw [decide_eq_true m, decide_eq_true (this.mpr m)]
  · rw [decide_eq_false m, decide_eq_false (fun h => m (this.mp h))]
theorem valD_map {g : α → D} {x : κ} : ∀ {ks : List κ} {l : List α}, valD (ks.map f) (l.map g) (f x) = (lkp ks l x).map g
  | [], _ => by simp [valD, lkp]
  | _ :: _, [] => by simp [valD, lkp]
  | q :: ks, d :: l => by
    simp only [List.map_cons, valD, lkp]
    by_cases z : q = x
    · subst z
      rw [if_pos rfl, if_pos rfl]
      rfl
    · rw [if_neg (fun e => z (hf _ _ e)), if_neg z]
      exact valD_map
theorem putKs_map {ks : List κ} {x : κ} : putKs (ks.map f) (f x) = (putKs ks x).map f := by
  have : f x ∈ ks.map f ↔ x ∈ ks := ⟨fun h => by obtain ⟨y, h1, h2⟩ := List.mem_map.mp h; rw [← hf _ _ h2]; exact h1, fun h => List.mem_map.mpr ⟨x, h, rfl⟩⟩
  unfold putKs
  by_cases m : x ∈ ks
  · rw [if_pos m, if_pos (this.mpr m)]
  · rw [if_neg m, if_neg (fun h => m (this.mp h)), List.map_append]
    rfl
theorem putDs_map {g : α → D} {ks : List κ} {l : List α} {x : κ} {v : α} : putDs (ks.map f) (l.map g) (f x) (g v) = (putDs ks l x v).map g := by
  have : f x ∈ ks.map f ↔ x ∈ ks := ⟨fun h => by obtain ⟨y, h1, h2⟩ := List.mem_map.mp h; rw [← hf _ _ h2]; exact h1, fun h => List.mem_map.mpr ⟨x, h, rfl⟩⟩
  unfold putDs
  by_cases m : x ∈ ks
  · rw [if_pos m, if_pos (this.mpr m)]
    clear m this
    induction ks generalizing l with
    | nil => rfl
    | cons q ks ih =>
      cases l with
      | nil => rfl
      | cons d l =>
        simp only [List.map_cons, List.zipWith_cons_cons]
        rw [ih]
        by_cases z : q = x
        · rw [if_pos z, if_pos (by rw [z])]
        · rw [if_neg z, if_neg (fun e => z (hf _ _ e))]
  · rw [if_neg m, if_neg (fun h => m (this.mp h)), List.map_append]
    rfl
end
theorem inlI_inj : ∀ a b : Int, (Sum.inl a : L2.Key) = Sum.inl b → a = b := fun a b h => Sum.inl.inj h
end G

namespace G
open PySem PySem.Spec PyProof.Rows L2
/-! ## a dict of its own, locked while it is walked; tuples that are asked .index; [::-1] -/
section
variable {M : Cm} {ρ : Rho} {i : Nat} {nx : Rho → Prop} {rt : Sl → Rho → Prop} {bk ct : Rho → Prop} {k : D → Prop} {ka : List D → Prop}
theorem ws_lock {ks : List Key} {l : List D} {t : TS} (hi : ρ[i]? = some (some (.ownK ks l)))
    (h : ∀ p o vs, ks.length = vs.length → WS M t (ρ.set i (some (.lk p (.frz o (.dK (ks.zip vs))) vs l))) (fun ρ' => ρ'[i]? = some (some (.lk p (.frz o (.dK (ks.zip vs))) vs l)) ∧ nx (ρ'.set i (some (.ownK ks l)))) (fun _ _ => False) (fun _ => False) (fun _ => False)) : WS M (tLock t) ρ nx rt bk ct := fun σ F H E e f1 f2 f3 f4 => by
  obtain ⟨v, h1, p, vs, rfl, h2, h3, h4, h5, h6⟩ := e.each i _ hi
  refine ⟨p, .dK (ks.zip vs), Dl_sub _ _ h2, trivial, fun od => ?_⟩
  have e1 := e.chg (o := .frz od (.dK (ks.zip vs))) hi rfl h1 h2 h4 h5 (s1 := .lk p (.frz od (.dK (ks.zip vs))) vs l) ⟨rfl, by rw [Dl_upd (Dl_ne h2)]; exact upd_same, rfl, h4, h5, h6⟩
  refine h p od vs h3 σ F _ ⟨_, _, _, _⟩ e1 (fun ρ' σ' F' H' s e' ⟨hl, q⟩ => ?_) (fun _ _ _ _ _ _ _ _ z => z.elim) (fun _ _ _ _ _ _ z => z.elim) (fun _ _ _ _ _ _ z => z.elim)
  obtain ⟨v', g1, rfl, g2, g3, g4, g5, g6⟩ := e'.each i _ hl
  refine ⟨Dl_sub _ _ g2, f1 _ σ' F' _ s (e'.chg (o := .dK (ks.zip vs)) hl rfl g1 g2 g4 g5 (s1 := .ownK ks l) ⟨p, vs, rfl, by rw [Dl_upd (Dl_ne g2)]; exact upd_same, h3, g4, g5, g6⟩) q⟩
/-- the keys of a locked dict, walked by a for -/
theorem ws_forL {p : Addr} {o : Obj} {vs : List V} {ks : List Key} {l : List D} {g : TG} {tb : TS} (hkv : ks.length = vs.length) (hi : ρ[i]? = some (some (.lk p (.frz o (.dK (ks.zip vs))) vs l))) (I : Nat → Rho → Prop) (h0 : I 0 ρ) (keep : ∀ n ρ', I n ρ' → ρ'[i]? = some (some (.lk p (.frz o (.dK (ks.zip vs))) vs l)))
    (hs : ∀ (n : Nat) c ρ', ks[n]? = some c → I n ρ' → WG M (fun _ => True) g (keyD c) ρ' fun ρ2 => WS M tb ρ2 (I (n + 1)) rt nx (I (n + 1))) (hd : ∀ ρ', I ks.length ρ' → nx ρ') : WS M (tFor (iKeys (tVar i)) g tb) ρ nx rt bk ct := fun σ F H E e f1 f2 f3 f4 => by
  obtain ⟨v, h1, rfl, h2, h3, h4, h5, h6⟩ := e.each i _ hi
  refine ⟨_, h1, p, o, rfl, .inl ⟨ks.zip vs, Dl_sub _ _ h2, ?_⟩⟩
  have hlen : (ks.zip vs).length = ks.length := by rw [List.length_zip]; omega
  refine for_w walk_keys (nx := E.nx) (Q := E.rt) (fun n σ' H' => ∃ ρ' F', Same F F' ∧ Fr M ρ' σ' F' H' ∧ I n ρ') ⟨ρ, F, Same.refl _, e, h0⟩ ?_ ?_ ?_
  · rintro n σ' H' _ ⟨ρ', F', s, e', hI⟩
    obtain ⟨v', g1, rfl, g2, _⟩ := e'.each i _ (keep n ρ' hI)
    exact Dl_sub _ _ g2
  · rintro n x σ' H' H2 hn ⟨ρ', F', s, e', hI⟩ ⟨rfl, c, w, hc, rfl⟩
    have hc' : ks[n]? = some c := by
      have := congrArg (Option.map Prod.fst) hc
      rw [← List.getElem?_map, List.map_fst_zip (by omega)] at this
      exact this
    have rb : RV M F' (kV c) (keyD c) := by
      cases c with
      | inl m => exact .int m
      | inr t => exact .str t
    refine hs n c ρ' hc' hI _ σ' F' _ _ e' rb fun ρ2 σ2 F2 H3 x2 e2 _ _ _ h2 => ?_
    refine h2 σ2 F2 H3 ⟨_, _, _, _⟩ e2 (fun ρ3 σ3 F3 H4 s3 e3 h3 => ⟨ρ3, F3, (s.trans x2.ff).trans s3, e3, h3⟩) f2 (fun ρ3 σ3 F3 H4 s3 e3 h3 => f1 ρ3 σ3 F3 H4 ((s.trans x2.ff).trans s3) e3 h3) fun ρ3 σ3 F3 H4 s3 e3 h3 => ⟨ρ3, F3, (s.trans x2.ff).trans s3, e3, h3⟩
  · rintro σ' H' ⟨ρ', F', s, e', hI⟩
    rw [hlen] at hI
    exact f1 ρ' σ' F' H' s e' (hd ρ' hI)
theorem we_dgetL {p : Addr} {o : Obj} {vs : List V} {ks : List Key} {l : List D} {tb : TE} (hkv : ks.length = vs.length) (hi : ρ[i]? = some (some (.lk p (.frz o (.dK (ks.zip vs))) vs l))) (h : WE M tb ρ fun y => DGt M (.dic ks l) y k) : WE M (tDGet (tVar i) tb) ρ k := fun σ F H Q e f => by
  obtain ⟨v, h1, rfl, h2, h3, h4, h5, h6⟩ := e.each i _ hi
  refine ⟨_, h1, h σ F H _ e fun y d2 F2 H2 x2 r2 h2' => ?_⟩
  have g2 := x2.ext.hh _ _ h2
  have g6 := RA.mono x2.ff h6
  rcases h2' with ⟨ks', l', s, d, e1, rfl, hv, q⟩ | ⟨ks', l', s, d, e1, rfl, hv, q⟩ | ⟨ks', l', ns, d, e1, rfl, hv, q⟩
  · cases e1
    cases (show RB M F2 H2 y (.str s) from .inl r2).str
    obtain ⟨v, h7, h8⟩ := valD_RA g6 hv
    exact ⟨p, v, rfl, .inl ⟨_, Sum.inr s, .inr ⟨o, Dl_sub _ _ g2⟩, rfl, h7.symm⟩, f _ _ F2 H2 x2 h8 q⟩
  · cases e1
    cases (show RB M F2 H2 y (.int s) from .inl r2).int
    obtain ⟨v, h7, h8⟩ := valD_RA g6 hv
    exact ⟨p, v, rfl, .inl ⟨_, Sum.inl s, .inr ⟨o, Dl_sub _ _ g2⟩, rfl, h7.symm⟩, f _ _ F2 H2 x2 h8 q⟩
  · cases e1
/-- t.index(n) -/
theorem we_idx {te tb : TE} (h : WE M te ρ fun d => ∃ ns, d = .ixt ns ∧ WE M tb ρ fun y => ∃ m : Int, y = .int m ∧ m ∈ ns ∧ k (.int ((ns.idxOf m : Nat) : Int))) : WE M (tBMT (rTupIx M.K) te (tCons tb tNil)) ρ k := fun σ F H Q e f => by
  refine h σ F H _ e fun v d F1 H1 x1 r1 ⟨ns, z, h1⟩ => ?_
  subst z
  obtain ⟨p, ob, rfl, h2, h3⟩ := (show RB M F1 H1 v (.ixt ns) from .inl r1).ixt
  refine ⟨⟨p, ob, _, rfl, x1.gd.sub _ _ h2, h3⟩, ?_⟩
  refine h1 σ F1 H1 _ (e.step x1) fun y d2 F2 H2 x2 r2 ⟨m, z, hm, q⟩ => ?_
  subst z
  cases (show RB M F2 H2 y (.int m) from .inl r2).int
  exact ⟨p, ns, m, rfl, rfl, .inl (.inr ⟨ob, x2.gd.sub _ _ (x2.ff _ _ h2)⟩), hm, f _ _ F2 H2 (x1.trans x2) (.int _) q⟩
theorem cr_tupX {ns : List Int} (q : k (.ixt ns)) : CR M (rTupleF M.K) [.lst (ns.map D.int)] k := fun F H vs Q g rr f => by
  obtain ⟨v, rfl, r⟩ := rbs1 rr
  obtain ⟨p, us, rfl, h1, h2⟩ := r.lst g
  rw [h2.ints] at h1
  exact ⟨p, _, rfl, h1, fun l ob hd hl => f _ _ _ _ ((XE.refl g).new hl) (.ixt upd_same hd) q⟩
/-- e[::-1] -/
theorem k_revL {X : Cx} {K : PySem.W.Frag} (h : X.K = K) {e : Expr} {te : TE} {n : Nat} {p1 p2 p3 pos : Pos} (he : PE X e te) : PE X (.Subscript e (.Slice none none (some (.UnaryOp .USub (.Constant (.int 1) n p1) p2)) p3) pos) (tRevL K te) := by subst h; exact pe_revL he
theorem RA.rev {K : PySem.W.Frag} {C : Addr} {st : Option Addr} {F : Hp} : ∀ {vs : List V} {ds : List D}, RA K C st F vs ds → RA K C st F vs.reverse ds.reverse
  | _, _, .nil => .nil
  | _, _, .cons h t => by rw [List.reverse_cons, List.reverse_cons]; exact (RA.rev t).app (.cons h .nil)
theorem wo_rev {te : TE} (h : WB M te ρ fun d => ∃ l, d = .lst l ∧ ka l.reverse) : WO M (tRevL M.K te) ρ ka := fun σ F H Q e f => by
  refine h σ F H _ e fun v d F1 H1 x1 r1 ⟨l, z, q⟩ => ?_
  subst z
  obtain ⟨p, vs, rfl, h1, h2⟩ := r1.lst x1.gd
  refine ⟨p, vs, rfl, h1, fun a na => ?_⟩
  have hne := x1.gd.ok.ne na
  exact f a vs.reverse l.reverse F1 _ (x1.mut na) (by rw [Dl_upd hne]; exact upd_same) (sub_none x1.gd.sub na) (x1.ext.hh.free (Dl_none na)) h2.rev q
end
end G

namespace G
open PySem PySem.Spec PyProof.Rows L2
section
variable {M : Cm} {ρ : Rho} {k : D → Prop} {ka : List D → Prop} {tr : TA}
theorem rbs3 {F H : Hp} {vs : List V} {d e c : D} (h : RBs M F H vs [d, e, c]) : ∃ v u t, vs = [v, u, t] ∧ RB M F H v d ∧ RB M F H u e ∧ RB M F H t c := by
  cases h with | cons a h => cases h with | cons b h => cases h with | cons c h => cases h; exact ⟨_, _, _, rfl, a, b, c⟩
/-- range(0, n, c) -/
def rngS (c n : Nat) : List D := (List.range ((n + c - 1) / c)).map fun (i : Nat) => D.int ((i * c : Nat) : Int)
theorem rngS_at {c n i : Nat} {d : D} (h : (rngS c n)[i]? = some d) : i < (n + c - 1) / c ∧ d = .int ((i * c : Nat) : Int) := by
  unfold rngS at h
  rw [List.getElem?_map] at h
  cases hr : (List.range ((n + c - 1) / c))[i]? with
  | none => rw [hr] at h; cases h
  | some j =>
    rw [hr] at h
    obtain ⟨h1, h2⟩ := List.getElem?_eq_some_iff.mp hr
    rw [List.getElem_range] at h2
    subst h2
    cases h
    exact ⟨by simpa using h1, rfl⟩
theorem wi_rngS (h : WAB M tr ρ fun ds => ∃ n : Nat, ds = [.int 0, .int n, .int 200] ∧ n ≤ 1000000 ∧ ka (rngS 200 n)) : WI M (iRng3 tr) ρ ka := fun σ F H Q e f => h σ F H _ e fun vs ds F1 H1 x1 r1 ⟨n, z, h1, q⟩ => by
  subst z
  obtain ⟨v, u, t, rfl, ra, rb, rc⟩ := rbs3 r1
  cases ra.int
  cases rb.int
  cases rc.int
  have e : Builtin.Range.rangeSize 0 n 200 = (((n + 200 - 1) / 200 : Nat) : Int) := by
    unfold Builtin.Range.rangeSize
    rw [if_pos (by decide)]
    split <;> omega
  have sm : Builtin.Range.small 0 n 200 = true := by
    have fit : ∀ x : Int, -1000000 ≤ x → x ≤ 2000000 → Builtin.Range.rangeFitsLong x = true := fun x a b => by
      unfold Builtin.Range.rangeFitsLong
      rw [decide_eq_true (by omega), decide_eq_true (by omega)]
      rfl
    have f4 := fit (Builtin.Range.rangeSize 0 n 200) (by rw [e]; omega) (by rw [e]; omega)
    unfold Builtin.Range.small
    rw [fit 0 (by omega) (by omega), fit n (by omega) (by omega), fit 200 (by omega) (by omega), f4, if_pos (by decide), fit _ (by omega) (by omega)]
    rw [Bool.or_true]
    rfl
  refine ⟨0, n, 200, (n + 200 - 1) / 200, rfl, ⟨by decide, by decide, sm, e⟩, f _ (rngS 200 n) F1 H1 x1 ⟨_, _, by rw [rngS, List.length_map, List.length_range]; exact walk_rangeC, fun _ _ _ _ => trivial, fun i x Fa Ha Hb d s g y hd => ?_⟩ q⟩
  obtain ⟨rfl, rfl⟩ := y
  obtain ⟨_, rfl⟩ := rngS_at hd
  refine ⟨Fa, XE.refl g, ?_⟩
  dsimp only
  rw [show (0 : Int) + (i : Int) * 200 = ((i * 200 : Nat) : Int) by omega]
  exact .int _
end
end G

namespace G
open PySem PySem.Spec PyProof.Rows L2
section
variable {M : Cm} {ρ : Rho} {k : D → Prop} {ka : List D → Prop} {nx bk ct : Rho → Prop} {rt : Sl → Rho → Prop} {tr : TA} {i j : Nat} {l m : List D}
/-- xs.append(ys.pop(e)) -/
theorem ws_appPop {r : V → List V → Hp → VK → Prop} (hi : ρ[i]? = some (some (.own l))) (hj : ρ[j]? = some (some (.own m))) (ne : i ≠ j) (h : WA M tr ρ fun ds => MO M r m ds fun m' d => MO M rAppend l [d] fun l' _ => nx ((ρ.set j (some (.own m'))).set i (some (.own l')))) : WS M (tDrop (tBM M.K "list" rAppend (tVar i) (tCons (tBM M.K "list" r (tVar j) tr) tNil))) ρ nx rt bk ct := fun σ F H E e f1 f2 f3 f4 => by
  obtain ⟨v, a1, p, vs, rfl, a2, a3, a4, a5⟩ := e.each i _ hi
  obtain ⟨v, b1, q, us, rfl, b2, b3, b4, b5⟩ := e.each j _ hj
  have pq : p ≠ q := fun z => by
    subst z
    exact e.dist i j _ _ ne hi hj rfl rfl (by rw [a1, b1])
  refine ⟨_, a1, tyV_lst (Dl_sub _ _ a2), _, b1, tyV_lst (Dl_sub _ _ b2), h σ F H _ e fun ws ds F1 H1 x1 r1 g => ?_⟩
  have e1 := e.step x1
  have b2' := x1.ext.hh _ _ b2
  have b3' := x1.ext.fr q _ b2 rfl b3
  have a2' := x1.ext.hh _ _ a2
  have a3' := x1.ext.fr p _ a2 rfl a3
  refine g F1 H1 q us ws _ x1.gd b2' b3' (b5.mono x1.ff) r1 fun us' m' v d r2 r3 g2 => ?_
  have e2 := e1.chg hj rfl b1 b2' b3' b4 (s1 := .own m') (o := .lst us') ⟨q, _, rfl, by rw [Dl_upd (Dl_ne b2')]; exact upd_same, b3', b4, r2⟩
  have a2'' : Dl M.st (upd H1 q (.lst us')) p = some (.lst vs) := by rw [Dl_upd (Dl_ne b2'), upd_ne pq]; exact a2'
  have hi' : (ρ.set j (some (.own m')))[i]? = some (some (.own l)) := by rw [List.getElem?_set_ne (Ne.symm ne)]; exact hi
  show rAppend (V.ref p) [v] (upd H1 q (HO.lst us')) (fun x H1 => E.nx σ H1)
  refine g2 F1 _ p vs [v] _ e2.gd a2'' a3' (a5.mono x1.ff) (.cons r3 .nil) fun vs' l' u d' r4 r5 g3 => ?_
  exact f1 _ σ F1 _ x1.ff (e2.chg hi' rfl a1 a2'' a3' a4 (s1 := .own l') ⟨p, _, rfl, by rw [Dl_upd (Dl_ne a2'')]; exact upd_same, a3', a4, r4⟩) g3
end
end G

namespace G
open PySem PySem.Spec PyProof.Rows L2
/-! ### a list of lists, of one's own -/
def oW : Option Int → V
  | some n => .int n
  | none => .non
def oDD : Option Int → D
  | some n => .int n
  | none => .non
theorem oD_R {K : PySem.W.Frag} {C : Addr} {st : Option Addr} {F : Hp} (o : Option Int) : R K C st F (oW o) (oDD o) := by
  cases o with
  | none => exact .non
  | some n => exact .int n
theorem oD_RA {K : PySem.W.Frag} {C : Addr} {st : Option Addr} {F : Hp} : ∀ l : List (Option Int), RA K C st F (l.map oW) (l.map oDD)
  | [] => .nil
  | o :: l => .cons (oD_R o) (oD_RA l)
/-- at p a list of lists, of one's own: the lists at qs, as ls tells -/
structure NestL (st : Option Addr) (F H0 H : Hp) (p : Addr) (qs : List Addr) (ls : List (List (Option Int))) : Prop where
  len : qs.length = ls.length
  dp : Dl st H p = some (.lst (qs.map V.ref))
  fp : F p = none
  hp : Dl st H0 p = none
  nd : qs.Nodup
  np : p ∉ qs
  each : ∀ (i : Nat) q l, qs[i]? = some q → ls[i]? = some l → Dl st H q = some (.lst (l.map oW)) ∧ F q = none ∧ Dl st H0 q = none
theorem NestL.step {st : Option Addr} {F H0 H F' H' : Hp} {p : Addr} {qs : List Addr} {ls : List (List (Option Int))} (n : NestL st F H0 H p qs ls) (x : XE st F H F' H') : NestL st F' H0 H' p qs ls :=
  ⟨n.len, x.ext.hh _ _ n.dp, x.ext.fr p _ n.dp rfl n.fp, n.hp, n.nd, n.np, fun i q l h1 h2 => by
    obtain ⟨a, b, c⟩ := n.each i q l h1 h2
    exact ⟨x.ext.hh _ _ a, x.ext.fr q _ a rfl b, c⟩⟩
/-- one of its lists changes -/
theorem NestL.chg {st : Option Addr} {F H0 H : Hp} {p : Addr} {qs : List Addr} {ls : List (List (Option Int))} {i : Nat} {q : Addr} {l l' : List (Option Int)} (n : NestL st F H0 H p qs ls) (h1 : qs[i]? = some q) (h2 : ls[i]? = some l) : NestL st F H0 (upd H q (.lst (l'.map oW))) p qs (ls.set i l') := by
  obtain ⟨a, b, c⟩ := n.each i q l h1 h2
  have ne := Dl_ne a
  have hi := (List.getElem?_eq_some_iff.mp h2).1
  refine ⟨by rw [List.length_set]; exact n.len, ?_, n.fp, n.hp, n.nd, n.np, fun j q' m h3 h4 => ?_⟩
  · rw [Dl_upd ne, upd_ne (fun z => n.np (by rw [z]; exact List.mem_of_getElem? h1))]
    exact n.dp
  · by_cases z : i = j
    · subst z
      rw [h1] at h3
      cases h3
      rw [List.getElem?_set_self hi] at h4
      cases h4
      exact ⟨by rw [Dl_upd ne]; exact upd_same, b, c⟩
    · rw [List.getElem?_set_ne z] at h4
      obtain ⟨a', b', c'⟩ := n.each j q' m h3 h4
      exact ⟨by rw [Dl_upd ne, upd_ne (fun w => nodup_ne n.nd h1 h3 z w.symm)]; exact a', b', c'⟩
/-- a list more -/
theorem NestL.add {st : Option Addr} {F H0 H : Hp} {p q1 : Addr} {qs : List Addr} {ls : List (List (Option Int))} {l : List (Option Int)} (n : NestL st F H0 H p qs ls) (g : StG st H) (nq : H q1 = none) (fq : F q1 = none) (h0 : Dl st H0 q1 = none) (fu : ∀ a, st = some a → p ≠ a) :
    NestL st F H0 (upd (upd H q1 (.lst (l.map oW))) p (.lst (qs.map V.ref ++ [.ref q1]))) p (qs ++ [q1]) (ls ++ [l]) := by
  have neq : q1 ≠ p := fun z => by
    have := Dl_sub _ _ n.dp
    rw [← z, nq] at this
    cases this
  have qn : q1 ∉ qs := fun hm => by
    obtain ⟨k, hk⟩ := List.getElem?_of_mem hm
    have kl := (List.getElem?_eq_some_iff.mp hk).1
    have := Dl_sub _ _ (n.each k q1 _ hk (List.getElem?_eq_getElem (by rw [← n.len]; exact kl))).1
    rw [nq] at this
    cases this
  refine ⟨by simp [n.len], by rw [Dl_upd fu, upd_same, List.map_append]; rfl, n.fp, n.hp, List.nodup_append.mpr ⟨n.nd, List.pairwise_singleton _ _, fun a ha b hb z => qn (by rw [List.mem_singleton] at hb; rw [← hb, ← z]; exact ha)⟩, ?_, fun k q' m h1 h2 => ?_⟩
  · rw [List.mem_append, List.mem_singleton]
    rintro (h | h)
    · exact n.np h
    · exact neq h.symm
  · by_cases hk : k < qs.length
    · rw [List.getElem?_append_left hk] at h1
      rw [List.getElem?_append_left (by rw [← n.len]; exact hk)] at h2
      obtain ⟨a, b, c⟩ := n.each k q' m h1 h2
      refine ⟨?_, b, c⟩
      rw [Dl_upd fu, upd_ne (fun z => n.np (by rw [← z]; exact List.mem_of_getElem? h1)), Dl_upd (g.ne nq), upd_ne (fun z => qn (by rw [← z]; exact List.mem_of_getElem? h1))]
      exact a
    · have hk' : k = qs.length := by
        have := (List.getElem?_eq_some_iff.mp h1).1
        simp at this
        omega
      subst hk'
      rw [List.getElem?_append_right (Nat.le_refl _)] at h1
      have e1 : q1 = q' := by simpa using h1
      subst e1
      rw [n.len, List.getElem?_append_right (Nat.le_refl _)] at h2
      have e2 : l = m := by simpa using h2
      subst e2
      refine ⟨?_, fq, h0⟩
      rw [Dl_upd fu, upd_ne neq, Dl_upd (g.ne nq)]
      exact upd_same
theorem NestL.get {K : PySem.W.Frag} {st : Option Addr} {F H0 H : Hp} {p q : Addr} {qs : List Addr} {ls : List (List (Option Int))} {i : Nat} (n : NestL st F H0 H p qs ls) (h1 : qs[i]? = some q) : SqL K H p (qs.map V.ref) ∧ atI (qs.map V.ref) (i : Int) = some (.ref q) := by
  refine ⟨.inl (.inl (Dl_sub _ _ n.dp)), ?_⟩
  have hi := (List.getElem?_eq_some_iff.mp h1).1
  unfold atI ixN
  rw [if_pos (by omega), List.length_map, if_pos (by omega)]
  simp [h1]
/-- all of it frozen -/
theorem NestL.frz {M : Cm} {F H0 H : Hp} {p : Addr} {qs : List Addr} {ls : List (List (Option Int))} (n : NestL M.st F H0 H p qs ls) (x : XE M.st M.F0 H0 F H) : ∃ F', XE M.st M.F0 H0 F' H ∧ RV M F' (.ref p) (.lst (ls.map fun l => .lst (l.map oDD))) := by
  have key : ∀ (qs : List Addr) (ls : List (List (Option Int))) (F1 : Hp), qs.length = ls.length → qs.Nodup → XE M.st M.F0 H0 F1 H → F1 p = none → p ∉ qs → (∀ (i : Nat) q l, qs[i]? = some q → ls[i]? = some l → Dl M.st H q = some (.lst (l.map oW)) ∧ F1 q = none ∧ Dl M.st H0 q = none) →
      ∃ F2, XE M.st M.F0 H0 F2 H ∧ F2 p = none ∧ Same F1 F2 ∧ RL M F2 (qs.map V.ref) (ls.map fun l => .lst (l.map oDD)) := by
    intro qs
    induction qs with
    | nil =>
      intro ls F1 hl _ x1 f1 _ _
      cases ls with
      | nil => exact ⟨F1, x1, f1, Same.refl _, .nil⟩
      | cons _ _ => simp at hl
    | cons q qs ih =>
      intro ls F1 hl nd x1 f1 np h
      cases ls with
      | nil => simp at hl
      | cons l ls =>
        obtain ⟨a, b, c⟩ := h 0 q l rfl rfl
        rw [List.nodup_cons] at nd
        have qp : p ≠ q := fun z => np (by rw [z]; exact List.mem_cons_self)
        obtain ⟨F2, x2, f2, s2, r2⟩ := ih ls (upd F1 q (.lst (l.map oW))) (by simpa using hl) nd.2 (x1.frz c b a) (by rw [upd_ne qp]; exact f1) (fun z => np (List.mem_cons_of_mem _ z)) fun i q' l' h1 h2 => by
          obtain ⟨a', b', c'⟩ := h (i + 1) q' l' (by simpa using h1) (by simpa using h2)
          refine ⟨a', ?_, c'⟩
          rw [upd_ne]
          · exact b'
          · intro z
            exact nd.1 (by rw [← z]; exact List.mem_of_getElem? h1)
        have s1 : Same F1 (upd F1 q (.lst (l.map oW))) := same_upd b
        exact ⟨F2, x2, f2, s1.trans s2, .cons (.lst (.inl (.inl (s2 _ _ upd_same))) (oD_RA l)) r2⟩
  obtain ⟨F2, x2, f2, s2, r2⟩ := key qs ls F n.len n.nd x n.fp n.np n.each
  exact ⟨upd F2 p (.lst (qs.map V.ref)), x2.frz n.hp f2 n.dp, .lst (.inl (.inl upd_same)) (r2.mono (same_upd f2))⟩
/-- [[None, None] for x in xs] -/
theorem lc_nest {K : PySem.W.Frag} {st : Option Addr} {F H : Hp} {σ : L2.St} {j n : Nat} {a : Addr} {xs : List V} {Q : VK} (g : Gd st F H) (ha : SqL K F a xs) (hn : xs.length < 100000) (hj : j < σ.length) (q : ∀ p qs H', XE st F H F H' → qs.length = xs.length → NestL st F H H' p qs (List.replicate xs.length [none, none]) → Q (.ref p) H') :
    ∀ D, H D = none → ∃ W : Nat → Nat → Hp → Prop, (∃ m, W 0 m (upd H D (.lst []))) ∧ ∀ i m H, W i m H →
      ((Itl K a).stop i H ∧ Q (.ref D) H) ∨ ((Itl K a).go i H ∧ ∃ Nx : Hp → Prop, (∀ H', Nx H' → ∃ m', m' < m ∧ W (i + 1) m' H') ∧ ∀ x H', (Itl K a).yld i H x H' → gName j x (wipe σ [j]) H' fun σ2 H2 => wipe σ2 [j] = wipe σ [j] ∧ tYes σ2 H2 fun b H3 =>
        if b = true then tLst (tCons (tC .non) (tCons (tC .non) tNil)) σ2 H3 fun y H4 => ∃ acc, H4 D = some (.lst acc) ∧ acc.length < sizeLine ∧ Nx (upd H4 D (.lst (acc ++ [y]))) else Nx H3) := by
  intro L hL
  have nL := g.ok.ne hL
  have fL := sub_none g.sub hL
  have w := walk_list (K := K) (a := a) (xs := xs)
  refine ⟨fun i m H' => m = xs.length - i ∧ i ≤ xs.length ∧ ∃ qs, XE st F H F H' ∧ qs.length = i ∧ NestL st F H H' L qs (List.replicate i [none, none]), ⟨xs.length, rfl, Nat.zero_le _, [], (XE.refl g).mut hL, rfl, rfl, by rw [Dl_upd nL]; exact upd_same, fL, Dl_none hL, List.Pairwise.nil, by simp, fun i q l h => by simp at h⟩, ?_⟩
  rintro i m H' ⟨rfl, hi, qs, x, ql, nest⟩
  have hG : SqL K H' a xs := sqL_mono x.gd.sub ha
  by_cases hlt : i < xs.length
  · refine .inr ⟨w.goes i H' hlt hG, fun H2 => ∃ qs, XE st F H F H2 ∧ qs.length = i + 1 ∧ NestL st F H H2 L qs (List.replicate (i + 1) [none, none]), fun H2 ⟨qs, h⟩ => ⟨xs.length - (i + 1), by omega, rfl, hlt, qs, h⟩, fun v H2 y => ?_⟩
    obtain ⟨rfl, _⟩ := w.yields i H' v H2 hlt hG y
    refine ⟨?_, ?_⟩
    · simp [wipe]
    · refine s_yes ?_
      refine s_cT ?_
      refine ⟨by show 2 ≤ sizeLine; decide, fun q1 nq => ?_⟩
      have x1 := x.mut (o := .lst [.non, .non]) nq
      have neq : q1 ≠ L := fun z => by
        have := Dl_sub _ _ nest.dp
        rw [← z, nq] at this
        cases this
      have dL : Dl st (upd H2 q1 (.lst [.non, .non])) L = some (.lst (qs.map V.ref)) := by
        rw [Dl_upd (x.ok.ne nq), upd_ne (Ne.symm neq)]
        exact nest.dp
      refine ⟨_, Dl_sub _ _ dL, Nat.lt_of_lt_of_le (show _ < 100000 by rw [List.length_map]; omega) (by decide), qs ++ [q1], x1.chg dL (Dl_none hL) fL, by simp [ql], ?_⟩
      have := nest.add (q1 := q1) (l := [none, none]) x.ok nq (sub_none x.gd.sub nq) (x.ext.hh.free (Dl_none nq)) nL
      rw [List.replicate_succ']
      exact this
  · have e : i = xs.length := by omega
    subst e
    exact .inl ⟨w.stops H' hG, q L qs H' x ql nest⟩
end G

namespace G
open PySem PySem.Spec PyProof.Rows L2
/-! ### defs that tell a thing of its own -/
abbrev CtS := List D → (Sl → Prop) → Prop
def spDS (K : PySem.W.Frag) (C : Addr) (c : CtS) : Sp := fun vs H Q _ => ∃ st F ds k, Gd st F H ∧ RA K C st F vs ds ∧ c ds k ∧ ∀ v s F' H', XE st F H F' H' → SR ⟨K, C, st, F, H⟩ F' H' v s → k s → Q v H'
theorem ws_startS {K : PySem.W.Frag} {C : Addr} {st : Option Addr} {F H : Hp} {N : List Str} {vs : List V} {ds : List D} {k : Sl → Prop} {Q : VK} {t : TS} (g : Gd st F H) (r : RA K C st F vs ds) (f : ∀ v s F' H', XE st F H F' H' → SR ⟨K, C, st, F, H⟩ F' H' v s → k s → Q v H')
    (h : WS ⟨K, C, st, F, H⟩ t (startR N ds) (fun _ => k (.d .non)) (fun s _ => k s) (fun _ => False) (fun _ => False)) : t { nx := fun _ H' => Q .non H', rt := Q } (start N vs) H :=
  h _ F H _ (fr_start g r) (fun ρ' σ' F' H' _ e q => f _ (.d .non) F' H' e.x .non q) (fun v s ρ' σ' F' H' e r q => f v s F' H' e.x r q) (fun _ _ _ _ _ _ q => q.elim) (fun _ _ _ _ _ _ q => q.elim)
section
variable {P : Program} {w : World} {K : PySem.W.Frag} {mg : Str → Option Value} {base : Heap} {C : Addr}
theorem FunAt.defDS {x : Str} {st : Stmt} {N ps : List Str} {n : Nat} {c : CtS} (F : FunAt K mg x st ps) (S : FnScope N ps (defScope st)) (len : ∀ ds k, c ds k → ds.length = ps.length)
    (hbody : ∀ (f : Addr) (cdv : Value) (A : Around) (outer : List Env) (s : Shared) (H : Hp) (E : XK) (sa : Option Addr) (F : Hp) (ds : List D) (k : Sl → Prop), Room n (A.deeper (envOfC x (defScope st) s.heap.objs.size f cdv)) → c ds k →
      ∃ t, PSs (cxOf CX0 P w K mg base N x (defScope st) f cdv A outer s H E).nox (defBody st) t ∧ WS ⟨K, C, sa, F, H⟩ t (startR N ds) (fun _ => k (.d .non)) (fun s _ => k s) (fun _ => False) (fun _ => False)) : Def P w K mg base (n + 1) x ps (spDS K C c) := by
  refine F.def S (fun vs H Q E h => ?_) fun f cdv A outer s H vs Q E hr h => ?_
  · obtain ⟨st, F, ds, k, _, r, hc, _⟩ := h
    rw [r.len]
    exact len ds k hc
  · obtain ⟨st, F, ds, k, g, r, hc, q⟩ := h
    obtain ⟨t, h1, h2⟩ := hbody f cdv A outer s H E st F ds k hr hc
    exact ⟨t, h1, ws_startS g r q h2⟩
end
/-- what a thing is worth once it is frozen -/
def frzS : Sl → Option D
  | .d x => some x
  | .own l => some (.lst l)
  | .ownK ks l => some (.dic ks l)
  | .ownT ks l => some (.dit ks l)
  | .lk _ _ _ _ => none
theorem SR.frozen {K : PySem.W.Frag} {C : Addr} {st : Option Addr} {F0 H0 F H : Hp} {v : V} {s : Sl} {d : D} (x : XE st F0 H0 F H) (r : SR ⟨K, C, st, F0, H0⟩ F H v s) (e : frzS s = some d) : ∃ F', XE st F0 H0 F' H ∧ R K C st F' v d := by
  cases s with
  | d y => cases e; exact ⟨F, x, r⟩
  | own l =>
    cases e
    obtain ⟨p, vs, rfl, h1, h2, h3, h4⟩ := r
    exact ⟨_, x.frz h3 h2 h1, .lst (.inl (.inl upd_same)) (RA.mono (same_upd h2) h4)⟩
  | ownK ks l =>
    cases e
    obtain ⟨p, vs, rfl, h1, h5, h2, h3, h4⟩ := r
    exact ⟨_, x.frz h3 h2 h1, .dic upd_same h5 (RA.mono (same_upd h2) h4)⟩
  | ownT ks l =>
    cases e
    obtain ⟨p, vs, rfl, h1, h5, h2, h3, h4⟩ := r
    exact ⟨_, x.frz h3 h2 h1, .dit upd_same h5 (RA.mono (same_upd h2) h4)⟩
  | lk p o vs l => cases e
theorem Def.frozen {P : Program} {w : World} {K : PySem.W.Frag} {mg : Str → Option Value} {base : Heap} {C : Addr} {n : Nat} {x : Str} {ps : List Str} {c : CtS} {c' : Ct} (D : Def P w K mg base n x ps (spDS K C c)) (h : ∀ ds k, c' ds k → c ds fun s => ∃ d, frzS s = some d ∧ k d) : Def P w K mg base n x ps (spD K C c') := by
  refine D.to fun vs H Q E hh => ?_
  obtain ⟨st, F, ds, k, g, r, hc, q⟩ := hh
  refine ⟨st, F, ds, _, g, r, h ds k hc, fun v s F' H' x rs ⟨d, e, kd⟩ => ?_⟩
  obtain ⟨F2, x2, r2⟩ := SR.frozen x rs e
  exact q v d F2 H' x2 r2 kd
theorem SR.base {M : Cm} {F1 H1 F H : Hp} {v : V} {s : Sl} (sm : Same (Dl M.st M.H0) (Dl M.st H1)) (r : SR ⟨M.K, M.C, M.st, F1, H1⟩ F H v s) : SR M F H v s := by
  cases s with
  | d y => exact r
  | own l =>
    obtain ⟨p, vs, rfl, h1, h2, h3, h4⟩ := r
    exact ⟨p, vs, rfl, h1, h2, sm.free h3, h4⟩
  | ownK ks l =>
    obtain ⟨p, vs, rfl, h1, h5, h2, h3, h4⟩ := r
    exact ⟨p, vs, rfl, h1, h5, h2, sm.free h3, h4⟩
  | ownT ks l =>
    obtain ⟨p, vs, rfl, h1, h5, h2, h3, h4⟩ := r
    exact ⟨p, vs, rfl, h1, h5, h2, sm.free h3, h4⟩
  | lk p o vs l =>
    obtain ⟨rfl, h1, h5, h2, h3, h4⟩ := r
    exact ⟨rfl, h1, h5, h2, sm.free h3, h4⟩
section
variable {M : Cm} {ρ : Rho} {k : D → Prop} {ka : List D → Prop} {nx bk ct : Rho → Prop} {rt : Sl → Rho → Prop} {tr : TA} {te t : TE} {i : Nat} {l : List D}
/-- x = f(..), f telling a thing of its own -/
theorem ws_asgS {c : CtS} {E : XK} (h : WA M tr ρ fun ds => c ds fun s => nx (ρ.set i (some s))) : WS M (tAsg (tCall (spDS M.K M.C c) [] E tr) (gName i)) ρ nx rt bk ct := fun σ F H E e f1 f2 f3 f4 => h σ F H _ e fun vs ds F1 H1 x1 r1 hc => by
  rw [List.append_nil]
  refine ⟨M.st, F1, ds, _, x1.gd, r1, hc, fun v s F' H' x rs q => ?_⟩
  have e1 := (e.step x1).step x
  have rs' : SR M F' H' v s := SR.base (e.x.trans x1).ext.hh rs
  have key : s.mine = false ∨ s.mine = true := by cases s.mine <;> simp
  rcases key with hm | hm
  · cases s with
    | d y => exact f1 _ _ F' H' (x1.trans x).ff (e1.put rs') q
    | _ => cases hm
  · refine f1 _ _ F' H' (x1.trans x).ff (e1.putO rs' fun j s' hj hs m z => ?_) q
    obtain ⟨p, o, rfl, a1, a2, a3⟩ := rs.mine_at hm
    obtain ⟨v', b1, b2⟩ := (e.step x1).each j s' hs
    obtain ⟨p', o', rfl, c1, c2, c3⟩ := b2.mine_at m
    rw [b1] at z
    cases z
    have a4 : Dl M.st H1 p = none := a3
    rw [a4] at c1
    cases c1
/-- a dict by tuples, locked while an expression is told -/
theorem we_lockT {ks : List (List Key)} (hi : ρ[i]? = some (some (.ownT ks l))) (h : ∀ p o vs, ks.length = vs.length → WE M t (ρ.set i (some (.lk p (.frz o (.dT (ks.zip vs))) vs l))) k) : WE M (tLockE t) ρ k := fun σ F H Q e f => by
  obtain ⟨v, h1, p, vs, rfl, h2, h3, h4, h5, h6⟩ := e.each i _ hi
  refine ⟨p, .dT (ks.zip vs), Dl_sub _ _ h2, trivial, fun od => ?_⟩
  have e1 := e.chg (o := .frz od (.dT (ks.zip vs))) hi rfl h1 h2 h4 h5 (s1 := .lk p (.frz od (.dT (ks.zip vs))) vs l) ⟨rfl, by rw [Dl_upd (Dl_ne h2)]; exact upd_same, rfl, h4, h5, h6⟩
  refine h p od vs h3 σ F _ _ e1 fun v d F' H' x r q => ?_
  have lkd : Dl M.st H' p = some (.frz od (.dT (ks.zip vs))) := x.ext.hh _ _ (by rw [Dl_upd (Dl_ne h2)]; exact upd_same)
  refine ⟨Dl_sub _ _ lkd, f v d F' _ ?_ r q⟩
  refine ⟨⟨fun b o hb => ?_, x.ext.ff, fun b o hb => ?_, fun b o hb ht hf => ?_⟩, x.ok.upd (Dl_ne lkd)⟩
  · rw [Dl_upd (Dl_ne lkd)]
    by_cases z : b = p
    · subst z
      rw [upd_same, ← h2, hb]
    · rw [upd_ne z]
      exact x.ext.hh b o (by rw [Dl_upd (Dl_ne h2), upd_ne z]; exact hb)
  · rw [Dl_upd (Dl_ne lkd)]
    by_cases z : b = p
    · subst z
      have := x.ext.fr b _ (by rw [Dl_upd (Dl_ne h2)]; exact upd_same) rfl h4
      rw [this] at hb
      cases hb
    · rw [upd_ne z]
      exact x.ext.fh b o hb
  · by_cases z : b = p
    · subst z
      exact x.ext.fr b _ (by rw [Dl_upd (Dl_ne h2)]; exact upd_same) rfl hf
    · exact x.ext.fr b o (by rw [Dl_upd (Dl_ne h2), upd_ne z]; exact hb) ht hf
theorem Dl_tup {st : Option Addr} {H : Hp} {q : Addr} {xs : List V} (g : StG st H) (h : H q = some (.tup xs)) : Dl st H q = some (.tup xs) := by
  cases st with
  | none => exact h
  | some a =>
    show del H a q = _
    rw [del_ne]
    · exact h
    · intro z
      obtain ⟨s, hs, _⟩ := g a rfl
      rw [z, hs] at h
      cases h
def itemsD (nss : List (List Int)) (l : List D) : List D := List.zipWith (fun ns d => D.tup [.stn ns, d]) nss l
/-- the pairs of a locked dict by tuples -/
theorem wv_itemsT {p : Addr} {o : Obj} {vs : List V} {nss : List (List Int)} (hl : nss.length = vs.length) (hi : ρ[i]? = some (some (.lk p (.frz o (.dT ((nss.map fun ns => ns.map (Sum.inl : Int → Key)).zip vs))) vs l))) (q : ka (itemsD nss l)) : WV M (iItemsT (tVar i)) ρ ka := fun σ F H Q e f => by
  obtain ⟨v, h1, rfl, h2, h3, h4, h5, h6⟩ := e.each i _ hi
  refine ⟨_, h1, p, o, _, rfl, Dl_sub _ _ h2, f _ _ F H (XE.refl e.gd) ?_ q⟩
  have ll := h6.len
  have len : ((nss.map fun ns => ns.map (Sum.inl : Int → Key)).zip vs).length = (itemsD nss l).length := by
    unfold itemsD
    rw [List.length_zip, List.length_map, List.length_zipWith]
    omega
  refine ⟨_, _, by rw [← len]; exact walk_itemsT, fun F' H' x => Dl_sub _ _ (x.ext.hh _ _ h2), fun n x Fa Ha Hb d xa y hd => ?_⟩
  obtain ⟨T, qa, kk, w, hk, rfl, nT, hq, rfl⟩ := y
  unfold itemsD at hd
  rw [List.getElem?_zipWith] at hd
  have hz := List.getElem?_zip_eq_some.mp hk
  obtain ⟨z1, z2⟩ := hz
  rw [List.getElem?_map] at z1
  cases hn : nss[n]? with
  | none => rw [hn] at z1; cases z1
  | some ns =>
    rw [hn] at z1 hd
    cases z1
    obtain ⟨dv, hdv, rdv⟩ := h6.at z2
    rw [hdv] at hd
    cases hd
    have hk2 : (ns.map (Sum.inl : Int → Key)).map kV = ns.map V.int := by rw [List.map_map]; rfl
    rw [hk2] at hq
    have x1 : XM M Fa Ha (upd Fa qa (.tup (ns.map V.int))) Ha := (XE.refl xa.gd).tup (Dl_tup xa.ok hq)
    have s1 : Same Fa (upd Fa qa (.tup (ns.map V.int))) := x1.ff
    have x2 := x1.new (o := .tup [.ref qa, w]) nT
    have fT : (upd Fa qa (.tup (ns.map V.int))) T = none := sub_none x1.gd.sub nT
    have s2 : Same (upd Fa qa (.tup (ns.map V.int))) (upd (upd Fa qa (.tup (ns.map V.int))) T (.tup [.ref qa, w])) := same_upd fT
    refine ⟨_, x2, .tup (.inl (.inl upd_same)) (.cons (.stn (s2 _ _ upd_same)) (.cons (R.mono (xa.ff.trans (s1.trans s2)) rdv) .nil))⟩
end
end G
namespace G
open PySem PySem.Spec PyProof.Rows L2
/-- a, b = a list -/
theorem k_lstG {X : Cx} {K : PySem.W.Frag} {es : List Expr} {k : Nat} {t : TGs} {n : Nat} {pos : Pos} (h : X.K = K) (hc : X.calm = true) (hg : PGs X es t) (hn : (assignEach es X.env).length = n := by rfl) (hst : (assignEach es X.env).findIdx? (·.1) = none := by rfl) :
    PG X (.Tuple es k pos) (gLst K n t) := by subst h; exact pg_lst hc hg hn hst
theorem wg_lst {M : Cm} {ρ : Rho} {S : Nat → Prop} {kr : Rho → Prop} {l : List D} {n : Nat} {g : TGs} (hn : l.length = n) (h : WGs M S g l ρ kr) : WG M S (gLst M.K n g) (.lst l) ρ kr := fun v σ F H Q e r f => by
  cases r with
  | lst a b => exact ⟨_, _, rfl, sqL_mono e.gd.sub a, by rw [b.len]; exact hn, h _ σ F H Q e b f⟩
end G

namespace G.Q
open PySem PySem.Spec PyProof.Rows L2
local macro_rules | `(tactic| walk_at "d1") => `(tactic| first | with_reducible refine ws_seq ?_ | with_reducible refine ws_next ?_ | with_reducible refine ws_ret ?_ | with_reducible refine ws_retN ?_ | with_reducible refine ws_if ?_ | ((with_reducible show WS _ (tDrop (tBM _ "list" _ (tVar _) _)) _ _ _ _ _); refine ws_mt rfl ?_) | ((with_reducible show WS _ (tDrop (tBM0 _ "list" _ (tVar _))) _ _ _ _ _); refine ws_mt0 rfl ?_) | ((with_reducible show WS _ (tAsg (tBM _ "list" _ (tVar _) _) (gName _)) _ _ _ _ _); refine ws_mtS rfl ?_) | ((with_reducible show WS _ (tAsg (tBM0 _ "list" _ (tVar _)) (gName _)) _ _ _ _ _); refine ws_mt0S rfl ?_) | ((with_reducible show WS _ (tAsgO (tDisp _) _) _ _ _ _ _); refine ws_setOwnK ?_) | ((with_reducible show WS _ (tAsgO tDNewK _) _ _ _ _ _); refine ws_setOwnK ?_) | ((with_reducible show WS _ (tAsgO (tDc _ _ _ _ _ _) _) _ _ _ _ _); refine ws_setOwnK ?_) | ((with_reducible show WS _ (tAsgO tDNewT _) _ _ _ _ _); refine ws_setOwnT ?_) | ((with_reducible show WS _ (tAsgO (tDispT1 _ _) _) _ _ _ _ _); refine ws_setOwnT ?_) | with_reducible refine ws_setOwn ?_ | ((with_reducible show WS _ (tAsg _ (gSub (tVar _) _ rSetL)) _ _ _ _ _); first | refine ws_setItem rfl ?_ | refine ws_setWl rfl ?_) | ((with_reducible show WS _ (tAugS (tVar _) _ _ _ _ _) _ _ _ _ _); refine ws_augItem rfl ?_) | ((with_reducible show WS _ (sDPut (tVar _) _ _) _ _ _ _ _); first | refine ws_dput rfl ?_ | refine ws_dputT rfl ?_) | ((with_reducible show WS _ (tDrop (tBM _ "dict" rUpd (tVar _) _)) _ _ _ _ _); refine ws_upd rfl ?_) | ((with_reducible show WS _ (tAsg (tCall (spDS _ _ _) _ _ _) (gName _)) _ _ _ _ _); refine ws_asgS ?_) | with_reducible refine ws_asg ?_ | with_reducible refine ws_drop ?_ | ((with_reducible show WS _ (tAug _ _ _) _ _ _ _ _); refine ws_aug rfl ?_) | with_reducible refine ws_par ?_ | with_reducible refine ws_break ?_ | with_reducible refine ws_cont ?_ | with_reducible refine wg_name (by first | trivial | decide) ?_ | with_reducible refine wg_tup rfl ?_ | with_reducible refine wg_stn rfl ?_ | with_reducible refine wg_lst rfl ?_ | with_reducible refine wgs_cons ?_ | with_reducible refine wgs_nil ?_ | with_reducible refine wgs_consM ?_ | with_reducible refine wgs_nilM ?_ | ((with_reducible show WE _ (tVar _) _ _); refine we_var rfl ?_) | with_reducible refine we_int ?_ | with_reducible refine we_str ?_ | with_reducible refine we_bl ?_ | with_reducible refine we_non ?_ | with_reducible refine wt_test ?_ | with_reducible refine wt_B ?_ | with_reducible refine wt_not ?_ | with_reducible refine wt_and ?_ | with_reducible refine wt_or ?_ | with_reducible refine wt_yes ?_ | with_reducible refine we_isi ?_ | with_reducible refine we_notV ?_ | with_reducible refine we_andV ?_ | with_reducible refine we_orV ?_ | with_reducible refine we_if ?_ | with_reducible refine we_chain ?_ | with_reducible refine we_un ?_ | with_reducible refine ou_neg ?_ | with_reducible refine we_call ?_ | with_reducible refine we_meth (by decide) ?_ | with_reducible refine we_tupK2 ?_ | with_reducible refine we_tup ?_ | with_reducible refine wa_cons ?_ | with_reducible refine wa_nil ?_ | with_reducible refine wab_cons ?_ | with_reducible refine wab_nil ?_ | with_reducible refine WO.we (wo_lst ?_) | with_reducible refine wo_lst ?_ | with_reducible refine we_op ?_ | ((with_reducible show WO _ (tOp rMulS (tLst _) _) _ _); refine wo_rep ?_) | with_reducible refine wo_op ?_ | with_reducible refine we_cb ?_ | with_reducible refine wo_cb ?_ | ((with_reducible show WE _ (tFld _ _ "hard") _ _); refine we_hard (by assumption) ?_) | ((with_reducible show WE _ (tFld _ _ "heavy") _ _); refine we_heavy (by assumption) ?_) | ((with_reducible show WE _ (tFld _ _ "places") _ _); refine we_places (by assumption) ?_) | ((with_reducible show WE _ (tFld _ _ "told") _ _); refine we_told (by assumption) ?_) | ((with_reducible show WE _ (tFld _ _ "meets") _ _); refine we_meets (by assumption) ?_) | ((with_reducible show WB _ (tVar _) _ _); first | refine wb_own rfl ?_ | refine wb_ownK rfl ?_ | refine wb_ownT rfl ?_ | refine wb_lkT rfl (by assumption) ?_ | refine wb_wl rfl ?_) | with_reducible refine WE.wb ?_ | with_reducible refine op_addSI ?_ | with_reducible refine op_I0i ?_ | with_reducible refine op_I0b ?_ | with_reducible refine op_eqII ?_ | with_reducible refine op_neII ?_ | with_reducible refine op_eqBB ?_ | with_reducible refine op_neBB ?_ | with_reducible refine op_eqSS ?_ | with_reducible refine op_neSS ?_ | with_reducible refine op_isNn ?_ | with_reducible refine op_notNn ?_ | with_reducible refine op_ip ?_ | ((with_reducible show OP _ (rIx _) (D.tup _) (D.int _) _); refine op_ixT (by rfl) ?_) | ((with_reducible show OP _ (rIx _) (D.lst _) (D.int _) _); refine op_ixL (by rfl) ?_) | with_reducible refine cr_lenDK ?_ | with_reducible refine cr_lenDT ?_ | with_reducible refine cr_lenL ?_ | with_reducible refine cr_lenT ?_ | with_reducible refine cr_lenS ?_ | with_reducible refine cr_lenX ?_ | with_reducible refine cr_tupX ?_ | with_reducible refine cr_sumS ?_ | with_reducible refine cr_sumLi ?_ | with_reducible refine cr_sumTi ?_ | with_reducible refine cr_allB ?_ | with_reducible refine cr_anyB ?_ | with_reducible refine cr_absI ?_ | with_reducible refine cr_int_i ?_ | with_reducible refine cr_int_b ?_ | with_reducible refine CRO.cr (cr_listL ?_) | with_reducible refine CRO.cr (cr_listT ?_) | with_reducible refine CRO.cr (cr_listS ?_) | with_reducible refine cr_listL ?_ | with_reducible refine cr_listT ?_ | with_reducible refine cr_listS ?_ | with_reducible refine cr_tupLi ?_ | with_reducible refine cr_tupS ?_ | with_reducible refine cr_tupL ?_ | with_reducible refine cr_tupT ?_ | with_reducible refine wok_new ?_ | with_reducible refine wot_new ?_ | with_reducible refine wok_disp1 ?_ | with_reducible refine wps_cons ?_ | with_reducible refine wps_nil ?_ | with_reducible refine key_str ?_ | with_reducible refine wot_disp1 ?_ | with_reducible refine we_din ?_ | with_reducible refine we_dnotin ?_ | with_reducible refine din_I ?_ | with_reducible refine din_S ?_ | with_reducible refine din_T ?_ | ((with_reducible show WE _ (tDGet (tVar _) _) _ _); refine we_dgetL (by assumption) rfl ?_) | with_reducible refine we_dget ?_ | with_reducible refine we_idx ?_ | with_reducible refine wo_rev ?_ | with_reducible refine WO.we (wo_rev ?_) | with_reducible refine dgp_hard ?_ | with_reducible refine dgp_wide ?_ | with_reducible refine dgp_rows ?_ | with_reducible refine dgp_pairs ?_ | with_reducible refine dgp_many ?_ | with_reducible refine dg_hard ?_ | with_reducible refine dg_places ?_ | with_reducible refine dg_told ?_ | with_reducible refine dg_heavy ?_ | with_reducible refine dg_meets ?_ | with_reducible refine wp_no ?_ | with_reducible refine wp_some ?_ | with_reducible refine WI.wv ?_ | with_reducible refine wi_rng1 ?_ | with_reducible refine wad_cons ?_ | with_reducible refine wad_nil ?_ | with_reducible refine wd_tup ?_ | with_reducible refine wd_lst ?_ | with_reducible refine ⟨_, rfl, ?_⟩ | with_reducible refine ⟨_, _, rfl, ?_⟩ | ((with_reducible show List.length _ ≤ 1000 ∧ _); refine len_ok (by rfl) ?_) | ((with_reducible show if D.isN _ = true then _ else _); first | refine s_nnT (by rfl) ?_ | refine s_nnF (by rfl) ?_) | ((with_reducible show if (!D.isN _) = true then _ else _); first | refine s_mnT (by rfl) ?_ | refine s_mnF (by rfl) ?_) | with_reducible refine s_cT ?_ | with_reducible refine s_cF ?_ | with_reducible refine s_nT ?_ | with_reducible refine s_nF ?_)
local macro_rules | `(tactic| walk_at "dw") => `(tactic| ((try dsimp only [List.set, wipeR, snd_cons, snd_nil]); repeat (walk_at "d1"; try dsimp only [List.set, wipeR, snd_cons, snd_nil])))
local macro_rules | `(tactic| walk_at "c1") => `(tactic| first | with_reducible refine c_call rfl ?_ | with_reducible refine c_op ?_ | ((with_reducible show CE _ _ _ (tVar _) _ _); refine CE.of rfl (by assumption) ?_) | ((with_reducible show CE _ _ _ (tC _) _ _); refine CE.of rfl (by assumption) ?_) | with_reducible refine ca_cons ?_ | with_reducible refine ca_nil rfl (by assumption) ?_ | with_reducible refine c_lst ?_ | with_reducible refine c_tup ?_ | with_reducible refine c_test ?_ | with_reducible refine c_rng1 ?_ | ((with_reducible show Wl _ _ → _); intro _) | ((with_reducible show ∀ _ : HO, Wl _ _ → _); intro _ _))
local macro_rules | `(tactic| walk_at "cw") => `(tactic| ((try dsimp only [List.set, wipeR, snd_cons, snd_nil]); repeat (first | walk_at "c1" | walk_at "d1"; try dsimp only [List.set, wipeR, snd_cons, snd_nil])))

abbrev tI (ns : List Int) : D := .stn ns
abbrev lI (ns : List Int) : D := .lst (ns.map D.int)
def oD : Option Int → D
  | none => .non
  | some i => .int i
def loOk (n : Int) : Option Int → Bool
  | none => true
  | some l => decide (l ≤ n)
def hiOk (n : Int) : Option Int → Bool
  | none => true
  | some h => decide (n ≤ h)
def wholeD (x : D) (lo hi : Option Int) : Bool := match x with
  | .int n => loOk n lo && hiOk n hi
  | _ => false
def isIntD : D → Bool
  | .int _ => true
  | _ => false
theorem whole_isInt (x : D) : wholeD x none none = isIntD x := by cases x <;> rfl
theorem kb_ii : kitB "int" "int" = some true := by decide +kernel
theorem kb_ib : kitB "int" "bool" = some false := by decide +kernel
theorem kb_bi : kitB "bool" "int" = some true := by decide +kernel
theorem kb_bb : kitB "bool" "bool" = some true := by decide +kernel
theorem kb_ni : kitB "NoneType" "int" = some false := by decide +kernel
theorem kb_si : kitB "str" "int" = some false := by decide +kernel
theorem kb_li : kitB "list" "int" = some false := by decide +kernel
theorem kb_ti : kitB "tuple" "int" = some false := by decide +kernel
theorem kb_tt : kitB "tuple" "tuple" = some true := by decide +kernel
theorem kb_ll : kitB "list" "list" = some true := by decide +kernel
theorem kb_it : kitB "int" "tuple" = some false := by decide +kernel
theorem kb_nt : kitB "NoneType" "tuple" = some false := by decide +kernel
theorem kb_st : kitB "str" "tuple" = some false := by decide +kernel
theorem kb_bt : kitB "bool" "tuple" = some false := by decide +kernel
theorem kb_lt : kitB "list" "tuple" = some false := by decide +kernel
theorem at_intD {ns : List Int} {i : Nat} (h : i < ns.length) : atI (ns.map D.int) (i : Int) = some (.int (ns.getD i 0)) := by
  unfold atI
  rw [List.length_map, ix_int h]
  show (ns.map D.int)[i]? = _
  rw [List.getElem?_map, List.getElem?_eq_getElem h, List.getD_eq_getElem?_getD, List.getElem?_eq_getElem h]
  rfl
theorem item_int {ns : List Int} {i : Nat} (h : i < ns.length) : (ns.map D.int)[i]? = some (.int (ns.getD i 0)) := by
  rw [List.getElem?_map, List.getElem?_eq_getElem h, List.getD_eq_getElem?_getD, List.getElem?_eq_getElem h]
  rfl
theorem ix_mapD {ns : List Int} {i : Nat} (h : i < ns.length) : ixN (ns.map D.int).length (i : Int) = some i := by
  rw [List.length_map]
  exact ix_int h
theorem set_mapD (ns : List Int) (i : Nat) (x : Int) : (ns.map D.int).set i (.int x) = (ns.set i x).map D.int := by rw [List.map_set]
theorem at_mapD {α : Type} {f : α → D} {l : List α} {i : Nat} {x : α} (h : l[i]? = some x) : atI (l.map f) (i : Int) = some (f x) := by
  unfold atI
  rw [List.length_map, ix_int (List.getElem?_eq_some_iff.mp h).1]
  show (l.map f)[i]? = _
  rw [List.getElem?_map, h]
  rfl
section
variable {P : Program} {w : World} {K : PySem.W.Frag} {mg : Str → Option Value} {base : Heap} {C : Addr}
def cWhole : Ct := fun ds k => ∃ x lo hi, ds = [x, oD lo, oD hi] ∧ x.ty.isSome = true ∧ k (.bl (wholeD x lo hi))
abbrev s_is_whole : Stmt := topS 5
abbrev n_is_whole : List Str := ["thing", "low", "high"]
theorem sc_is_whole : FnScope ["thing", "low", "high"] ["thing", "low", "high"] (defScope s_is_whole) := ⟨rfl, rfl, rfl, by decide +kernel, rfl, by decide +kernel, by decide +kernel⟩
theorem ok_is_whole (B : Blt mg) (F : FunAt K mg "is_whole" s_is_whole ["thing", "low", "high"]) : Def P w K mg base 1 "is_whole" ["thing", "low", "high"] (spD K C cWhole) := by
  refine F.defD (n := 0) sc_is_whole (fun ds k h => by obtain ⟨_, _, _, rfl, _⟩ := h; rfl) fun f cdv A outer s H E sa F ds k hr h => ?_
  obtain ⟨x, lo, hi, rfl, hx, q⟩ := h
  refine ⟨_, (pss_cons (ps_if (PW.pt (pw_or (pt_not (pt_val (pe_callB (k_isi (K := K) rfl) (by rfl) B.isinstance bb_isinstance (pa_cons (pv 0) (pa_cons (pe_bltn (v := .ty "int") (by rfl) B.int bb_int rfl) pa_nil))))) (pw_or1 (pt_val (pe_callB (k_isi (K := K) rfl) (by rfl) B.isinstance bb_isinstance (pa_cons (pv 0) (pa_cons (pe_bltn (v := .ty "bool") (by rfl) B.bool bb_bool rfl) pa_nil))))))) (pss_one (ps_ret pe_bl)) pss_nil) (pss_one (ps_ret (pe_and (pe_or (pe_cmpR op_isN (pv 1) pe_non (nomark _)) (pe_one (pe_cmpR op_le (pv 1) (pv 0) (nomark _)))) (pe_one (pe_or (pe_cmpR op_isN (pv 2) pe_non (nomark _)) (pe_one (pe_cmpR op_le (pv 0) (pv 2) (nomark _))))))))), ?_⟩; refine start_eqR (ρ' := [some (.d (x)), some (.d (oD lo)), some (.d (oD hi))]) rfl ?_
  walk_at "dw"
  cases x with
  | int n =>
    refine ⟨_, _, rfl, kb_ii, ?_⟩
    walk_at "dw"
    refine ⟨_, _, rfl, kb_ib, ?_⟩
    walk_at "dw"
    have fin : ∀ b : Bool, k (.bl (b && hiOk n hi)) → if b = true then WE ⟨K, C, sa, F, H⟩ (tOrV (tOp (fun x y H Q => y = V.non ∧ Q (V.bl (decide (x = V.non))) H) (tVar 2) (tC V.non)) (tOp (rI0 fun i j => V.bl (decide (i ≤ j))) (tVar 0) (tVar 2))) [some (.d (.int n)), some (.d (oD lo)), some (.d (oD hi))] k else k (.bl false) := fun b qb => by
      cases b with
      | false => exact iteF qb
      | true =>
        refine iteT ?_
        rw [Bool.true_and] at qb
        cases hi with
        | none =>
          walk_at "dw"
          exact qb
        | some h =>
          walk_at "dw"
          simp only [oD]
          walk_at "dw"
          exact qb
    cases lo with
    | none => first | exact fin true q | exact s_nnT rfl ⟨true, rfl, fin true q⟩
    | some l =>
      refine s_nnF rfl ?_
      simp only [oD]
      walk_at "dw"
      exact fin _ q
  | non => exact ⟨_, _, rfl, kb_ni, by walk_at "dw"; exact q⟩
  | bl b => exact ⟨_, _, rfl, kb_bi, by walk_at "dw"; exact ⟨_, _, rfl, kb_bb, by walk_at "dw"; exact q⟩⟩
  | str b => exact ⟨_, _, rfl, kb_si, by walk_at "dw"; exact q⟩
  | lst b => exact ⟨_, _, rfl, kb_li, by walk_at "dw"; exact q⟩
  | tup b => exact ⟨_, _, rfl, kb_ti, by walk_at "dw"; exact q⟩
  | dic a b => exact ⟨_, _, rfl, kb_di, by walk_at "dw"; exact q⟩
  | dit a b => exact ⟨_, _, rfl, kb_di, by walk_at "dw"; exact q⟩
  | stn b => exact ⟨_, _, rfl, kb_ti, by walk_at "dw"; exact q⟩
  | ixt b => exact ⟨_, _, rfl, kb_ti, by walk_at "dw"; exact q⟩
  | bench b => cases hx
  | st => cases hx
  | exc _ _ _ _ => cases hx
  | lsx _ _ => cases hx
def cTn : Ct := fun ds k => ∃ s b : Int, ds = [.int s, .int b] ∧ CDivW s b ∧ k (.int (tn s b))
end
end G.Q

namespace G.Q
open PySem PySem.Spec PyProof.Rows L2
local macro_rules | `(tactic| walk_at "d1") => `(tactic| first | with_reducible refine ws_seq ?_ | with_reducible refine ws_next ?_ | with_reducible refine ws_ret ?_ | with_reducible refine ws_retN ?_ | with_reducible refine ws_if ?_ | ((with_reducible show WS _ (tDrop (tBM _ "list" _ (tVar _) _)) _ _ _ _ _); refine ws_mt rfl ?_) | ((with_reducible show WS _ (tDrop (tBM0 _ "list" _ (tVar _))) _ _ _ _ _); refine ws_mt0 rfl ?_) | ((with_reducible show WS _ (tAsg (tBM _ "list" _ (tVar _) _) (gName _)) _ _ _ _ _); refine ws_mtS rfl ?_) | ((with_reducible show WS _ (tAsg (tBM0 _ "list" _ (tVar _)) (gName _)) _ _ _ _ _); refine ws_mt0S rfl ?_) | ((with_reducible show WS _ (tAsgO (tDisp _) _) _ _ _ _ _); refine ws_setOwnK ?_) | ((with_reducible show WS _ (tAsgO tDNewK _) _ _ _ _ _); refine ws_setOwnK ?_) | ((with_reducible show WS _ (tAsgO (tDc _ _ _ _ _ _) _) _ _ _ _ _); refine ws_setOwnK ?_) | ((with_reducible show WS _ (tAsgO tDNewT _) _ _ _ _ _); refine ws_setOwnT ?_) | ((with_reducible show WS _ (tAsgO (tDispT1 _ _) _) _ _ _ _ _); refine ws_setOwnT ?_) | with_reducible refine ws_setOwn ?_ | ((with_reducible show WS _ (tAsg _ (gSub (tVar _) _ rSetL)) _ _ _ _ _); first | refine ws_setItem rfl ?_ | refine ws_setWl rfl ?_) | ((with_reducible show WS _ (tAugS (tVar _) _ _ _ _ _) _ _ _ _ _); refine ws_augItem rfl ?_) | ((with_reducible show WS _ (sDPut (tVar _) _ _) _ _ _ _ _); first | refine ws_dput rfl ?_ | refine ws_dputT rfl ?_) | ((with_reducible show WS _ (tDrop (tBM _ "dict" rUpd (tVar _) _)) _ _ _ _ _); refine ws_upd rfl ?_) | ((with_reducible show WS _ (tAsg (tCall (spDS _ _ _) _ _ _) (gName _)) _ _ _ _ _); refine ws_asgS ?_) | with_reducible refine ws_asg ?_ | with_reducible refine ws_drop ?_ | ((with_reducible show WS _ (tAug _ _ _) _ _ _ _ _); refine ws_aug rfl ?_) | with_reducible refine ws_par ?_ | with_reducible refine ws_break ?_ | with_reducible refine ws_cont ?_ | with_reducible refine wg_name (by first | trivial | decide) ?_ | with_reducible refine wg_tup rfl ?_ | with_reducible refine wg_stn rfl ?_ | with_reducible refine wg_lst rfl ?_ | with_reducible refine wgs_cons ?_ | with_reducible refine wgs_nil ?_ | with_reducible refine wgs_consM ?_ | with_reducible refine wgs_nilM ?_ | ((with_reducible show WE _ (tVar _) _ _); refine we_var rfl ?_) | with_reducible refine we_int ?_ | with_reducible refine we_str ?_ | with_reducible refine we_bl ?_ | with_reducible refine we_non ?_ | with_reducible refine wt_test ?_ | with_reducible refine wt_B ?_ | with_reducible refine wt_not ?_ | with_reducible refine wt_and ?_ | with_reducible refine wt_or ?_ | with_reducible refine wt_yes ?_ | with_reducible refine we_isi ?_ | with_reducible refine we_notV ?_ | with_reducible refine we_andV ?_ | with_reducible refine we_orV ?_ | with_reducible refine we_if ?_ | with_reducible refine we_chain ?_ | with_reducible refine we_un ?_ | with_reducible refine ou_neg ?_ | with_reducible refine we_call ?_ | with_reducible refine we_meth (by decide) ?_ | with_reducible refine we_tupK2 ?_ | with_reducible refine we_tup ?_ | with_reducible refine wa_cons ?_ | with_reducible refine wa_nil ?_ | with_reducible refine wab_cons ?_ | with_reducible refine wab_nil ?_ | with_reducible refine WO.we (wo_lst ?_) | with_reducible refine wo_lst ?_ | with_reducible refine we_op ?_ | ((with_reducible show WO _ (tOp rMulS (tLst _) _) _ _); refine wo_rep ?_) | with_reducible refine wo_op ?_ | with_reducible refine we_cb ?_ | with_reducible refine wo_cb ?_ | ((with_reducible show WE _ (tFld _ _ "hard") _ _); refine we_hard (by assumption) ?_) | ((with_reducible show WE _ (tFld _ _ "heavy") _ _); refine we_heavy (by assumption) ?_) | ((with_reducible show WE _ (tFld _ _ "places") _ _); refine we_places (by assumption) ?_) | ((with_reducible show WE _ (tFld _ _ "told") _ _); refine we_told (by assumption) ?_) | ((with_reducible show WE _ (tFld _ _ "meets") _ _); refine we_meets (by assumption) ?_) | ((with_reducible show WB _ (tVar _) _ _); first | refine wb_own rfl ?_ | refine wb_ownK rfl ?_ | refine wb_ownT rfl ?_ | refine wb_lkT rfl (by assumption) ?_ | refine wb_wl rfl ?_) | with_reducible refine WE.wb ?_ | with_reducible refine op_addSI ?_ | with_reducible refine op_I0i ?_ | with_reducible refine op_I0b ?_ | with_reducible refine op_eqII ?_ | with_reducible refine op_neII ?_ | with_reducible refine op_eqBB ?_ | with_reducible refine op_neBB ?_ | with_reducible refine op_eqSS ?_ | with_reducible refine op_neSS ?_ | with_reducible refine op_isNn ?_ | with_reducible refine op_notNn ?_ | with_reducible refine op_ip ?_ | ((with_reducible show OP _ (rIx _) (D.tup _) (D.int _) _); refine op_ixT (by rfl) ?_) | ((with_reducible show OP _ (rIx _) (D.lst _) (D.int _) _); refine op_ixL (by rfl) ?_) | with_reducible refine cr_lenDK ?_ | with_reducible refine cr_lenDT ?_ | with_reducible refine cr_lenL ?_ | with_reducible refine cr_lenT ?_ | with_reducible refine cr_lenS ?_ | with_reducible refine cr_lenX ?_ | with_reducible refine cr_tupX ?_ | with_reducible refine cr_sumS ?_ | with_reducible refine cr_sumLi ?_ | with_reducible refine cr_sumTi ?_ | with_reducible refine cr_allB ?_ | with_reducible refine cr_anyB ?_ | with_reducible refine cr_absI ?_ | with_reducible refine cr_int_i ?_ | with_reducible refine cr_int_b ?_ | with_reducible refine CRO.cr (cr_listL ?_) | with_reducible refine CRO.cr (cr_listT ?_) | with_reducible refine CRO.cr (cr_listS ?_) | with_reducible refine cr_listL ?_ | with_reducible refine cr_listT ?_ | with_reducible refine cr_listS ?_ | with_reducible refine cr_tupLi ?_ | with_reducible refine cr_tupS ?_ | with_reducible refine cr_tupL ?_ | with_reducible refine cr_tupT ?_ | with_reducible refine wok_new ?_ | with_reducible refine wot_new ?_ | with_reducible refine wok_disp1 ?_ | with_reducible refine wps_cons ?_ | with_reducible refine wps_nil ?_ | with_reducible refine key_str ?_ | with_reducible refine wot_disp1 ?_ | with_reducible refine we_din ?_ | with_reducible refine we_dnotin ?_ | with_reducible refine din_I ?_ | with_reducible refine din_S ?_ | with_reducible refine din_T ?_ | ((with_reducible show WE _ (tDGet (tVar _) _) _ _); refine we_dgetL (by assumption) rfl ?_) | with_reducible refine we_dget ?_ | with_reducible refine we_idx ?_ | with_reducible refine wo_rev ?_ | with_reducible refine WO.we (wo_rev ?_) | with_reducible refine dgp_hard ?_ | with_reducible refine dgp_wide ?_ | with_reducible refine dgp_rows ?_ | with_reducible refine dgp_pairs ?_ | with_reducible refine dgp_many ?_ | with_reducible refine dg_hard ?_ | with_reducible refine dg_places ?_ | with_reducible refine dg_told ?_ | with_reducible refine dg_heavy ?_ | with_reducible refine dg_meets ?_ | with_reducible refine wp_no ?_ | with_reducible refine wp_some ?_ | with_reducible refine WI.wv ?_ | with_reducible refine wi_rng1 ?_ | with_reducible refine wad_cons ?_ | with_reducible refine wad_nil ?_ | with_reducible refine wd_tup ?_ | with_reducible refine wd_lst ?_ | with_reducible refine ⟨_, rfl, ?_⟩ | with_reducible refine ⟨_, _, rfl, ?_⟩ | ((with_reducible show List.length _ ≤ 1000 ∧ _); refine len_ok (by rfl) ?_) | ((with_reducible show if D.isN _ = true then _ else _); first | refine s_nnT (by rfl) ?_ | refine s_nnF (by rfl) ?_) | ((with_reducible show if (!D.isN _) = true then _ else _); first | refine s_mnT (by rfl) ?_ | refine s_mnF (by rfl) ?_) | with_reducible refine s_cT ?_ | with_reducible refine s_cF ?_ | with_reducible refine s_nT ?_ | with_reducible refine s_nF ?_)
local macro_rules | `(tactic| walk_at "dw") => `(tactic| ((try dsimp only [List.set, wipeR, snd_cons, snd_nil]); repeat (walk_at "d1"; try dsimp only [List.set, wipeR, snd_cons, snd_nil])))
local macro_rules | `(tactic| walk_at "c1") => `(tactic| first | with_reducible refine c_call rfl ?_ | with_reducible refine c_op ?_ | ((with_reducible show CE _ _ _ (tVar _) _ _); refine CE.of rfl (by assumption) ?_) | ((with_reducible show CE _ _ _ (tC _) _ _); refine CE.of rfl (by assumption) ?_) | with_reducible refine ca_cons ?_ | with_reducible refine ca_nil rfl (by assumption) ?_ | with_reducible refine c_lst ?_ | with_reducible refine c_tup ?_ | with_reducible refine c_test ?_ | with_reducible refine c_rng1 ?_ | ((with_reducible show Wl _ _ → _); intro _) | ((with_reducible show ∀ _ : HO, Wl _ _ → _); intro _ _))
local macro_rules | `(tactic| walk_at "cw") => `(tactic| ((try dsimp only [List.set, wipeR, snd_cons, snd_nil]); repeat (first | walk_at "c1" | walk_at "d1"; try dsimp only [List.set, wipeR, snd_cons, snd_nil])))

theorem zipD_at {α β : Type} {f : α → D} {g : β → D} {xs : List α} {ys : List β} {i : Nat} {d : D} (h : (zipD (xs.map f) (ys.map g))[i]? = some d) : ∃ x y, xs[i]? = some x ∧ ys[i]? = some y ∧ d = .tup [f x, g y] := by
  unfold zipD at h
  rw [List.getElem?_zipWith, List.getElem?_map, List.getElem?_map] at h
  cases hx : xs[i]? with
  | none => rw [hx] at h; cases h
  | some x =>
    cases hy : ys[i]? with
    | none => rw [hx, hy] at h; cases h
    | some y =>
      rw [hx, hy] at h
      cases h
      exact ⟨x, y, rfl, rfl, rfl⟩
theorem zipD_map {α β : Type} {f : α → D} {g : β → D} : ∀ (xs : List α) (ys : List β), zipD (xs.map f) (ys.map g) = (xs.zip ys).map fun p => .tup [f p.1, g p.2]
  | [], _ => rfl
  | _ :: _, [] => rfl
  | x :: xs, y :: ys => by
    show D.tup [f x, g y] :: zipD (xs.map f) (ys.map g) = _
    rw [zipD_map xs ys]
    rfl
theorem mapD_at {α : Type} {f : α → D} {xs : List α} {i : Nat} {d : D} (h : (xs.map f)[i]? = some d) : ∃ x, xs[i]? = some x ∧ d = f x := by
  rw [List.getElem?_map] at h
  cases hx : xs[i]? with
  | none => rw [hx] at h; cases h
  | some x => rw [hx] at h; cases h; exact ⟨x, rfl, rfl⟩
theorem takeAll_take (w : List Int) : ∀ (r : List (Nat × Nat)) (gs hs : List Int) (i : Nat) (p : Nat × Nat) (g : Int), r[i]? = some p → gs[i]? = some g → takeAll w hs (r.take (i + 1)) (gs.take (i + 1)) = take1 w (takeAll w hs (r.take i) (gs.take i)) p g
  | [], _, _, i, p, g, h, _ => by simp at h
  | _ :: _, [], _, i, p, g, _, h => by simp at h
  | q :: r, x :: gs, hs, 0, p, g, h1, h2 => by
    simp at h1 h2
    subst h1 h2
    simp [takeAll]
  | q :: r, x :: gs, hs, i + 1, p, g, h1, h2 => by
    have := takeAll_take w r gs (take1 w hs q x) i p g (by simpa using h1) (by simpa using h2)
    simpa [takeAll] using this
def taking (B : BD) (hs : List Int) : List Int := ((List.range B.meets.length).filter fun k => takesOff B.heavy hs (B.meets.getD k [])).map fun (k : Nat) => (k : Int)
def natL (ks : List Nat) : List Int := ks.map fun (k : Nat) => (k : Int)
/-- heights behind a row of grindings, and its dusts -/
def runH (w : List Int) (ms : List (List (Nat × Nat))) : List Int → List Nat → List Int
  | hs, [] => hs
  | hs, k :: ks => runH w ms (after w hs (ms.getD k [])) ks
def runD (w : List Int) (ms : List (List (Nat × Nat))) : List Int → List Nat → List (List Int)
  | _, [] => []
  | hs, k :: ks => dust w hs (ms.getD k []) :: runD w ms (after w hs (ms.getD k [])) ks
theorem after_len (w hs : List Int) (r : List (Nat × Nat)) : (after w hs r).length = hs.length := takeAll_len _ _ _ _
theorem runH_len (w : List Int) (ms : List (List (Nat × Nat))) : ∀ (ks : List Nat) (hs : List Int), (runH w ms hs ks).length = hs.length
  | [], _ => rfl
  | k :: ks, hs => by rw [runH, runH_len w ms ks, after_len]
theorem runH_take (w : List Int) (ms : List (List (Nat × Nat))) : ∀ (ks : List Nat) (hs : List Int) (i k : Nat), ks[i]? = some k → runH w ms hs (ks.take (i + 1)) = after w (runH w ms hs (ks.take i)) (ms.getD k [])
  | [], _, i, k, h => by simp at h
  | q :: ks, hs, 0, k, h => by simp at h; subst h; simp [runH]
  | q :: ks, hs, i + 1, k, h => by
    have := runH_take w ms ks (after w hs (ms.getD q [])) i k (by simpa using h)
    simpa [runH] using this
theorem runD_take (w : List Int) (ms : List (List (Nat × Nat))) : ∀ (ks : List Nat) (hs : List Int) (i k : Nat), ks[i]? = some k → runD w ms hs (ks.take (i + 1)) = runD w ms hs (ks.take i) ++ [dust w (runH w ms hs (ks.take i)) (ms.getD k [])]
  | [], _, i, k, h => by simp at h
  | q :: ks, hs, 0, k, h => by simp at h; subst h; simp [runH, runD]
  | q :: ks, hs, i + 1, k, h => by
    have := runD_take w ms ks (after w hs (ms.getD q [])) i k (by simpa using h)
    simpa [runD, runH] using this
theorem runD_len (w : List Int) (ms : List (List (Nat × Nat))) : ∀ (ks : List Nat) (hs : List Int), (runD w ms hs ks).length = ks.length
  | [], _ => rfl
  | k :: ks, hs => by rw [runD, List.length_cons, runD_len w ms ks, List.length_cons]
theorem meets_getD {B : BD} {k : Nat} (h : k < B.meets.length) : B.meets[k]? = some (B.meets.getD k []) := by
  rw [List.getD_eq_getElem?_getD, List.getElem?_eq_getElem h]
  rfl
theorem meets_mem {B : BD} {k : Nat} (h : k < B.meets.length) : B.meets.getD k [] ∈ B.meets := List.mem_of_getElem? (meets_getD h)
section
variable {P : Program} {w : World} {K : PySem.W.Frag} {mg : Str → Option Value} {base : Heap} {C : Addr}
def cWholes : Ct := fun ds k => ∃ x, ∃ m : Int, ds = [x, .int m] ∧ ((∃ j l, isSq x = some (j, l) ∧ x.ty = some "tuple" ∧ l.length ≤ 1000 ∧ (∀ d ∈ l, d.ty.isSome = true) ∧ k (.bl (decide ((l.length : Int) = m) && l.all isIntD))) ∨ (x.ty.isSome = true ∧ x.ty ≠ some "tuple" ∧ k (.bl false)))
abbrev s_are_wholes : Stmt := topS 6
abbrev n_are_wholes : List Str := ["thing", "many", "one"]
theorem sc_are_wholes : FnScope ["thing", "many", "one"] ["thing", "many"] (defScope s_are_wholes) := ⟨rfl, rfl, rfl, by decide +kernel, rfl, by decide +kernel, by decide +kernel⟩
theorem ok_are_wholes (B : Blt mg) (d_is_whole : Def P w K mg base 1 "is_whole" ["thing", "low", "high"] (spD K C cWhole)) (F : FunAt K mg "are_wholes" s_are_wholes ["thing", "many"]) : Def P w K mg base 2 "are_wholes" ["thing", "many"] (spD K C cWholes) := by
  refine F.defD (n := 1) sc_are_wholes (fun ds k h => by obtain ⟨_, _, rfl, _⟩ := h; rfl) fun f cdv A outer s H E sa F ds k hr h => ?_
  obtain ⟨x, m, rfl, h⟩ := h
  refine ⟨_, (pss_one (ps_ret (pe_and (pe_callB (k_isi (K := K) rfl) (by rfl) B.isinstance bb_isinstance (pa_cons (pv 0) (pa_cons (pe_bltn (v := .ty "tuple") (by rfl) B.tuple bb_tuple rfl) pa_nil))) (pe_and (pe_cmpR (k_eq (K := K) rfl hr.units) (pe_callB (k_len (K := K) rfl) (by rfl) B.len bb_len (pa_cons (pv 0) pa_nil)) (pv 1) (nomark _)) (pe_one (pe_callB (k_all (K := K) rfl rfl) (by rfl) B.all bb_all (pa_cons (pe_lc (own := [("one", 2)]) rfl sc_are_wholes.nd (k_seq (K := K) rfl (pv 0)) (blkOk_by (own := [("one", 2)]) (N := n_are_wholes) (sc := defScope s_are_wholes) (by decide +kernel)) (fun _ _ _ _ _ => (pg_name (i := 2) sc_are_wholes.nd rfl (Or.inl rfl))) (fun _ _ _ _ _ => pts_nil) (fun _ _ _ _ _ => (pe_d d_is_whole (hr.mono (by decide)) (by rfl) (pa_cons (pv 2) (pa_cons pe_non (pa_cons pe_non pa_nil)))))) pa_nil))))))), ?_⟩; refine start_eqR (ρ' := [some (.d (x)), some (.d (.int m)), none]) rfl ?_
  walk_at "dw"
  rcases h with ⟨j, l, hj, hty, hl, ht, q⟩ | ⟨ht, hn, q⟩
  · refine ⟨_, _, hty, kb_tt, ?_⟩
    walk_at "dw"
    refine cr_lenQ hj ?_
    walk_at "dw"
    refine s_d2 (fun e => ?_) (fun e => ?_)
    · rw [decide_eq_true e, Bool.true_and] at q
      walk_at "dw"
      refine WO.we (wo_lc (α := D) (WI.wv (wi_sq ?_)))
      walk_at "dw"
      refine ⟨j, l, hj, ?_⟩
      refine ⟨by omega, l, id, fun d => .bl (isIntD d), (List.map_id _).symm, fun d hd => ?_, ?_⟩
      · walk_at "dw"
        refine ⟨d, none, none, rfl, ht d hd, ?_⟩
        rw [whole_isInt]
      · rw [show l.map (fun d => D.bl (isIntD d)) = (l.map isIntD).map D.bl by rw [List.map_map]; rfl]
        walk_at "dw"
        rw [List.all_map]
        exact q
    · rw [decide_eq_false e] at q
      exact q
  · cases x with
    | tup l => exact absurd rfl hn
    | int n => exact ⟨_, _, rfl, kb_it, by walk_at "dw"; exact q⟩
    | non => exact ⟨_, _, rfl, kb_nt, by walk_at "dw"; exact q⟩
    | bl b => exact ⟨_, _, rfl, kb_bt, by walk_at "dw"; exact q⟩
    | str b => exact ⟨_, _, rfl, kb_st, by walk_at "dw"; exact q⟩
    | lst b => exact ⟨_, _, rfl, kb_lt, by walk_at "dw"; exact q⟩
    | dic a b => exact ⟨_, _, rfl, kb_dt, by walk_at "dw"; exact q⟩
    | dit a b => exact ⟨_, _, rfl, kb_dt, by walk_at "dw"; exact q⟩
    | stn b => exact absurd rfl hn
    | ixt b => exact absurd rfl hn
    | bench b => cases ht
    | st => cases ht
    | exc _ _ _ _ => cases ht
    | lsx _ _ => cases ht
def cPW : Ct := fun ds k => ∃ B, ∃ p : Nat × Nat, ds = [.bench B, pDD p] ∧ p.1 < B.heavy.length ∧ p.2 < B.heavy.length ∧ k (.tup [.int (B.heavy.getD p.1 0), .int (B.heavy.getD p.2 0)])
def cGrains : Ct := fun ds k => ∃ B hs, ∃ p : Nat × Nat, ds = [.bench B, tI hs, pDD p] ∧ BOk B ∧ hs.length = B.heavy.length ∧ p.1 < B.heavy.length ∧ p.2 < B.heavy.length ∧ k (.int (grain B.heavy hs p))
theorem w_div {B : BD} (ok : BOk B) {u v : Nat} (h1 : u < B.heavy.length) (h2 : v < B.heavy.length) (s : Int) : CDivW s (B.heavy.getD u 0 + B.heavy.getD v 0) := by
  have a := ok.heavy _ (getD_mem h1)
  have b := ok.heavy _ (getD_mem h2)
  exact wide_div (b := 20) (by omega) (by omega) (by decide) (by decide)
def cDust : Ct := fun ds k => ∃ B hs r, ∃ n : Nat, ds = [.bench B, tI hs, .int n] ∧ BOk B ∧ hs.length = B.heavy.length ∧ B.meets[n]? = some r ∧ k (tI (dust B.heavy hs r))
def cTaken : Ct := fun ds k => ∃ B hs, ∃ (r : List (Nat × Nat)) (gs : List Int), ds = [.bench B, tI hs, .lst (r.map pDD), tI gs] ∧ BOk B ∧ hs.length = B.heavy.length ∧ (∀ p ∈ r, p.1 < B.heavy.length ∧ p.2 < B.heavy.length) ∧ gs.length = r.length ∧ k (tI (takeAll B.heavy hs r gs))
theorem mul_w {B : BD} (ok : BOk B) {u : Nat} (h : u < B.heavy.length) (g : Int) : CMul (B.heavy.getD u 0) g := by
  have a := ok.heavy _ (getD_mem h)
  exact .inl ⟨by omega, by omega⟩
end
end G.Q

namespace G.Q
open PySem PySem.Spec PyProof.Rows L2
local macro_rules | `(tactic| walk_at "d1") => `(tactic| first | with_reducible refine ws_seq ?_ | with_reducible refine ws_next ?_ | with_reducible refine ws_ret ?_ | with_reducible refine ws_retN ?_ | with_reducible refine ws_if ?_ | ((with_reducible show WS _ (tDrop (tBM _ "list" _ (tVar _) _)) _ _ _ _ _); refine ws_mt rfl ?_) | ((with_reducible show WS _ (tDrop (tBM0 _ "list" _ (tVar _))) _ _ _ _ _); refine ws_mt0 rfl ?_) | ((with_reducible show WS _ (tAsg (tBM _ "list" _ (tVar _) _) (gName _)) _ _ _ _ _); refine ws_mtS rfl ?_) | ((with_reducible show WS _ (tAsg (tBM0 _ "list" _ (tVar _)) (gName _)) _ _ _ _ _); refine ws_mt0S rfl ?_) | ((with_reducible show WS _ (tAsgO (tDisp _) _) _ _ _ _ _); refine ws_setOwnK ?_) | ((with_reducible show WS _ (tAsgO tDNewK _) _ _ _ _ _); refine ws_setOwnK ?_) | ((with_reducible show WS _ (tAsgO (tDc _ _ _ _ _ _) _) _ _ _ _ _); refine ws_setOwnK ?_) | ((with_reducible show WS _ (tAsgO tDNewT _) _ _ _ _ _); refine ws_setOwnT ?_) | ((with_reducible show WS _ (tAsgO (tDispT1 _ _) _) _ _ _ _ _); refine ws_setOwnT ?_) | with_reducible refine ws_setOwn ?_ | ((with_reducible show WS _ (tAsg _ (gSub (tVar _) _ rSetL)) _ _ _ _ _); first | refine ws_setItem rfl ?_ | refine ws_setWl rfl ?_) | ((with_reducible show WS _ (tAugS (tVar _) _ _ _ _ _) _ _ _ _ _); refine ws_augItem rfl ?_) | ((with_reducible show WS _ (sDPut (tVar _) _ _) _ _ _ _ _); first | refine ws_dput rfl ?_ | refine ws_dputT rfl ?_) | ((with_reducible show WS _ (tDrop (tBM _ "dict" rUpd (tVar _) _)) _ _ _ _ _); refine ws_upd rfl ?_) | ((with_reducible show WS _ (tAsg (tCall (spDS _ _ _) _ _ _) (gName _)) _ _ _ _ _); refine ws_asgS ?_) | with_reducible refine ws_asg ?_ | with_reducible refine ws_drop ?_ | ((with_reducible show WS _ (tAug _ _ _) _ _ _ _ _); refine ws_aug rfl ?_) | with_reducible refine ws_par ?_ | with_reducible refine ws_break ?_ | with_reducible refine ws_cont ?_ | with_reducible refine wg_name (by first | trivial | decide) ?_ | with_reducible refine wg_tup rfl ?_ | with_reducible refine wg_stn rfl ?_ | with_reducible refine wg_lst rfl ?_ | with_reducible refine wgs_cons ?_ | with_reducible refine wgs_nil ?_ | with_reducible refine wgs_consM ?_ | with_reducible refine wgs_nilM ?_ | ((with_reducible show WE _ (tVar _) _ _); refine we_var rfl ?_) | with_reducible refine we_int ?_ | with_reducible refine we_str ?_ | with_reducible refine we_bl ?_ | with_reducible refine we_non ?_ | with_reducible refine wt_test ?_ | with_reducible refine wt_B ?_ | with_reducible refine wt_not ?_ | with_reducible refine wt_and ?_ | with_reducible refine wt_or ?_ | with_reducible refine wt_yes ?_ | with_reducible refine we_isi ?_ | with_reducible refine we_notV ?_ | with_reducible refine we_andV ?_ | with_reducible refine we_orV ?_ | with_reducible refine we_if ?_ | with_reducible refine we_chain ?_ | with_reducible refine we_un ?_ | with_reducible refine ou_neg ?_ | with_reducible refine we_call ?_ | with_reducible refine we_meth (by decide) ?_ | with_reducible refine we_tupK2 ?_ | with_reducible refine we_tup ?_ | with_reducible refine wa_cons ?_ | with_reducible refine wa_nil ?_ | with_reducible refine wab_cons ?_ | with_reducible refine wab_nil ?_ | with_reducible refine WO.we (wo_lst ?_) | with_reducible refine wo_lst ?_ | with_reducible refine we_op ?_ | ((with_reducible show WO _ (tOp rMulS (tLst _) _) _ _); refine wo_rep ?_) | with_reducible refine wo_op ?_ | with_reducible refine we_cb ?_ | with_reducible refine wo_cb ?_ | ((with_reducible show WE _ (tFld _ _ "hard") _ _); refine we_hard (by assumption) ?_) | ((with_reducible show WE _ (tFld _ _ "heavy") _ _); refine we_heavy (by assumption) ?_) | ((with_reducible show WE _ (tFld _ _ "places") _ _); refine we_places (by assumption) ?_) | ((with_reducible show WE _ (tFld _ _ "told") _ _); refine we_told (by assumption) ?_) | ((with_reducible show WE _ (tFld _ _ "meets") _ _); refine we_meets (by assumption) ?_) | ((with_reducible show WB _ (tVar _) _ _); first | refine wb_own rfl ?_ | refine wb_ownK rfl ?_ | refine wb_ownT rfl ?_ | refine wb_lkT rfl (by assumption) ?_ | refine wb_wl rfl ?_) | with_reducible refine WE.wb ?_ | with_reducible refine op_addSI ?_ | with_reducible refine op_I0i ?_ | with_reducible refine op_I0b ?_ | with_reducible refine op_eqII ?_ | with_reducible refine op_neII ?_ | with_reducible refine op_eqBB ?_ | with_reducible refine op_neBB ?_ | with_reducible refine op_eqSS ?_ | with_reducible refine op_neSS ?_ | with_reducible refine op_isNn ?_ | with_reducible refine op_notNn ?_ | with_reducible refine op_ip ?_ | ((with_reducible show OP _ (rIx _) (D.tup _) (D.int _) _); refine op_ixT (by rfl) ?_) | ((with_reducible show OP _ (rIx _) (D.lst _) (D.int _) _); refine op_ixL (by rfl) ?_) | with_reducible refine cr_lenDK ?_ | with_reducible refine cr_lenDT ?_ | with_reducible refine cr_lenL ?_ | with_reducible refine cr_lenT ?_ | with_reducible refine cr_lenS ?_ | with_reducible refine cr_lenX ?_ | with_reducible refine cr_tupX ?_ | with_reducible refine cr_sumS ?_ | with_reducible refine cr_sumLi ?_ | with_reducible refine cr_sumTi ?_ | with_reducible refine cr_allB ?_ | with_reducible refine cr_anyB ?_ | with_reducible refine cr_absI ?_ | with_reducible refine cr_int_i ?_ | with_reducible refine cr_int_b ?_ | with_reducible refine CRO.cr (cr_listL ?_) | with_reducible refine CRO.cr (cr_listT ?_) | with_reducible refine CRO.cr (cr_listS ?_) | with_reducible refine cr_listL ?_ | with_reducible refine cr_listT ?_ | with_reducible refine cr_listS ?_ | with_reducible refine cr_tupLi ?_ | with_reducible refine cr_tupS ?_ | with_reducible refine cr_tupL ?_ | with_reducible refine cr_tupT ?_ | with_reducible refine wok_new ?_ | with_reducible refine wot_new ?_ | with_reducible refine wok_disp1 ?_ | with_reducible refine wps_cons ?_ | with_reducible refine wps_nil ?_ | with_reducible refine key_str ?_ | with_reducible refine wot_disp1 ?_ | with_reducible refine we_din ?_ | with_reducible refine we_dnotin ?_ | with_reducible refine din_I ?_ | with_reducible refine din_S ?_ | with_reducible refine din_T ?_ | ((with_reducible show WE _ (tDGet (tVar _) _) _ _); refine we_dgetL (by assumption) rfl ?_) | with_reducible refine we_dget ?_ | with_reducible refine we_idx ?_ | with_reducible refine wo_rev ?_ | with_reducible refine WO.we (wo_rev ?_) | with_reducible refine dgp_hard ?_ | with_reducible refine dgp_wide ?_ | with_reducible refine dgp_rows ?_ | with_reducible refine dgp_pairs ?_ | with_reducible refine dgp_many ?_ | with_reducible refine dg_hard ?_ | with_reducible refine dg_places ?_ | with_reducible refine dg_told ?_ | with_reducible refine dg_heavy ?_ | with_reducible refine dg_meets ?_ | with_reducible refine wp_no ?_ | with_reducible refine wp_some ?_ | with_reducible refine WI.wv ?_ | with_reducible refine wi_rng1 ?_ | with_reducible refine wad_cons ?_ | with_reducible refine wad_nil ?_ | with_reducible refine wd_tup ?_ | with_reducible refine wd_lst ?_ | with_reducible refine ⟨_, rfl, ?_⟩ | with_reducible refine ⟨_, _, rfl, ?_⟩ | ((with_reducible show List.length _ ≤ 1000 ∧ _); refine len_ok (by rfl) ?_) | ((with_reducible show if D.isN _ = true then _ else _); first | refine s_nnT (by rfl) ?_ | refine s_nnF (by rfl) ?_) | ((with_reducible show if (!D.isN _) = true then _ else _); first | refine s_mnT (by rfl) ?_ | refine s_mnF (by rfl) ?_) | with_reducible refine s_cT ?_ | with_reducible refine s_cF ?_ | with_reducible refine s_nT ?_ | with_reducible refine s_nF ?_)
local macro_rules | `(tactic| walk_at "dw") => `(tactic| ((try dsimp only [List.set, wipeR, snd_cons, snd_nil]); repeat (walk_at "d1"; try dsimp only [List.set, wipeR, snd_cons, snd_nil])))
local macro_rules | `(tactic| walk_at "c1") => `(tactic| first | with_reducible refine c_call rfl ?_ | with_reducible refine c_op ?_ | ((with_reducible show CE _ _ _ (tVar _) _ _); refine CE.of rfl (by assumption) ?_) | ((with_reducible show CE _ _ _ (tC _) _ _); refine CE.of rfl (by assumption) ?_) | with_reducible refine ca_cons ?_ | with_reducible refine ca_nil rfl (by assumption) ?_ | with_reducible refine c_lst ?_ | with_reducible refine c_tup ?_ | with_reducible refine c_test ?_ | with_reducible refine c_rng1 ?_ | ((with_reducible show Wl _ _ → _); intro _) | ((with_reducible show ∀ _ : HO, Wl _ _ → _); intro _ _))
local macro_rules | `(tactic| walk_at "cw") => `(tactic| ((try dsimp only [List.set, wipeR, snd_cons, snd_nil]); repeat (first | walk_at "c1" | walk_at "d1"; try dsimp only [List.set, wipeR, snd_cons, snd_nil])))

theorem bok_tot {B : BD} (ok : BOk B) : B.meets.length ≤ 6 := by rw [B.meets_len]; exact ok.told.2
theorem all_isIntD (ns : List Int) : (ns.map D.int).all isIntD = true := by
  rw [List.all_map]
  exact List.all_eq_true.mpr fun _ _ => rfl
theorem ty_int {ns : List Int} : ∀ d ∈ ns.map D.int, d.ty.isSome = true := fun d h => by
  obtain ⟨x, _, rfl⟩ := List.mem_map.mp h
  rfl
section
variable {P : Program} {w : World} {K : PySem.W.Frag} {mg : Str → Option Value} {base : Heap} {C : Addr}
def cDone : Ct := fun ds k => ∃ B hs r, ∃ n : Nat, ds = [.bench B, tI hs, .int n] ∧ BOk B ∧ hs.length = B.heavy.length ∧ B.meets[n]? = some r ∧ k (.tup [tI (after B.heavy hs r), tI (dust B.heavy hs r)])
def cTakesOff : Ct := fun ds k => ∃ B hs r, ∃ n : Nat, ds = [.bench B, tI hs, .int n] ∧ BOk B ∧ hs.length = B.heavy.length ∧ B.meets[n]? = some r ∧ k (.bl (takesOff B.heavy hs r))
def cTaking : Ct := fun ds k => ∃ B hs, ds = [.bench B, tI hs] ∧ BOk B ∧ hs.length = B.heavy.length ∧ k (lI (taking B hs))
/-- is it a stand: a tuple of things of known kinds, or no tuple -/
def cIsStand : Ct := fun ds k => ∃ B x, ds = [.bench B, x] ∧ BOk B ∧ ((∃ j l, isSq x = some (j, l) ∧ x.ty = some "tuple" ∧ l.length ≤ 1000 ∧ (∀ d ∈ l, d.ty.isSome = true) ∧ k (.bl (decide (l.length = B.heavy.length) && l.all isIntD))) ∨ (x.ty.isSome = true ∧ x.ty ≠ some "tuple" ∧ k (.bl false)))
abbrev s_Bench_is_stand : Stmt := inClass (topS 15) 9
abbrev n_Bench_is_stand : List Str := ["self", "thing"]
theorem sc_Bench_is_stand : FnScope ["self", "thing"] ["self", "thing"] (defScope s_Bench_is_stand) := ⟨rfl, rfl, rfl, by decide +kernel, rfl, by decide +kernel, by decide +kernel⟩
theorem ok_is_stand (B0 : Blt mg) (T : Txt K mg C) (d_are_wholes : Def P w K mg base 2 "are_wholes" ["thing", "many"] (spD K C cWholes)) (F : MethAt K C "is_stand" "Bench.is_stand" s_Bench_is_stand ["self", "thing"]) : DefM P w K mg base 3 C "is_stand" ["self", "thing"] (spD K C cIsStand) := by
  refine F.defD (n := 2) sc_Bench_is_stand (fun ds k h => by obtain ⟨_, _, rfl, _⟩ := h; rfl) fun f cdv A outer s H E sa F ds k hr h => ?_
  obtain ⟨B1, x, rfl, ok, h⟩ := h
  have B := B0
  refine ⟨_, (pss_one (ps_ret (pe_d d_are_wholes (hr.mono (by decide)) (by rfl) (pa_cons (pv 1) (pa_cons (pe_callB (k_len (K := K) rfl) (by rfl) B.len bb_len (pa_cons (k_fld (K := K) rfl (pv 0) rfl) pa_nil)) pa_nil))))), ?_⟩; refine start_eqR (ρ' := [some (.d (.bench B1)), some (.d (x))]) rfl ?_
  walk_at "dw"
  rw [List.length_map]
  refine ⟨x, _, rfl, ?_⟩
  rcases h with ⟨j, l, hj, hty, hl, ht, q⟩ | ⟨ht, hn, q⟩
  · refine .inl ⟨j, l, hj, hty, hl, ht, ?_⟩
    rw [show decide ((l.length : Int) = (B1.heavy.length : Int)) = decide (l.length = B1.heavy.length) by simp only [Int.ofNat_inj]]
    exact q
  · exact .inr ⟨ht, hn, q⟩
def cSureStand : Ct := fun ds k => ∃ B hs, ds = [.bench B, tI hs] ∧ BOk B ∧ hs.length = B.heavy.length ∧ k .non
def cSureNumber : Ct := fun ds k => ∃ B, ∃ n : Nat, ds = [.bench B, .int n] ∧ BOk B ∧ n < B.told.length ∧ k .non
def cSureRow : Ct := fun ds k => ∃ B ks, ds = [.bench B, lI (natL ks)] ∧ BOk B ∧ (∀ n ∈ ks, n < B.told.length) ∧ k .non
theorem natL_at {ks : List Nat} {i : Nat} {d : D} (h : (enumD ((natL ks).map D.int))[i]? = some d) : ∃ n, ks[i]? = some n ∧ d = .tup [.int (i : Int), .int (n : Int)] := by
  unfold enumD natL at h
  rw [List.getElem?_mapIdx, List.map_map, List.getElem?_map] at h
  cases hx : ks[i]? with
  | none => rw [hx] at h; cases h
  | some x => rw [hx] at h; cases h; exact ⟨x, rfl, rfl⟩
def dustsD (l : List (List Int)) : D := .lst (l.map tI)
def cRows : Ct := fun ds k => ∃ B hs ks, ds = [.bench B, tI hs, lI (natL ks)] ∧ BOk B ∧ hs.length = B.heavy.length ∧ (∀ n ∈ ks, n < B.meets.length) ∧ ks.length ≤ 99999 ∧ k (.tup [tI (runH B.heavy B.meets hs ks), .lst ((runD B.heavy B.meets hs ks).map tI)])
def cIsRest : Ct := fun ds k => ∃ B hs, ds = [.bench B, tI hs] ∧ BOk B ∧ hs.length = B.heavy.length ∧ k (.bl (decide (taking B hs = [])))
end
end G.Q

namespace G
open PySem PySem.Spec PyProof.Rows L2
/-! ### weights and how they fall -/
def wt (w hs : List Int) : Int := (List.zipWith (fun a h => a * h * h) w hs).sum
def fallP (w hs : List Int) (p : Nat × Nat) (g : Int) : Int := w.getD p.1 0 * w.getD p.2 0 * g * (2 * (hs.getD p.1 0 + hs.getD p.2 0) - (w.getD p.1 0 + w.getD p.2 0) * g)
def fallR (w hs : List Int) (r : List (Nat × Nat)) : Int := (r.map fun p => fallP w hs p (grain w hs p)).sum
def leP (w : List Int) (p : Nat × Nat) : Int := w.getD p.1 0 * w.getD p.2 0 * (w.getD p.1 0 + w.getD p.2 0)
def leastL (B : BD) : List Int := B.meets.flatten.map (leP B.heavy)
theorem wt_set : ∀ (w hs : List Int) (i : Nat) (x : Int), i < w.length → i < hs.length → wt w (hs.set i x) = wt w hs - w.getD i 0 * hs.getD i 0 * hs.getD i 0 + w.getD i 0 * x * x
  | [], _, _, _, h, _ => by simp at h
  | _ :: _, [], _, _, _, h => by simp at h
  | a :: w, h :: hs, 0, x, _, _ => by
    simp [wt]
    omega
  | a :: w, h :: hs, i + 1, x, h1, h2 => by
    have ih := wt_set w hs i x (by simpa using h1) (by simpa using h2)
    simp [wt] at ih ⊢
    omega
theorem fall_alg (W a b w1 w2 g : Int) : W - w1 * a * a + w1 * (a - w2 * g) * (a - w2 * g) - w2 * b * b + w2 * (b - w1 * g) * (b - w1 * g) = W - w1 * w2 * g * (2 * (a + b) - (w1 + w2) * g) := by
  rw [Int.two_mul]
  simp only [Int.mul_sub, Int.sub_mul, Int.mul_add, Int.add_mul, Int.mul_assoc, Int.mul_comm, Int.mul_left_comm]
  omega
theorem wt_take1 (w hs : List Int) (p : Nat × Nat) (g : Int) (hl : hs.length = w.length) (hp : p.1 ≠ p.2) (h1 : p.1 < hs.length) (h2 : p.2 < hs.length) : wt w (take1 w hs p g) = wt w hs - fallP w hs p g := by
  unfold take1 fallP
  rw [wt_set _ _ _ _ (by omega) (by simpa using h2), wt_set _ _ _ _ (by omega) h1, getD_set]
  rw [if_neg (fun e => hp e.1)]
  exact fall_alg ..
theorem fallP_out (w hs : List Int) (p q : Nat × Nat) (g g' : Int) (h : Apart q p) : fallP w (take1 w hs q g') p g = fallP w hs p g := by
  unfold fallP
  rw [take1_out w hs q g' p.1 h.1 h.2.2.1, take1_out w hs q g' p.2 h.2.1 h.2.2.2]
def fallS (w hs : List Int) : List (Nat × Nat) → List Int → Int
  | p :: r, g :: gs => fallP w hs p g + fallS w hs r gs
  | _, _ => 0
theorem fallS_out (w hs : List Int) (q : Nat × Nat) (g' : Int) : ∀ (r : List (Nat × Nat)) (gs : List Int), (∀ p ∈ r, Apart q p) → fallS w (take1 w hs q g') r gs = fallS w hs r gs
  | [], _, _ => by simp [fallS]
  | _ :: _, [], _ => by simp [fallS]
  | p :: r, g :: gs, h => by
    rw [fallS, fallS, fallP_out w hs p q g g' (h p (List.mem_cons_self ..)), fallS_out w hs q g' r gs fun z hz => h z (List.mem_cons_of_mem _ hz)]
theorem wt_takeAll (w : List Int) : ∀ (r : List (Nat × Nat)) (gs hs : List Int), hs.length = w.length → Disj r → (∀ p ∈ r, p.1 < hs.length ∧ p.2 < hs.length) → wt w (takeAll w hs r gs) = wt w hs - fallS w hs r gs
  | [], gs, hs, _, _, _ => by simp [takeAll, fallS]
  | _ :: _, [], hs, _, _, _ => by simp [takeAll, fallS]
  | p :: r, g :: gs, hs, hl, d, hin => by
    have tw := List.pairwise_cons.mp d.two
    obtain ⟨l1, l2⟩ := hin p (List.mem_cons_self ..)
    rw [takeAll, wt_takeAll w r gs (take1 w hs p g) (by rw [take1_len]; exact hl) ⟨fun z hz => d.own z (List.mem_cons_of_mem _ hz), tw.2⟩ (fun z hz => by rw [take1_len]; exact hin z (List.mem_cons_of_mem _ hz)), fallS_out w hs p g r gs tw.1, wt_take1 w hs p g hl (d.own p (List.mem_cons_self ..)) l1 l2, fallS]
    omega
theorem fallS_dust (w hs hs' : List Int) : ∀ r : List (Nat × Nat), fallS w hs r (r.map (grain w hs')) = (r.map fun p => fallP w hs p (grain w hs' p)).sum
  | [] => rfl
  | p :: r => by simp only [List.map_cons, fallS, List.sum_cons, fallS_dust w hs hs' r]
theorem wt_after {B : BD} (ok : BOk B) {r : List (Nat × Nat)} (hr : r ∈ B.meets) {hs : List Int} (hl : hs.length = B.heavy.length) : wt B.heavy (after B.heavy hs r) = wt B.heavy hs - fallR B.heavy hs r := by
  unfold after dust
  rw [wt_takeAll B.heavy r _ hs hl (ok.disj hr) (fun p hp => by rw [hl]; exact ok.row hr hp), fallS_dust]
  rfl
theorem tn_abs (s b : Int) (hb : 1 ≤ b) : (tn s b).natAbs ≤ s.natAbs := by
  unfold tn
  split
  · have h1 : 0 ≤ s / b := Int.ediv_nonneg (by omega) (by omega)
    have h2 : s / b ≤ s := Int.ediv_le_self _ (by omega)
    omega
  · have h1 : 0 ≤ -s / b := Int.ediv_nonneg (by omega) (by omega)
    have h2 : -s / b ≤ -s := Int.ediv_le_self _ (by omega)
    omega
theorem fall_ge (W s b : Int) (hW : 0 < W) (hb : 0 < b) : (tn s b = 0 → W * tn s b * (2 * s - b * tn s b) = 0) ∧ (tn s b ≠ 0 → W * b ≤ W * tn s b * (2 * s - b * tn s b)) := by
  refine ⟨fun e => by rw [e]; simp, fun ne => ?_⟩
  unfold tn at ne ⊢
  split
  · rename_i h0
    rw [if_pos h0] at ne
    have h1 : 0 ≤ s / b := Int.ediv_nonneg (by omega) (by omega)
    have h2 : b * (s / b) ≤ s := Int.mul_ediv_self_le (by omega)
    generalize s / b = g at *
    have h3 : b * 1 ≤ b * g := Int.mul_le_mul_of_nonneg_left (by omega) (by omega)
    have h4 : W * 1 ≤ W * g := Int.mul_le_mul_of_nonneg_left (by omega) (by omega)
    have h5 : b ≤ 2 * s - b * g := by omega
    exact Int.mul_le_mul (by omega) h5 (by omega) (by omega)
  · rename_i h0
    rw [if_neg h0] at ne
    have h1 : 0 ≤ -s / b := Int.ediv_nonneg (by omega) (by omega)
    have h2 : b * (-s / b) ≤ -s := Int.mul_ediv_self_le (by omega)
    generalize -s / b = g at *
    have h3 : b * 1 ≤ b * g := Int.mul_le_mul_of_nonneg_left (by omega) (by omega)
    have h4 : W * 1 ≤ W * g := Int.mul_le_mul_of_nonneg_left (by omega) (by omega)
    have h5 : b ≤ -(2 * s - b * -g) := by rw [Int.mul_neg]; omega
    have h6 := Int.mul_le_mul (show W ≤ W * g by omega) h5 (by omega) (by omega)
    have h7 : W * -g * (2 * s - b * -g) = W * g * -(2 * s - b * -g) := by
      rw [Int.mul_neg W g, Int.neg_mul, Int.mul_neg (W * g)]
    rw [h7]
    exact h6
theorem fallP_ge {w hs : List Int} {p : Nat × Nat} (h1 : 1 ≤ w.getD p.1 0) (h2 : 1 ≤ w.getD p.2 0) : (grain w hs p = 0 → fallP w hs p (grain w hs p) = 0) ∧ (grain w hs p ≠ 0 → leP w p ≤ fallP w hs p (grain w hs p)) := by
  have hW : 0 < w.getD p.1 0 * w.getD p.2 0 := Int.mul_pos (by omega) (by omega)
  exact fall_ge _ _ _ hW (by omega)
theorem leP_pos {w : List Int} {p : Nat × Nat} (h1 : 1 ≤ w.getD p.1 0) (h2 : 1 ≤ w.getD p.2 0) : 1 ≤ leP w p := by
  have hW : 0 < w.getD p.1 0 * w.getD p.2 0 := Int.mul_pos (by omega) (by omega)
  have : 0 < w.getD p.1 0 * w.getD p.2 0 * (w.getD p.1 0 + w.getD p.2 0) := Int.mul_pos hW (by omega)
  exact this
theorem fallR_facts {w hs : List Int} : ∀ (r : List (Nat × Nat)), (∀ p ∈ r, 1 ≤ w.getD p.1 0 ∧ 1 ≤ w.getD p.2 0) →
    0 ≤ fallR w hs r ∧ (takesOff w hs r = false → fallR w hs r = 0) ∧ (takesOff w hs r = true → ∃ p ∈ r, leP w p ≤ fallR w hs r)
  | [], _ => ⟨by simp [fallR], fun _ => by simp [fallR], fun h => by simp [takesOff] at h⟩
  | p :: r, h => by
    obtain ⟨i1, i2, i3⟩ := fallR_facts (w := w) (hs := hs) r fun q hq => h q (List.mem_cons_of_mem _ hq)
    obtain ⟨a1, a2⟩ := h p (List.mem_cons_self ..)
    obtain ⟨f0, f1⟩ := fallP_ge (hs := hs) a1 a2
    have lp := leP_pos a1 a2
    have e : fallR w hs (p :: r) = fallP w hs p (grain w hs p) + fallR w hs r := by simp [fallR]
    have et : takesOff w hs (p :: r) = (grain w hs p != 0 || takesOff w hs r) := by simp [takesOff]
    rw [e, et]
    by_cases hg : grain w hs p = 0
    · have z := f0 hg
      refine ⟨by omega, fun ht => ?_, fun ht => ?_⟩
      · have := i2 (by simpa [hg] using ht)
        omega
      · obtain ⟨q, hq, hle⟩ := i3 (by simpa [hg] using ht)
        exact ⟨q, List.mem_cons_of_mem _ hq, by omega⟩
    · have z := f1 hg
      refine ⟨by omega, fun ht => ?_, fun ht => ⟨p, List.mem_cons_self .., by omega⟩⟩
      simp [hg] at ht
theorem BOk.w1 {B : BD} (ok : BOk B) {r : List (Nat × Nat)} (hr : r ∈ B.meets) : ∀ p ∈ r, 1 ≤ B.heavy.getD p.1 0 ∧ 1 ≤ B.heavy.getD p.2 0 := fun p hp =>
  let ⟨a, b⟩ := ok.row hr hp
  ⟨(ok.w9 a).1, (ok.w9 b).1⟩
theorem sq_le_wt : ∀ (w hs : List Int) (i : Nat), (∀ x ∈ w, 1 ≤ x) → i < w.length → i < hs.length → 0 ≤ wt w hs ∧ hs.getD i 0 * hs.getD i 0 ≤ wt w hs
  | [], _, _, _, h, _ => by simp at h
  | _ :: _, [], _, _, _, h => by simp at h
  | a :: w, h :: hs, i, hw, h1, h2 => by
    have a1 := hw a (List.mem_cons_self ..)
    have hh : 0 ≤ h * h := by
      rcases Int.le_total 0 h with z | z
      · exact Int.mul_nonneg z z
      · exact Int.mul_nonneg_of_nonpos_of_nonpos z z
    have hm : 1 * (h * h) ≤ a * (h * h) := Int.mul_le_mul_of_nonneg_right (by omega) hh
    have e : wt (a :: w) (h :: hs) = a * h * h + wt w hs := by simp [wt]
    have e2 : a * h * h = a * (h * h) := Int.mul_assoc ..
    cases i with
    | zero =>
      have w0 : 0 ≤ wt w hs := by
        cases w with
        | nil => simp [wt]
        | cons b w =>
          cases hs with
          | nil => simp [wt]
          | cons k hs => exact (sq_le_wt (b :: w) (k :: hs) 0 (fun x hx => hw x (List.mem_cons_of_mem _ hx)) (by simp) (by simp)).1
      rw [e]
      simp
      omega
    | succ i =>
      obtain ⟨i1, i2⟩ := sq_le_wt w hs i (fun x hx => hw x (List.mem_cons_of_mem _ hx)) (by simpa using h1) (by simpa using h2)
      rw [e]
      simp at i2 ⊢
      omega
theorem sq_small {h : Int} {n : Nat} (hs : h * h < 2 ^ (n + n)) : h.natAbs < 2 ^ n := by
  refine Nat.lt_of_not_le fun hle => ?_
  have : 2 ^ n * 2 ^ n ≤ h.natAbs * h.natAbs := Nat.mul_le_mul hle hle
  rw [← Nat.pow_add] at this
  have e : ((h.natAbs * h.natAbs : Nat) : Int) = h * h := by rw [Int.natCast_mul]; exact Int.natAbs_mul_self
  have e2 : ((2 ^ (n + n) : Nat) : Int) = (2 : Int) ^ (n + n) := by simp
  omega
theorem nab {i j : Int} {a b : Nat} (hi : i.natAbs ≤ a) (hj : j.natAbs ≤ b) : (i * j).natAbs ≤ a * b := by
  rw [Int.natAbs_mul]
  exact Nat.mul_le_mul hi hj
theorem mw {i j : Int} (hi : i.natAbs ≤ 2 ^ 240) (hj : j.natAbs ≤ 2 ^ 240) : CMulW i j := wide_mul (a := 241) (b := 241) (Nat.lt_of_le_of_lt hi (by decide)) (Nat.lt_of_le_of_lt hj (by decide)) (by decide) (by decide) (by decide)
end G

namespace G.Q
open PySem PySem.Spec PyProof.Rows L2
local macro_rules | `(tactic| walk_at "d1") => `(tactic| first | with_reducible refine ws_seq ?_ | with_reducible refine ws_next ?_ | with_reducible refine ws_ret ?_ | with_reducible refine ws_retN ?_ | with_reducible refine ws_if ?_ | ((with_reducible show WS _ (tDrop (tBM _ "list" _ (tVar _) _)) _ _ _ _ _); refine ws_mt rfl ?_) | ((with_reducible show WS _ (tDrop (tBM0 _ "list" _ (tVar _))) _ _ _ _ _); refine ws_mt0 rfl ?_) | ((with_reducible show WS _ (tAsg (tBM _ "list" _ (tVar _) _) (gName _)) _ _ _ _ _); refine ws_mtS rfl ?_) | ((with_reducible show WS _ (tAsg (tBM0 _ "list" _ (tVar _)) (gName _)) _ _ _ _ _); refine ws_mt0S rfl ?_) | ((with_reducible show WS _ (tAsgO (tDisp _) _) _ _ _ _ _); refine ws_setOwnK ?_) | ((with_reducible show WS _ (tAsgO tDNewK _) _ _ _ _ _); refine ws_setOwnK ?_) | ((with_reducible show WS _ (tAsgO (tDc _ _ _ _ _ _) _) _ _ _ _ _); refine ws_setOwnK ?_) | ((with_reducible show WS _ (tAsgO tDNewT _) _ _ _ _ _); refine ws_setOwnT ?_) | ((with_reducible show WS _ (tAsgO (tDispT1 _ _) _) _ _ _ _ _); refine ws_setOwnT ?_) | with_reducible refine ws_setOwn ?_ | ((with_reducible show WS _ (tAsg _ (gSub (tVar _) _ rSetL)) _ _ _ _ _); first | refine ws_setItem rfl ?_ | refine ws_setWl rfl ?_) | ((with_reducible show WS _ (tAugS (tVar _) _ _ _ _ _) _ _ _ _ _); refine ws_augItem rfl ?_) | ((with_reducible show WS _ (sDPut (tVar _) _ _) _ _ _ _ _); first | refine ws_dput rfl ?_ | refine ws_dputT rfl ?_) | ((with_reducible show WS _ (tDrop (tBM _ "dict" rUpd (tVar _) _)) _ _ _ _ _); refine ws_upd rfl ?_) | ((with_reducible show WS _ (tAsg (tCall (spDS _ _ _) _ _ _) (gName _)) _ _ _ _ _); refine ws_asgS ?_) | with_reducible refine ws_asg ?_ | with_reducible refine ws_drop ?_ | ((with_reducible show WS _ (tAug _ _ _) _ _ _ _ _); refine ws_aug rfl ?_) | with_reducible refine ws_par ?_ | with_reducible refine ws_break ?_ | with_reducible refine ws_cont ?_ | with_reducible refine wg_name (by first | trivial | decide) ?_ | with_reducible refine wg_tup rfl ?_ | with_reducible refine wg_stn rfl ?_ | with_reducible refine wg_lst rfl ?_ | with_reducible refine wgs_cons ?_ | with_reducible refine wgs_nil ?_ | with_reducible refine wgs_consM ?_ | with_reducible refine wgs_nilM ?_ | ((with_reducible show WE _ (tVar _) _ _); refine we_var rfl ?_) | with_reducible refine we_int ?_ | with_reducible refine we_str ?_ | with_reducible refine we_bl ?_ | with_reducible refine we_non ?_ | with_reducible refine wt_test ?_ | with_reducible refine wt_B ?_ | with_reducible refine wt_not ?_ | with_reducible refine wt_and ?_ | with_reducible refine wt_or ?_ | with_reducible refine wt_yes ?_ | with_reducible refine we_isi ?_ | with_reducible refine we_notV ?_ | with_reducible refine we_andV ?_ | with_reducible refine we_orV ?_ | with_reducible refine we_if ?_ | with_reducible refine we_chain ?_ | with_reducible refine we_un ?_ | with_reducible refine ou_neg ?_ | with_reducible refine we_call ?_ | with_reducible refine we_meth (by decide) ?_ | with_reducible refine we_tupK2 ?_ | with_reducible refine we_tup ?_ | with_reducible refine wa_cons ?_ | with_reducible refine wa_nil ?_ | with_reducible refine wab_cons ?_ | with_reducible refine wab_nil ?_ | with_reducible refine WO.we (wo_lst ?_) | with_reducible refine wo_lst ?_ | with_reducible refine we_op ?_ | ((with_reducible show WO _ (tOp rMulS (tLst _) _) _ _); refine wo_rep ?_) | with_reducible refine wo_op ?_ | with_reducible refine we_cb ?_ | with_reducible refine wo_cb ?_ | ((with_reducible show WE _ (tFld _ _ "hard") _ _); refine we_hard (by assumption) ?_) | ((with_reducible show WE _ (tFld _ _ "heavy") _ _); refine we_heavy (by assumption) ?_) | ((with_reducible show WE _ (tFld _ _ "places") _ _); refine we_places (by assumption) ?_) | ((with_reducible show WE _ (tFld _ _ "told") _ _); refine we_told (by assumption) ?_) | ((with_reducible show WE _ (tFld _ _ "meets") _ _); refine we_meets (by assumption) ?_) | ((with_reducible show WB _ (tVar _) _ _); first | refine wb_own rfl ?_ | refine wb_ownK rfl ?_ | refine wb_ownT rfl ?_ | refine wb_lkT rfl (by assumption) ?_ | refine wb_wl rfl ?_) | with_reducible refine WE.wb ?_ | with_reducible refine op_addSI ?_ | with_reducible refine op_I0i ?_ | with_reducible refine op_I0b ?_ | with_reducible refine op_eqII ?_ | with_reducible refine op_neII ?_ | with_reducible refine op_eqBB ?_ | with_reducible refine op_neBB ?_ | with_reducible refine op_eqSS ?_ | with_reducible refine op_neSS ?_ | with_reducible refine op_isNn ?_ | with_reducible refine op_notNn ?_ | with_reducible refine op_ip ?_ | ((with_reducible show OP _ (rIx _) (D.tup _) (D.int _) _); refine op_ixT (by rfl) ?_) | ((with_reducible show OP _ (rIx _) (D.lst _) (D.int _) _); refine op_ixL (by rfl) ?_) | with_reducible refine cr_lenDK ?_ | with_reducible refine cr_lenDT ?_ | with_reducible refine cr_lenL ?_ | with_reducible refine cr_lenT ?_ | with_reducible refine cr_lenS ?_ | with_reducible refine cr_lenX ?_ | with_reducible refine cr_tupX ?_ | with_reducible refine cr_sumS ?_ | with_reducible refine cr_sumLi ?_ | with_reducible refine cr_sumTi ?_ | with_reducible refine cr_allB ?_ | with_reducible refine cr_anyB ?_ | with_reducible refine cr_absI ?_ | with_reducible refine cr_int_i ?_ | with_reducible refine cr_int_b ?_ | with_reducible refine CRO.cr (cr_listL ?_) | with_reducible refine CRO.cr (cr_listT ?_) | with_reducible refine CRO.cr (cr_listS ?_) | with_reducible refine cr_listL ?_ | with_reducible refine cr_listT ?_ | with_reducible refine cr_listS ?_ | with_reducible refine cr_tupLi ?_ | with_reducible refine cr_tupS ?_ | with_reducible refine cr_tupL ?_ | with_reducible refine cr_tupT ?_ | with_reducible refine wok_new ?_ | with_reducible refine wot_new ?_ | with_reducible refine wok_disp1 ?_ | with_reducible refine wps_cons ?_ | with_reducible refine wps_nil ?_ | with_reducible refine key_str ?_ | with_reducible refine wot_disp1 ?_ | with_reducible refine we_din ?_ | with_reducible refine we_dnotin ?_ | with_reducible refine din_I ?_ | with_reducible refine din_S ?_ | with_reducible refine din_T ?_ | ((with_reducible show WE _ (tDGet (tVar _) _) _ _); refine we_dgetL (by assumption) rfl ?_) | with_reducible refine we_dget ?_ | with_reducible refine we_idx ?_ | with_reducible refine wo_rev ?_ | with_reducible refine WO.we (wo_rev ?_) | with_reducible refine dgp_hard ?_ | with_reducible refine dgp_wide ?_ | with_reducible refine dgp_rows ?_ | with_reducible refine dgp_pairs ?_ | with_reducible refine dgp_many ?_ | with_reducible refine dg_hard ?_ | with_reducible refine dg_places ?_ | with_reducible refine dg_told ?_ | with_reducible refine dg_heavy ?_ | with_reducible refine dg_meets ?_ | with_reducible refine wp_no ?_ | with_reducible refine wp_some ?_ | with_reducible refine WI.wv ?_ | with_reducible refine wi_rng1 ?_ | with_reducible refine wad_cons ?_ | with_reducible refine wad_nil ?_ | with_reducible refine wd_tup ?_ | with_reducible refine wd_lst ?_ | with_reducible refine ⟨_, rfl, ?_⟩ | with_reducible refine ⟨_, _, rfl, ?_⟩ | ((with_reducible show List.length _ ≤ 1000 ∧ _); refine len_ok (by rfl) ?_) | ((with_reducible show if D.isN _ = true then _ else _); first | refine s_nnT (by rfl) ?_ | refine s_nnF (by rfl) ?_) | ((with_reducible show if (!D.isN _) = true then _ else _); first | refine s_mnT (by rfl) ?_ | refine s_mnF (by rfl) ?_) | with_reducible refine s_cT ?_ | with_reducible refine s_cF ?_ | with_reducible refine s_nT ?_ | with_reducible refine s_nF ?_)
local macro_rules | `(tactic| walk_at "dw") => `(tactic| ((try dsimp only [List.set, wipeR, snd_cons, snd_nil]); repeat (walk_at "d1"; try dsimp only [List.set, wipeR, snd_cons, snd_nil])))
local macro_rules | `(tactic| walk_at "c1") => `(tactic| first | with_reducible refine c_call rfl ?_ | with_reducible refine c_op ?_ | ((with_reducible show CE _ _ _ (tVar _) _ _); refine CE.of rfl (by assumption) ?_) | ((with_reducible show CE _ _ _ (tC _) _ _); refine CE.of rfl (by assumption) ?_) | with_reducible refine ca_cons ?_ | with_reducible refine ca_nil rfl (by assumption) ?_ | with_reducible refine c_lst ?_ | with_reducible refine c_tup ?_ | with_reducible refine c_test ?_ | with_reducible refine c_rng1 ?_ | ((with_reducible show Wl _ _ → _); intro _) | ((with_reducible show ∀ _ : HO, Wl _ _ → _); intro _ _))
local macro_rules | `(tactic| walk_at "cw") => `(tactic| ((try dsimp only [List.set, wipeR, snd_cons, snd_nil]); repeat (first | walk_at "c1" | walk_at "d1"; try dsimp only [List.set, wipeR, snd_cons, snd_nil])))

/-- heights whose weight is no giant -/
def Sm (B : BD) (hs : List Int) : Prop := wt B.heavy hs < 2 ^ 1000
theorem w9 {B : BD} (ok : BOk B) {i : Nat} (h : i < B.heavy.length) : 1 ≤ B.heavy.getD i 0 ∧ B.heavy.getD i 0 ≤ 9 := ok.heavy _ (getD_mem h)
theorem sm_abs {B : BD} {hs : List Int} (h : Sm B hs) (ok : BOk B) (hl : hs.length = B.heavy.length) {i : Nat} (hi : i < hs.length) : (hs.getD i 0).natAbs ≤ 2 ^ 500 :=
  Nat.le_of_lt (sq_small (n := 500) (Int.lt_of_le_of_lt (sq_le_wt B.heavy hs i (fun x hx => (ok.heavy x hx).1) (by omega) hi).2 h))
theorem sm_after {B : BD} {hs : List Int} (h : Sm B hs) (ok : BOk B) (hl : hs.length = B.heavy.length) {r : List (Nat × Nat)} (hr : r ∈ B.meets) : Sm B (after B.heavy hs r) := by
  have := (fallR_facts (w := B.heavy) (hs := hs) r (ok.w1 hr)).1
  unfold Sm at *
  rw [wt_after ok hr hl]
  omega
theorem sm_run {B : BD} (ok : BOk B) : ∀ (ks : List Nat) (hs : List Int), Sm B hs → hs.length = B.heavy.length → (∀ k ∈ ks, k < B.meets.length) → Sm B (runH B.heavy B.meets hs ks)
  | [], _, h, _, _ => h
  | k :: ks, hs, h, hl, hk => by
    rw [runH]
    exact sm_run ok ks _ (sm_after h ok hl (meets_mem (hk k (List.mem_cons_self ..)))) (by rw [after_len]; exact hl) fun z hz => hk z (List.mem_cons_of_mem _ hz)
theorem grain_abs {B : BD} {hs : List Int} (h : Sm B hs) (ok : BOk B) (hl : hs.length = B.heavy.length) {p : Nat × Nat} (h1 : p.1 < B.heavy.length) (h2 : p.2 < B.heavy.length) : (grain B.heavy hs p).natAbs ≤ 2 ^ 501 := by
  have a1 := sm_abs h ok hl (i := p.1) (by omega)
  have a2 := sm_abs h ok hl (i := p.2) (by omega)
  have w1 := w9 ok h1
  have w2 := w9 ok h2
  have := tn_abs (hs.getD p.1 0 + hs.getD p.2 0) (B.heavy.getD p.1 0 + B.heavy.getD p.2 0) (by omega)
  unfold grain
  omega
theorem mwB {i j : Int} (hi : i.natAbs ≤ 2 ^ 2000) (hj : j.natAbs ≤ 2 ^ 2000) : CMulW i j := wide_mul (a := 2001) (b := 2001) (Nat.lt_of_le_of_lt hi (Nat.pow_lt_pow_right (by decide) (by decide))) (Nat.lt_of_le_of_lt hj (Nat.pow_lt_pow_right (by decide) (by decide))) (by decide) (by decide) (by decide)
theorem fall_ok {w1 w2 s g : Int} (h1 : 1 ≤ w1 ∧ w1 ≤ 9) (h2 : 1 ≤ w2 ∧ w2 ≤ 9) (hs : s.natAbs ≤ 2 ^ 501) (hg : g.natAbs ≤ 2 ^ 501) : CMulW w1 w2 ∧ CMulW (w1 * w2) g ∧ CMulW 2 s ∧ CMulW (w1 + w2) g ∧ CMulW (w1 * w2 * g) (2 * s - (w1 + w2) * g) := by
  have p1 : (w1 * w2).natAbs ≤ 9 * 9 := nab (by omega) (by omega)
  have p2 := nab p1 hg
  have p3 : ((w1 + w2) * g).natAbs ≤ 18 * 2 ^ 501 := nab (by omega) hg
  refine ⟨mwB (by omega) (by omega), mwB (by omega) (by omega), mwB (by omega) (by omega), mwB (by omega) (by omega), mwB (by omega) (by omega)⟩
/-- the least of all meetings' falls -/
def IsLeast (B : BD) (m : Int) : Prop := m ∈ leastL B ∧ ∀ y ∈ leastL B, m ≤ y
theorem IsLeast.eq {B : BD} {m n : Int} (a : IsLeast B m) (b : IsLeast B n) : m = n := Int.le_antisymm (a.2 n b.1) (b.2 m a.1)
theorem all_pairs {B : BD} (ok : BOk B) {p : Nat × Nat} (h : p ∈ B.meets.flatten) : p.1 < B.heavy.length ∧ p.2 < B.heavy.length := by
  obtain ⟨r, hr, hp⟩ := List.mem_flatten.mp h
  exact ok.row hr hp
theorem leP_le {w : List Int} {p : Nat × Nat} (h1 : 1 ≤ w.getD p.1 0 ∧ w.getD p.1 0 ≤ 9) (h2 : 1 ≤ w.getD p.2 0 ∧ w.getD p.2 0 ≤ 9) : leP w p ≤ 1458 := by
  unfold leP
  have a : w.getD p.1 0 * w.getD p.2 0 ≤ 9 * 9 := Int.mul_le_mul h1.2 h2.2 (by omega) (by omega)
  have b : 0 ≤ w.getD p.1 0 * w.getD p.2 0 := Int.mul_nonneg (by omega) (by omega)
  calc w.getD p.1 0 * w.getD p.2 0 * (w.getD p.1 0 + w.getD p.2 0) ≤ 81 * 18 := Int.mul_le_mul a (by omega) (by omega) (by omega)
    _ = 1458 := rfl
theorem least_b {B : BD} {m : Int} (a : IsLeast B m) (ok : BOk B) : 1 ≤ m ∧ m ≤ 1458 := by
  obtain ⟨p, hp, rfl⟩ := List.mem_map.mp a.1
  obtain ⟨h1, h2⟩ := all_pairs ok hp
  have w1 := w9 ok h1
  have w2 := w9 ok h2
  exact ⟨leP_pos w1.1 w2.1, leP_le w1 w2⟩
theorem flat_b {B : BD} (ok : BOk B) : 1 ≤ B.meets.flatten.length ∧ B.meets.flatten.length ≤ 18 := by
  have tot := bok_tot ok
  have t1 : 1 ≤ B.meets.length := by rw [B.meets_len]; exact ok.told.1
  have key : ∀ ms : List (List (Nat × Nat)), (∀ r ∈ ms, r.length = B.places) → ms.flatten.length = ms.length * B.places := fun ms => by
    induction ms with
    | nil => intro _; simp
    | cons r ms ih =>
      intro h
      rw [List.flatten_cons, List.length_append, ih fun r hr => h r (List.mem_cons_of_mem _ hr), h r List.mem_cons_self, List.length_cons, Nat.add_mul, Nat.one_mul, Nat.add_comm]
  rw [key B.meets fun r hr => ok.row_len hr]
  have p := ok.places
  constructor
  · exact Nat.mul_le_mul t1 p.1
  · exact Nat.mul_le_mul tot p.2
section
variable {P : Program} {w : World} {K : PySem.W.Frag} {mg : Str → Option Value} {base : Heap} {C : Addr}
abbrev pairsD (ps : List (Nat × Nat)) : D := .lst (ps.map pDD)
def cMeetings : Ct := fun ds k => ∃ B, ds = [.bench B] ∧ BOk B ∧ k (pairsD B.meets.flatten)
abbrev s_Bench_meetings : Stmt := inClass (topS 15) 8
abbrev n_Bench_meetings : List Str := ["self", "pairs", "pair"]
theorem sc_Bench_meetings : FnScope ["self", "pairs", "pair"] ["self"] (defScope s_Bench_meetings) := ⟨rfl, rfl, rfl, by decide +kernel, rfl, by decide +kernel, by decide +kernel⟩
theorem ok_meetings (B0 : Blt mg) (T : Txt K mg C) (F : MethAt K C "meetings" "Bench.meetings" s_Bench_meetings ["self"]) : DefM P w K mg base 1 C "meetings" ["self"] (spD K C cMeetings) := by
  refine F.defD (n := 0) sc_Bench_meetings (fun ds k h => by obtain ⟨_, rfl, _⟩ := h; rfl) fun f cdv A outer s H E sa F ds k hr h => ?_
  obtain ⟨B1, rfl, ok, q⟩ := h
  have B := B0
  have tot := bok_tot ok
  have fl := flat_b ok
  have rfe : (B1.meets.map fun r => r.map pDD).flatten = B1.meets.flatten.map pDD := by rw [List.map_flatten]
  refine ⟨_, (pss_one (ps_ret (pe_lc2 (own := [("pairs", 1), ("pair", 2)]) (vs1 := [2]) rfl sc_Bench_meetings.nd (k_seq (K := K) rfl (k_fld (K := K) rfl (pv 0) rfl)) (blkOk_by (own := [("pairs", 1), ("pair", 2)]) (N := n_Bench_meetings) (sc := defScope s_Bench_meetings) (by decide +kernel)) (by decide) (fun _ _ _ _ _ => (pg_name (i := 1) sc_Bench_meetings.nd rfl (Or.inl rfl))) (fun _ _ _ _ _ => pts_nil) (fun _ _ _ _ _ => (k_seq (K := K) rfl (pv 1))) (fun _ _ _ _ _ => (pg_name (i := 2) sc_Bench_meetings.nd rfl (Or.inl rfl))) (fun _ _ _ _ _ => pts_nil) (fun _ _ _ _ _ => (pv 2))))), ?_⟩; refine start_eqR (ρ' := [some (.d (.bench B1)), none, none]) rfl ?_
  walk_at "dw"
  refine WO.we (wo_lc2 (α := List (Nat × Nat)) (β := Nat × Nat) (WI.wv (wi_seqL ?_)))
  walk_at "dw"
  refine ⟨by rw [List.length_map]; omega, B1.meets, fun r => .lst (r.map pDD), id, fun _ p => pDD p, rfl, ?_, fun r hr => ?_, ?_⟩
  · show (B1.meets.map fun r => r.map pDD).flatten.length < _
    rw [rfe, List.length_map]
    omega
  · walk_at "dw"
    refine wi_seqL ?_
    walk_at "dw"
    intro p hp
    walk_at "dw"
  · show k (.lst (B1.meets.map fun r => r.map pDD).flatten)
    rw [rfe]
    exact q
def cWeight : Ct := fun ds k => ∃ B hs, ds = [.bench B, tI hs] ∧ BOk B ∧ hs.length = B.heavy.length ∧ Sm B hs ∧ k (.int (wt B.heavy hs))
theorem zip_get {α β : Type} : ∀ {xs : List α} {ys : List β} {p : α × β}, p ∈ xs.zip ys → ∃ i : Nat, xs[i]? = some p.1 ∧ ys[i]? = some p.2
  | [], _, _, h => by simp at h
  | _ :: _, [], _, h => by simp at h
  | x :: xs, y :: ys, p, h => by
    rw [List.zip_cons_cons] at h
    rcases List.mem_cons.mp h with rfl | h
    · exact ⟨0, rfl, rfl⟩
    · obtain ⟨i, h1, h2⟩ := zip_get h
      exact ⟨i + 1, by simpa using h1, by simpa using h2⟩
theorem zip_mapF {α β γ : Type} (f : α × β → γ) : ∀ (xs : List α) (ys : List β), (xs.zip ys).map f = List.zipWith (fun a b => f (a, b)) xs ys
  | [], _ => rfl
  | _ :: _, [] => rfl
  | x :: xs, y :: ys => by
    show f (x, y) :: (xs.zip ys).map f = _
    rw [zip_mapF f xs ys]
    rfl
theorem getD_of {ns : List Int} {i : Nat} {x : Int} (h : ns[i]? = some x) : x = ns.getD i 0 := by rw [List.getD_eq_getElem?_getD, h]; rfl
def cFallAt : Ct := fun ds k => ∃ B hs, ∃ (p : Nat × Nat) (g : Int), ds = [.bench B, tI hs, pDD p, .int g] ∧ BOk B ∧ hs.length = B.heavy.length ∧ Sm B hs ∧ p.1 < B.heavy.length ∧ p.2 < B.heavy.length ∧ g.natAbs ≤ 2 ^ 501 ∧ k (.int (fallP B.heavy hs p g))
/-- what falls at each grinding of a row -/
def runF (w : List Int) (ms : List (List (Nat × Nat))) : List Int → List Nat → List Int
  | _, [] => []
  | hs, k :: ks => fallR w hs (ms.getD k []) :: runF w ms (after w hs (ms.getD k [])) ks
theorem runF_len (w : List Int) (ms : List (List (Nat × Nat))) : ∀ (ks : List Nat) (hs : List Int), (runF w ms hs ks).length = ks.length
  | [], _ => rfl
  | k :: ks, hs => by rw [runF, List.length_cons, runF_len w ms ks, List.length_cons]
theorem runF_take (w : List Int) (ms : List (List (Nat × Nat))) : ∀ (ks : List Nat) (hs : List Int) (i k : Nat), ks[i]? = some k → runF w ms hs (ks.take (i + 1)) = runF w ms hs (ks.take i) ++ [fallR w (runH w ms hs (ks.take i)) (ms.getD k [])]
  | [], _, i, k, h => by simp at h
  | q :: ks, hs, 0, k, h => by simp at h; subst h; simp [runH, runF]
  | q :: ks, hs, i + 1, k, h => by
    have := runF_take w ms ks (after w hs (ms.getD q [])) i k (by simpa using h)
    simpa [runF, runH] using this
def cFalls : Ct := fun ds k => ∃ B hs ks, ds = [.bench B, tI hs, lI (natL ks)] ∧ BOk B ∧ hs.length = B.heavy.length ∧ Sm B hs ∧ (∀ n ∈ ks, n < B.meets.length) ∧ ks.length ≤ 99999 ∧ k (lI (runF B.heavy B.meets hs ks))
theorem zip_self_map {α β : Type} (f : α → β) : ∀ xs : List α, xs.zip (xs.map f) = xs.map fun x => (x, f x)
  | [] => rfl
  | x :: xs => by rw [List.map_cons, List.zip_cons_cons, zip_self_map f xs, List.map_cons]
theorem natL_get {ks : List Nat} {i : Nat} {x : Int} (h : (natL ks)[i]? = some x) : ∃ n : Nat, ks[i]? = some n ∧ x = (n : Int) := by
  unfold natL at h
  rw [List.getElem?_map] at h
  cases hx : ks[i]? with
  | none => rw [hx] at h; cases h
  | some y => rw [hx] at h; cases h; exact ⟨y, rfl, rfl⟩
theorem natL_len (ks : List Nat) : (natL ks).length = ks.length := by simp [natL]
def cLeast : Ct := fun ds k => ∃ B, ds = [.bench B] ∧ BOk B ∧ ∀ m, IsLeast B m → k (.int m)
def cBound : Ct := fun ds k => ∃ B hs, ds = [.bench B, tI hs] ∧ BOk B ∧ hs.length = B.heavy.length ∧ Sm B hs ∧ ∀ m, IsLeast B m → k (.int (wt B.heavy hs / m))
end
end G.Q

namespace G.Q
open PySem PySem.Spec PyProof.Rows L2
local macro_rules | `(tactic| walk_at "d1") => `(tactic| first | with_reducible refine ws_seq ?_ | with_reducible refine ws_next ?_ | with_reducible refine ws_ret ?_ | with_reducible refine ws_retN ?_ | with_reducible refine ws_if ?_ | ((with_reducible show WS _ (tDrop (tBM _ "list" _ (tVar _) _)) _ _ _ _ _); refine ws_mt rfl ?_) | ((with_reducible show WS _ (tDrop (tBM0 _ "list" _ (tVar _))) _ _ _ _ _); refine ws_mt0 rfl ?_) | ((with_reducible show WS _ (tAsg (tBM _ "list" _ (tVar _) _) (gName _)) _ _ _ _ _); refine ws_mtS rfl ?_) | ((with_reducible show WS _ (tAsg (tBM0 _ "list" _ (tVar _)) (gName _)) _ _ _ _ _); refine ws_mt0S rfl ?_) | ((with_reducible show WS _ (tAsgO (tDisp _) _) _ _ _ _ _); refine ws_setOwnK ?_) | ((with_reducible show WS _ (tAsgO tDNewK _) _ _ _ _ _); refine ws_setOwnK ?_) | ((with_reducible show WS _ (tAsgO (tDc _ _ _ _ _ _) _) _ _ _ _ _); refine ws_setOwnK ?_) | ((with_reducible show WS _ (tAsgO tDNewT _) _ _ _ _ _); refine ws_setOwnT ?_) | ((with_reducible show WS _ (tAsgO (tDispT1 _ _) _) _ _ _ _ _); refine ws_setOwnT ?_) | with_reducible refine ws_setOwn ?_ | ((with_reducible show WS _ (tAsg _ (gSub (tVar _) _ rSetL)) _ _ _ _ _); first | refine ws_setItem rfl ?_ | refine ws_setWl rfl ?_) | ((with_reducible show WS _ (tAugS (tVar _) _ _ _ _ _) _ _ _ _ _); refine ws_augItem rfl ?_) | ((with_reducible show WS _ (sDPut (tVar _) _ _) _ _ _ _ _); first | refine ws_dput rfl ?_ | refine ws_dputT rfl ?_) | ((with_reducible show WS _ (tDrop (tBM _ "dict" rUpd (tVar _) _)) _ _ _ _ _); refine ws_upd rfl ?_) | ((with_reducible show WS _ (tAsg (tCall (spDS _ _ _) _ _ _) (gName _)) _ _ _ _ _); refine ws_asgS ?_) | with_reducible refine ws_asg ?_ | with_reducible refine ws_drop ?_ | ((with_reducible show WS _ (tAug _ _ _) _ _ _ _ _); refine ws_aug rfl ?_) | with_reducible refine ws_par ?_ | with_reducible refine ws_break ?_ | with_reducible refine ws_cont ?_ | with_reducible refine wg_name (by first | trivial | decide) ?_ | with_reducible refine wg_tup rfl ?_ | with_reducible refine wg_stn rfl ?_ | with_reducible refine wg_lst rfl ?_ | with_reducible refine wgs_cons ?_ | with_reducible refine wgs_nil ?_ | with_reducible refine wgs_consM ?_ | with_reducible refine wgs_nilM ?_ | ((with_reducible show WE _ (tVar _) _ _); refine we_var rfl ?_) | with_reducible refine we_int ?_ | with_reducible refine we_str ?_ | with_reducible refine we_bl ?_ | with_reducible refine we_non ?_ | with_reducible refine wt_test ?_ | with_reducible refine wt_B ?_ | with_reducible refine wt_not ?_ | with_reducible refine wt_and ?_ | with_reducible refine wt_or ?_ | with_reducible refine wt_yes ?_ | with_reducible refine we_isi ?_ | with_reducible refine we_notV ?_ | with_reducible refine we_andV ?_ | with_reducible refine we_orV ?_ | with_reducible refine we_if ?_ | with_reducible refine we_chain ?_ | with_reducible refine we_un ?_ | with_reducible refine ou_neg ?_ | with_reducible refine we_call ?_ | with_reducible refine we_meth (by decide) ?_ | with_reducible refine we_tupK2 ?_ | with_reducible refine we_tup ?_ | with_reducible refine wa_cons ?_ | with_reducible refine wa_nil ?_ | with_reducible refine wab_cons ?_ | with_reducible refine wab_nil ?_ | with_reducible refine WO.we (wo_lst ?_) | with_reducible refine wo_lst ?_ | with_reducible refine we_op ?_ | ((with_reducible show WO _ (tOp rMulS (tLst _) _) _ _); refine wo_rep ?_) | with_reducible refine wo_op ?_ | with_reducible refine we_cb ?_ | with_reducible refine wo_cb ?_ | ((with_reducible show WE _ (tFld _ _ "hard") _ _); refine we_hard (by assumption) ?_) | ((with_reducible show WE _ (tFld _ _ "heavy") _ _); refine we_heavy (by assumption) ?_) | ((with_reducible show WE _ (tFld _ _ "places") _ _); refine we_places (by assumption) ?_) | ((with_reducible show WE _ (tFld _ _ "told") _ _); refine we_told (by assumption) ?_) | ((with_reducible show WE _ (tFld _ _ "meets") _ _); refine we_meets (by assumption) ?_) | ((with_reducible show WB _ (tVar _) _ _); first | refine wb_own rfl ?_ | refine wb_ownK rfl ?_ | refine wb_ownT rfl ?_ | refine wb_lkT rfl (by assumption) ?_ | refine wb_wl rfl ?_) | with_reducible refine WE.wb ?_ | with_reducible refine op_addSI ?_ | with_reducible refine op_I0i ?_ | with_reducible refine op_I0b ?_ | with_reducible refine op_eqII ?_ | with_reducible refine op_neII ?_ | with_reducible refine op_eqBB ?_ | with_reducible refine op_neBB ?_ | with_reducible refine op_eqSS ?_ | with_reducible refine op_neSS ?_ | with_reducible refine op_isNn ?_ | with_reducible refine op_notNn ?_ | with_reducible refine op_ip ?_ | ((with_reducible show OP _ (rIx _) (D.tup _) (D.int _) _); refine op_ixT (by rfl) ?_) | ((with_reducible show OP _ (rIx _) (D.lst _) (D.int _) _); refine op_ixL (by rfl) ?_) | with_reducible refine cr_lenDK ?_ | with_reducible refine cr_lenDT ?_ | with_reducible refine cr_lenL ?_ | with_reducible refine cr_lenT ?_ | with_reducible refine cr_lenS ?_ | with_reducible refine cr_lenX ?_ | with_reducible refine cr_tupX ?_ | with_reducible refine cr_sumS ?_ | with_reducible refine cr_sumLi ?_ | with_reducible refine cr_sumTi ?_ | with_reducible refine cr_allB ?_ | with_reducible refine cr_anyB ?_ | with_reducible refine cr_absI ?_ | with_reducible refine cr_int_i ?_ | with_reducible refine cr_int_b ?_ | with_reducible refine CRO.cr (cr_listL ?_) | with_reducible refine CRO.cr (cr_listT ?_) | with_reducible refine CRO.cr (cr_listS ?_) | with_reducible refine cr_listL ?_ | with_reducible refine cr_listT ?_ | with_reducible refine cr_listS ?_ | with_reducible refine cr_tupLi ?_ | with_reducible refine cr_tupS ?_ | with_reducible refine cr_tupL ?_ | with_reducible refine cr_tupT ?_ | with_reducible refine wok_new ?_ | with_reducible refine wot_new ?_ | with_reducible refine wok_disp1 ?_ | with_reducible refine wps_cons ?_ | with_reducible refine wps_nil ?_ | with_reducible refine key_str ?_ | with_reducible refine wot_disp1 ?_ | with_reducible refine we_din ?_ | with_reducible refine we_dnotin ?_ | with_reducible refine din_I ?_ | with_reducible refine din_S ?_ | with_reducible refine din_T ?_ | ((with_reducible show WE _ (tDGet (tVar _) _) _ _); refine we_dgetL (by assumption) rfl ?_) | with_reducible refine we_dget ?_ | with_reducible refine we_idx ?_ | with_reducible refine wo_rev ?_ | with_reducible refine WO.we (wo_rev ?_) | with_reducible refine dgp_hard ?_ | with_reducible refine dgp_wide ?_ | with_reducible refine dgp_rows ?_ | with_reducible refine dgp_pairs ?_ | with_reducible refine dgp_many ?_ | with_reducible refine dg_hard ?_ | with_reducible refine dg_places ?_ | with_reducible refine dg_told ?_ | with_reducible refine dg_heavy ?_ | with_reducible refine dg_meets ?_ | with_reducible refine wp_no ?_ | with_reducible refine wp_some ?_ | with_reducible refine WI.wv ?_ | with_reducible refine wi_rng1 ?_ | with_reducible refine wad_cons ?_ | with_reducible refine wad_nil ?_ | with_reducible refine wd_tup ?_ | with_reducible refine wd_lst ?_ | with_reducible refine ⟨_, rfl, ?_⟩ | with_reducible refine ⟨_, _, rfl, ?_⟩ | ((with_reducible show List.length _ ≤ 1000 ∧ _); refine len_ok (by rfl) ?_) | ((with_reducible show if D.isN _ = true then _ else _); first | refine s_nnT (by rfl) ?_ | refine s_nnF (by rfl) ?_) | ((with_reducible show if (!D.isN _) = true then _ else _); first | refine s_mnT (by rfl) ?_ | refine s_mnF (by rfl) ?_) | with_reducible refine s_cT ?_ | with_reducible refine s_cF ?_ | with_reducible refine s_nT ?_ | with_reducible refine s_nF ?_)
local macro_rules | `(tactic| walk_at "dw") => `(tactic| ((try dsimp only [List.set, wipeR, snd_cons, snd_nil]); repeat (walk_at "d1"; try dsimp only [List.set, wipeR, snd_cons, snd_nil])))
local macro_rules | `(tactic| walk_at "c1") => `(tactic| first | with_reducible refine c_call rfl ?_ | with_reducible refine c_op ?_ | ((with_reducible show CE _ _ _ (tVar _) _ _); refine CE.of rfl (by assumption) ?_) | ((with_reducible show CE _ _ _ (tC _) _ _); refine CE.of rfl (by assumption) ?_) | with_reducible refine ca_cons ?_ | with_reducible refine ca_nil rfl (by assumption) ?_ | with_reducible refine c_lst ?_ | with_reducible refine c_tup ?_ | with_reducible refine c_test ?_ | with_reducible refine c_rng1 ?_ | ((with_reducible show Wl _ _ → _); intro _) | ((with_reducible show ∀ _ : HO, Wl _ _ → _); intro _ _))
local macro_rules | `(tactic| walk_at "cw") => `(tactic| ((try dsimp only [List.set, wipeR, snd_cons, snd_nil]); repeat (first | walk_at "c1" | walk_at "d1"; try dsimp only [List.set, wipeR, snd_cons, snd_nil])))

section
variable {P : Program} {w : World} {K : PySem.W.Frag} {mg : Str → Option Value} {base : Heap} {C : Addr}
theorem gd_sext {st : Addr} {F H : Hp} (g : Gd (some st) F H) : SExt st F H F H := by
  obtain ⟨s, hs, ok⟩ := g.ok st rfl
  exact SExt.refl g.fh hs ok
theorem sext_xe {st : Addr} {F H F' H' : Hp} (e : SExt st F H F' H') : XE (some st) F H F' H' := ⟨.of e.ext, fun a z => by cases z; exact e.st⟩
def cDigit : Ct := fun ds k => ∃ b : Int, ds = [.st, .int b] ∧ (∀ n, CDivW n b) ∧ ∀ n, 0 ≤ n → n < b → k (.int n)
theorem dig_to {x : Str} {ps : List Str} {n : Nat} (D : Def P w K mg base n x ps (spDigit K)) : Def P w K mg base n x ps (spD K C cDigit) := by
  refine D.to fun vs H Q E h => ?_
  obtain ⟨st, F, ds, k, g, r, ⟨b, rfl, hb, hk⟩, q⟩ := h
  cases r with | cons r1 r => cases r with | cons r2 r =>
  cases r
  cases r2
  cases r1 with | st e =>
  subst e
  exact draw (K := K) (gd_sext g) hb fun d H' h1 h2 e _ => q _ _ F H' (sext_xe e) (.int d) (hk d h1 h2)
def cBench : Ct := fun ds k => ∃ pl pc : Nat, ds = [.st, .int pl, .int pc] ∧ 2 ≤ pl ∧ pl ≤ 4 ∧ 1 ≤ pc ∧ pc ≤ 3 ∧ ∀ B, BOk B → B.hard.length ≤ pl → B.places ≤ pc → k (modelD B)
theorem bench_to {x : Str} {ps : List Str} {n : Nat} (D : Def P w K mg base n x ps (spBench K)) : Def P w K mg base n x ps (spD K C cBench) := by
  refine D.to fun vs H Q E h => ?_
  obtain ⟨st, F, ds, k, g, r, ⟨pl, pc, rfl, h1, h2, h3, h4, hk⟩, q⟩ := h
  cases r with | cons r1 r => cases r with | cons r2 r => cases r with | cons r3 r =>
  cases r
  cases r2
  cases r3
  cases r1 with | st e =>
  subst e
  obtain ⟨s, hs, ok⟩ := g.ok _ rfl
  exact ⟨_, s, F, pl, pc, rfl, h1, h2, h3, h4, hs, ok, g.fh, fun m B F' H' b1 b2 b3 e mo => q _ _ F' H' (sext_xe e) (model_R mo) (hk B b1 b2 b3)⟩
def cProgram : Ct := fun ds k => ∃ B, ds = [modelD B] ∧ BOk B ∧ k (.bench B)
theorem program_to {x : Str} {ps : List Str} {n : Nat} (D : Def P w K mg base n x ps (spProgram K C)) : Def P w K mg base n x ps (spD K C cProgram) := by
  refine D.to fun vs H Q E h => ?_
  obtain ⟨st, F, ds, k, g, r, ⟨B, rfl, h1, hk⟩, q⟩ := h
  cases r with | cons r1 r =>
  cases r
  obtain ⟨m, rfl, mo⟩ := R_model r1
  exact ⟨m, B, F, rfl, g.sub, h1, mo, fun b F' H' e hb => q _ _ F' H' ((XE.refl g).pure e) (.bench hb) hk⟩
def cMade : Ct := fun ds k => ∃ B, ds = [lI B.hard, .int B.places, toldX B] ∧ BOk B ∧ k (modelD B)
theorem made_to {x : Str} {ps : List Str} {n : Nat} (D : Def P w K mg base n x ps (spMade K)) : Def P w K mg base n x ps (spD K C cMade) := by
  refine D.to fun vs H Q E h => ?_
  obtain ⟨st, F, ds, k, g, r, ⟨B, rfl, h1, hk⟩, q⟩ := h
  cases r with | cons r1 r => cases r with | cons r2 r => cases r with | cons r3 r =>
  cases r
  cases r2
  have p3 := (pl_toldX B).dp r3
  rw [py_toldX] at p3
  cases r3 with | @lst l2 v2 _ a2 b2 =>
  cases r1 with | @lst l1 v1 _ a1 b1 =>
  rw [b1.ints] at a1
  exact ⟨l1, l2, B, F, rfl, g.sub, h1, a1, p3, ⟨v2, a2, R_txs b2⟩, fun m F' H' e mo => q _ _ F' H' ((XE.refl g).pure e) (model_R mo) hk⟩
def cStand : Ct := fun ds k => ∃ B, ∃ most : Int, ds = [.st, modelD B, .int most] ∧ 0 ≤ most ∧ most < 2 ^ 200 ∧ BOk B ∧ ∀ hs : List Int, hs.length = B.heavy.length → (∀ h ∈ hs, -most ≤ h ∧ h ≤ most) → k (tI hs)
theorem stand_to {x : Str} {ps : List Str} {n : Nat} (D : Def P w K mg base n x ps (spStand K)) : Def P w K mg base n x ps (spD K C cStand) := by
  refine D.to fun vs H Q E h => ?_
  obtain ⟨st, F, ds, k, g, r, ⟨B, most, rfl, h1, h2, h3, hk⟩, q⟩ := h
  cases r with | cons r1 r => cases r with | cons r2 r => cases r with | cons r3 r =>
  cases r
  cases r3
  obtain ⟨m, rfl, mo⟩ := R_model r2
  cases r1 with | st e =>
  subst e
  obtain ⟨s, hs, ok⟩ := g.ok _ rfl
  exact ⟨_, s, F, m, B, most, rfl, h1, h2, hs, ok, g.fh, h3, mo, fun p hs F' H' e hp b1 b2 => q _ _ F' H' (sext_xe e) (.stn hp) (hk hs b1 b2)⟩
theorem small_d {b : Int} (h1 : 1 ≤ b) (h2 : b ≤ 1000000000) : ∀ n, CDivW n b := fun n => wide_div (b := 40) (by omega) (by omega) (by decide) (by decide)
/-! ### the law's own grinding -/
end
end G.Q

namespace G.Q
open PySem PySem.Spec PyProof.Rows L2
local macro_rules | `(tactic| walk_at "d1") => `(tactic| first | with_reducible refine ws_seq ?_ | with_reducible refine ws_next ?_ | with_reducible refine ws_ret ?_ | with_reducible refine ws_retN ?_ | with_reducible refine ws_if ?_ | ((with_reducible show WS _ (tDrop (tBM _ "list" _ (tVar _) _)) _ _ _ _ _); refine ws_mt rfl ?_) | ((with_reducible show WS _ (tDrop (tBM0 _ "list" _ (tVar _))) _ _ _ _ _); refine ws_mt0 rfl ?_) | ((with_reducible show WS _ (tAsg (tBM _ "list" _ (tVar _) _) (gName _)) _ _ _ _ _); refine ws_mtS rfl ?_) | ((with_reducible show WS _ (tAsg (tBM0 _ "list" _ (tVar _)) (gName _)) _ _ _ _ _); refine ws_mt0S rfl ?_) | ((with_reducible show WS _ (tAsgO (tDisp _) _) _ _ _ _ _); refine ws_setOwnK ?_) | ((with_reducible show WS _ (tAsgO tDNewK _) _ _ _ _ _); refine ws_setOwnK ?_) | ((with_reducible show WS _ (tAsgO (tDc _ _ _ _ _ _) _) _ _ _ _ _); refine ws_setOwnK ?_) | ((with_reducible show WS _ (tAsgO tDNewT _) _ _ _ _ _); refine ws_setOwnT ?_) | ((with_reducible show WS _ (tAsgO (tDispT1 _ _) _) _ _ _ _ _); refine ws_setOwnT ?_) | with_reducible refine ws_setOwn ?_ | ((with_reducible show WS _ (tAsg _ (gSub (tVar _) _ rSetL)) _ _ _ _ _); first | refine ws_setItem rfl ?_ | refine ws_setWl rfl ?_) | ((with_reducible show WS _ (tAugS (tVar _) _ _ _ _ _) _ _ _ _ _); refine ws_augItem rfl ?_) | ((with_reducible show WS _ (sDPut (tVar _) _ _) _ _ _ _ _); first | refine ws_dput rfl ?_ | refine ws_dputT rfl ?_) | ((with_reducible show WS _ (tDrop (tBM _ "dict" rUpd (tVar _) _)) _ _ _ _ _); refine ws_upd rfl ?_) | ((with_reducible show WS _ (tAsg (tCall (spDS _ _ _) _ _ _) (gName _)) _ _ _ _ _); refine ws_asgS ?_) | with_reducible refine ws_asg ?_ | with_reducible refine ws_drop ?_ | ((with_reducible show WS _ (tAug _ _ _) _ _ _ _ _); refine ws_aug rfl ?_) | with_reducible refine ws_par ?_ | with_reducible refine ws_break ?_ | with_reducible refine ws_cont ?_ | with_reducible refine wg_name (by first | trivial | decide) ?_ | with_reducible refine wg_tup rfl ?_ | with_reducible refine wg_stn rfl ?_ | with_reducible refine wg_lst rfl ?_ | with_reducible refine wgs_cons ?_ | with_reducible refine wgs_nil ?_ | with_reducible refine wgs_consM ?_ | with_reducible refine wgs_nilM ?_ | ((with_reducible show WE _ (tVar _) _ _); refine we_var rfl ?_) | with_reducible refine we_int ?_ | with_reducible refine we_str ?_ | with_reducible refine we_bl ?_ | with_reducible refine we_non ?_ | with_reducible refine wt_test ?_ | with_reducible refine wt_B ?_ | with_reducible refine wt_not ?_ | with_reducible refine wt_and ?_ | with_reducible refine wt_or ?_ | with_reducible refine wt_yes ?_ | with_reducible refine we_isi ?_ | with_reducible refine we_notV ?_ | with_reducible refine we_andV ?_ | with_reducible refine we_orV ?_ | with_reducible refine we_if ?_ | with_reducible refine we_chain ?_ | with_reducible refine we_un ?_ | with_reducible refine ou_neg ?_ | with_reducible refine we_call ?_ | with_reducible refine we_meth (by decide) ?_ | with_reducible refine we_tupK2 ?_ | with_reducible refine we_tup ?_ | with_reducible refine wa_cons ?_ | with_reducible refine wa_nil ?_ | with_reducible refine wab_cons ?_ | with_reducible refine wab_nil ?_ | with_reducible refine WO.we (wo_lst ?_) | with_reducible refine wo_lst ?_ | with_reducible refine we_op ?_ | ((with_reducible show WO _ (tOp rMulS (tLst _) _) _ _); refine wo_rep ?_) | with_reducible refine wo_op ?_ | with_reducible refine we_cb ?_ | with_reducible refine wo_cb ?_ | ((with_reducible show WE _ (tFld _ _ "hard") _ _); refine we_hard (by assumption) ?_) | ((with_reducible show WE _ (tFld _ _ "heavy") _ _); refine we_heavy (by assumption) ?_) | ((with_reducible show WE _ (tFld _ _ "places") _ _); refine we_places (by assumption) ?_) | ((with_reducible show WE _ (tFld _ _ "told") _ _); refine we_told (by assumption) ?_) | ((with_reducible show WE _ (tFld _ _ "meets") _ _); refine we_meets (by assumption) ?_) | ((with_reducible show WB _ (tVar _) _ _); first | refine wb_own rfl ?_ | refine wb_ownK rfl ?_ | refine wb_ownT rfl ?_ | refine wb_lkT rfl (by assumption) ?_ | refine wb_wl rfl ?_) | with_reducible refine WE.wb ?_ | with_reducible refine op_addSI ?_ | with_reducible refine op_I0i ?_ | with_reducible refine op_I0b ?_ | with_reducible refine op_eqII ?_ | with_reducible refine op_neII ?_ | with_reducible refine op_eqBB ?_ | with_reducible refine op_neBB ?_ | with_reducible refine op_eqSS ?_ | with_reducible refine op_neSS ?_ | with_reducible refine op_isNn ?_ | with_reducible refine op_notNn ?_ | with_reducible refine op_ip ?_ | ((with_reducible show OP _ (rIx _) (D.tup _) (D.int _) _); refine op_ixT (by rfl) ?_) | ((with_reducible show OP _ (rIx _) (D.lst _) (D.int _) _); refine op_ixL (by rfl) ?_) | with_reducible refine cr_lenDK ?_ | with_reducible refine cr_lenDT ?_ | with_reducible refine cr_lenL ?_ | with_reducible refine cr_lenT ?_ | with_reducible refine cr_lenS ?_ | with_reducible refine cr_lenX ?_ | with_reducible refine cr_tupX ?_ | with_reducible refine cr_sumS ?_ | with_reducible refine cr_sumLi ?_ | with_reducible refine cr_sumTi ?_ | with_reducible refine cr_allB ?_ | with_reducible refine cr_anyB ?_ | with_reducible refine cr_absI ?_ | with_reducible refine cr_int_i ?_ | with_reducible refine cr_int_b ?_ | with_reducible refine CRO.cr (cr_listL ?_) | with_reducible refine CRO.cr (cr_listT ?_) | with_reducible refine CRO.cr (cr_listS ?_) | with_reducible refine cr_listL ?_ | with_reducible refine cr_listT ?_ | with_reducible refine cr_listS ?_ | with_reducible refine cr_tupLi ?_ | with_reducible refine cr_tupS ?_ | with_reducible refine cr_tupL ?_ | with_reducible refine cr_tupT ?_ | with_reducible refine wok_new ?_ | with_reducible refine wot_new ?_ | with_reducible refine wok_disp1 ?_ | with_reducible refine wps_cons ?_ | with_reducible refine wps_nil ?_ | with_reducible refine key_str ?_ | with_reducible refine wot_disp1 ?_ | with_reducible refine we_din ?_ | with_reducible refine we_dnotin ?_ | with_reducible refine din_I ?_ | with_reducible refine din_S ?_ | with_reducible refine din_T ?_ | ((with_reducible show WE _ (tDGet (tVar _) _) _ _); refine we_dgetL (by assumption) rfl ?_) | with_reducible refine we_dget ?_ | with_reducible refine we_idx ?_ | with_reducible refine wo_rev ?_ | with_reducible refine WO.we (wo_rev ?_) | with_reducible refine dgp_hard ?_ | with_reducible refine dgp_wide ?_ | with_reducible refine dgp_rows ?_ | with_reducible refine dgp_pairs ?_ | with_reducible refine dgp_many ?_ | with_reducible refine dg_hard ?_ | with_reducible refine dg_places ?_ | with_reducible refine dg_told ?_ | with_reducible refine dg_heavy ?_ | with_reducible refine dg_meets ?_ | with_reducible refine wp_no ?_ | with_reducible refine wp_some ?_ | with_reducible refine WI.wv ?_ | with_reducible refine wi_rng1 ?_ | with_reducible refine wad_cons ?_ | with_reducible refine wad_nil ?_ | with_reducible refine wd_tup ?_ | with_reducible refine wd_lst ?_ | with_reducible refine ⟨_, rfl, ?_⟩ | with_reducible refine ⟨_, _, rfl, ?_⟩ | ((with_reducible show List.length _ ≤ 1000 ∧ _); refine len_ok (by rfl) ?_) | ((with_reducible show if D.isN _ = true then _ else _); first | refine s_nnT (by rfl) ?_ | refine s_nnF (by rfl) ?_) | ((with_reducible show if (!D.isN _) = true then _ else _); first | refine s_mnT (by rfl) ?_ | refine s_mnF (by rfl) ?_) | with_reducible refine s_cT ?_ | with_reducible refine s_cF ?_ | with_reducible refine s_nT ?_ | with_reducible refine s_nF ?_)
local macro_rules | `(tactic| walk_at "dw") => `(tactic| ((try dsimp only [List.set, wipeR, snd_cons, snd_nil]); repeat (walk_at "d1"; try dsimp only [List.set, wipeR, snd_cons, snd_nil])))
local macro_rules | `(tactic| walk_at "c1") => `(tactic| first | with_reducible refine c_call rfl ?_ | with_reducible refine c_op ?_ | ((with_reducible show CE _ _ _ (tVar _) _ _); refine CE.of rfl (by assumption) ?_) | ((with_reducible show CE _ _ _ (tC _) _ _); refine CE.of rfl (by assumption) ?_) | with_reducible refine ca_cons ?_ | with_reducible refine ca_nil rfl (by assumption) ?_ | with_reducible refine c_lst ?_ | with_reducible refine c_tup ?_ | with_reducible refine c_test ?_ | with_reducible refine c_rng1 ?_ | ((with_reducible show Wl _ _ → _); intro _) | ((with_reducible show ∀ _ : HO, Wl _ _ → _); intro _ _))
local macro_rules | `(tactic| walk_at "cw") => `(tactic| ((try dsimp only [List.set, wipeR, snd_cons, snd_nil]); repeat (first | walk_at "c1" | walk_at "d1"; try dsimp only [List.set, wipeR, snd_cons, snd_nil])))

section
variable {P : Program} {w : World} {K : PySem.W.Frag} {mg : Str → Option Value} {base : Heap} {C : Addr}
def cLGrains : Ct := fun ds k => ∃ B hs, ∃ p : Nat × Nat, ds = [modelD B, tI hs, pDD p] ∧ BOk B ∧ hs.length = B.heavy.length ∧ p.1 < B.heavy.length ∧ p.2 < B.heavy.length ∧ k (.int (grain B.heavy hs p))
def cLGround : Ct := fun ds k => ∃ B hs r, ∃ n : Nat, ds = [modelD B, tI hs, .int n] ∧ BOk B ∧ hs.length = B.heavy.length ∧ B.meets[n]? = some r ∧ k (.tup [tI (after B.heavy hs r), tI (dust B.heavy hs r)])
def cLTaking : Ct := fun ds k => ∃ B hs, ds = [modelD B, tI hs] ∧ BOk B ∧ hs.length = B.heavy.length ∧ k (lI (taking B hs))
def cLRan : Ct := fun ds k => ∃ B hs ks, ds = [modelD B, tI hs, lI (natL ks)] ∧ BOk B ∧ hs.length = B.heavy.length ∧ (∀ n ∈ ks, n < B.meets.length) ∧ ks.length ≤ 99999 ∧ k (.tup [tI (runH B.heavy B.meets hs ks), .lst ((runD B.heavy B.meets hs ks).map tI)])
end
end G.Q

namespace G
open PySem PySem.Spec PyProof.Rows L2
local macro_rules | `(tactic| walk_at "lk") => `(tactic| first | assumption | exact rT_at | exact rL_at | exact upd_same | (refine sqT_mono ?_ (by assumption); assumption) | (refine sqL_mono ?_ (by assumption); assumption) | (refine rT_new (by assumption) ?_; walk_at "lk") | (refine rL_new (by assumption) ?_; walk_at "lk") | (refine rH_new (by assumption) ?_; walk_at "lk") | (refine rD_new (by assumption) ?_; walk_at "lk") | (refine dp_mono ?_ (by assumption); assumption))
local macro_rules | `(tactic| walk_at "r1") => `(tactic| first | ((with_reducible show tVar _ _ _ _); refine s_var rfl ?_) | with_reducible refine s_c ?_ | with_reducible refine s_op ?_ | with_reducible refine s_un ?_ | with_reducible refine s_neg ?_ | with_reducible refine s_test ?_ | with_reducible refine s_B ?_ | with_reducible refine s_bl ?_ | with_reducible refine s_not ?_ | with_reducible refine s_yes ?_ | with_reducible refine s_and ?_ | with_reducible refine s_or ?_ | with_reducible refine s_notV ?_ | with_reducible refine s_andV ?_ | with_reducible refine s_orV ?_ | with_reducible refine s_if ?_ | with_reducible refine s_cT ?_ | with_reducible refine s_cF ?_ | with_reducible refine s_nT ?_ | with_reducible refine s_nF ?_ | with_reducible refine s_addI ?_ | with_reducible refine s_eqI ?_ | with_reducible refine s_neI ?_ | with_reducible refine s_eqB ?_ | with_reducible refine s_neB ?_ | with_reducible refine s_I0 ?_ | with_reducible refine s_non ?_ | with_reducible refine s_int ?_ | with_reducible refine s_chain ?_ | with_reducible refine s_cons ?_ | with_reducible refine s_nil ?_ | with_reducible refine s_call ?_ | with_reducible refine s_cb ?_ | with_reducible refine s_meth ?_ | with_reducible refine s_make ?_ | with_reducible refine s_tup ?_ | with_reducible refine s_lst ?_ | with_reducible refine s_bm ?_ | with_reducible refine s_bm0 ?_ | with_reducible refine s_bmT ?_ | with_reducible refine s_fld ?_ | with_reducible refine s_dget ?_ | with_reducible refine s_sl ?_ | with_reducible refine s_part ?_ | with_reducible refine s_nopart ?_ | with_reducible refine s_seq ?_ | with_reducible refine s_next ?_ | with_reducible refine s_asg ?_ | with_reducible refine s_gn ?_ | with_reducible refine s_gc ?_ | with_reducible refine s_g0 ?_ | with_reducible refine s_gs ?_ | with_reducible refine s_ret ?_ | with_reducible refine s_ifS ?_ | with_reducible refine s_drop ?_ | with_reducible refine s_augS ?_ | ((with_reducible show tAug _ _ _ _ _ _); refine s_aug rfl ?_) | with_reducible refine s_ipI ?_ | with_reducible refine s_for ?_ | with_reducible refine s_iseq ?_ | with_reducible refine s_rng1 ?_ | with_reducible refine s_izip ?_ | with_reducible refine s_lc ?_ | with_reducible refine s_lc2 ?_ | with_reducible refine s_lstRg ?_ | with_reducible refine s_rg1 ?_ | with_reducible refine s_sfld ?_ | with_reducible refine s_ienum ?_ | with_reducible refine s_disp ?_ | with_reducible refine s_pc ?_ | with_reducible refine s_pn ?_)
local macro_rules | `(tactic| walk_at "rd") => `(tactic| repeat walk_at "r1")

theorem Ext.same {F H H' : Hp} (e : Same F H) (s : Same H H') : Ext F H F H' := ⟨s, Same.refl F, e.trans s, fun _ _ h => h⟩
theorem del_none {H : Hp} {a : Addr} (h : H a = none) : Same H (del H a) := fun b o hb => by rw [del_ne (ne_of_none hb h)]; exact hb
section
variable {P : Program} {w : World} {K : PySem.W.Frag} {mg : Str → Option Value} {base : Heap} {C : Addr}
structure LB (K : PySem.W.Frag) (H : Hp) (m s : Addr) (B : BD) (hs : List Int) : Prop where
  ok : BOk B
  model : ModelAt K H m B
  stand : SqT K H s (hs.map V.int)
  len : hs.length = B.heavy.length
theorem LB.mono {H H' : Hp} {b s : Addr} {B : BD} {hs : List Int} (e : Same H H') (h : LB K H b s B hs) : LB K H' b s B hs := ⟨h.ok, h.model.mono e, sqT_mono e h.stand, h.len⟩
theorem LB.at {H : Hp} {b s : Addr} {B : BD} {hs : List Int} (g : LB K H b s B hs) {k : Nat} (h : k < B.meets.length) : LA K H b s B hs (B.meets.getD k []) k :=
  ⟨g.ok, g.model, g.stand, g.len, by rw [List.getD_eq_getElem?_getD, List.getElem?_eq_getElem h]; rfl⟩
def spLTaking (K : PySem.W.Frag) : Sp := fun vs H Q _ => ∃ m B s hs, vs = [.ref m, .ref s] ∧ LB K H m s B hs ∧ ∀ H' p, Same H H' → H p = none → H' p = some (.lst ((taking B hs).map V.int)) → Q (.ref p) H'
def spStays (K : PySem.W.Frag) : Sp := fun vs H Q _ => ∃ m B s hs r k d, vs = [.ref m, .ref s, .int (k : Nat), .ref d] ∧ LA K H m s B hs r k ∧ SqT K H d ((dust B.heavy hs r).map V.int) ∧ ∀ H', Same H H' → Q (.bl true) H'
def spLaw (K : PySem.W.Frag) : Sp := fun vs H Q _ => ∃ (a : Addr) (ns : List Int), vs = [.ref a] ∧ SqL K H a (ns.map V.int) ∧ ns.length ≤ 63 ∧ ∀ H', Q (.bl true) H'
theorem cut_nat (ns : List Int) (n : Nat) : cutV (ns.map V.int) none (some (n : Int)) = (ns.take n).map V.int := by
  unfold cutV
  rw [HT.sIx_none, HT.sIx_nat]
  simp
theorem sh_pairI (xs ys : List Int) : Sh 2 (.tuple [.tuple (xs.map PyData.int), .tuple (ys.map PyData.int)]) := sh_tuple fun d hd => by
  rcases List.mem_cons.mp hd with rfl | hd
  · exact sh_tupleI xs
  · rw [List.mem_singleton.mp hd]
    exact sh_tupleI ys
end
end G

namespace G
open PySem PySem.Spec PyProof.Rows L2
end G
namespace G.Q
open PySem PySem.Spec PyProof.Rows L2
section
variable {P : Program} {w : World} {K : PySem.W.Frag} {mg : Str → Option Value} {base : Heap} {C : Addr}
theorem law_okD {st : Stmt} {N : List Str} {m : Nat} {f : Addr} {fd : FuncData} (F : Fun K "law" "law" st f fd) (S : FnScope N ["_law_script"] (defScope st))
    (hb : ∀ (cdv : Value) (A : Around) (outer : List Env) (s : Shared) (H : Hp) (E : XK) (ns : List Int), Room m (A.deeper (envOfC "law" (defScope st) s.heap.objs.size f cdv)) → ns.length ≤ 63 →
      ∃ t, PSs (cxOf CX0 P w K mg base N "law" (defScope st) f cdv A outer s H E).nox (defBody st) t ∧ WS ⟨K, C, none, H, H⟩ t (startR N [lI ns]) (fun _ => D.non = .bl true) (rtD fun d => d = .bl true) (fun _ => False) (fun _ => False)) : FnOk P w K mg base CX0 (m + 1) f fd ["_law_script"] (spLaw K) := by
  refine F.ok (k := m) S (fun vs H Q E h => ?_) (fun cdv A outer s H vs Q E hr h => ?_)
  · obtain ⟨a, ns, rfl, _⟩ := h
    rfl
  · obtain ⟨a, ns, rfl, hS, hlen, q⟩ := h
    obtain ⟨t, h1, h2⟩ := hb cdv A outer s H E ns hr hlen
    refine ⟨t, h1, ws_start (st := none) (k := fun d => d = .bl true) ⟨Same.refl H, fun _ z => nomatch z⟩ (.cons (.lst hS (RA.ofInts ns)) .nil) (fun v d F' H' x r z => ?_) h2⟩
    subst z
    cases r
    exact q H'
/-- a turn of a law's own loop: a new state for the draws -/
theorem ws_state {M : Cm} {ρ : Rho} {nx : Rho → Prop} {rt : Sl → Rho → Prop} {bk ct : Rho → Prop} {rest : TS} {i j : Nat} {c : Int} (hst : M.st = none) (hj : ρ[j]? = some (some (.d (.int c)))) (hi : i < ρ.length) (hn : nx (List.replicate ρ.length none))
    (h : ∀ p F H, WS ⟨M.K, M.C, some p, F, H⟩ rest ((List.replicate ρ.length none).set i (some (.d .st))) (fun ρ' => ρ'.length = ρ.length) (fun _ _ => False) (fun _ => False) (fun _ => False)) : WS M (tSeq (tAsg (tLst (tCons (tVar j) tNil)) (gName i)) rest) ρ nx rt bk ct := fun σ F H E e f1 f2 f3 f4 => by
  obtain ⟨v, h1, r⟩ := e.each j _ hj
  cases (show RB M F H v (.int c) from .inl r).int
  refine ⟨_, h1, ?_⟩
  refine ⟨by show 1 ≤ sizeLine; decide, fun p np => ?_⟩
  have g := e.gd
  have dlH : ∀ a o, H a = some o → del (upd H p (.lst [.int c])) p a = some o := fun a o ha => by
    have ne : a ≠ p := fun z => by rw [z, np] at ha; cases ha
    rw [del_ne ne, upd_ne ne]
    exact ha
  have gd' : Gd (some p) F (upd H p (.lst [.int c])) := ⟨fun a o ha => dlH a o (g.sub a o ha), fun a ea => by cases ea; exact ⟨_, upd_same, .inl ⟨c, rfl⟩⟩⟩
  have il : i < σ.length := by rw [e.len]; exact hi
  have slot : ∀ (k : Nat) s, ((List.replicate ρ.length none).set i (some (Sl.d .st)))[k]? = some (some s) → k = i ∧ s = .d .st := fun k s hk => by
    by_cases z : i = k
    · subst z
      rw [List.getElem?_set_self (by rw [List.length_replicate]; exact hi)] at hk
      cases hk
      exact ⟨rfl, rfl⟩
    · rw [List.getElem?_set_ne z] at hk
      have := List.eq_of_mem_replicate (List.mem_of_getElem? hk)
      cases this
  have fr : Fr ⟨M.K, M.C, some p, F, upd H p (.lst [.int c])⟩ ((List.replicate ρ.length none).set i (some (.d .st))) (σ.set i (some (.ref p))) F (upd H p (.lst [.int c])) := by
    refine ⟨XE.refl gd', by simp [e.len], fun k s hk => ?_, fun a b s t _ ha _ ma _ => ?_⟩
    · obtain ⟨rfl, rfl⟩ := slot k s hk
      exact ⟨.ref p, List.getElem?_set_self il, R.st rfl⟩
    · obtain ⟨_, rfl⟩ := slot a s ha
      cases ma
  refine h p F _ _ F _ E fr (fun ρ' σ' F' H' s e' hl => f1 (List.replicate ρ.length none) σ' F' H' s ?_ hn) (fun _ _ _ _ _ _ _ _ z => z.elim) (fun _ _ _ _ _ _ z => z.elim) (fun _ _ _ _ _ _ z => z.elim)
  have no : ∀ (k : Nat) (s : Sl), (List.replicate ρ.length (none : Option Sl))[k]? ≠ some (some s) := fun k s hk => by
    have := List.eq_of_mem_replicate (List.mem_of_getElem? hk)
    cases this
  refine ⟨?_, by rw [e'.len, hl, List.length_replicate], fun k s hk => absurd hk (no k s), fun a b s t _ ha => absurd ha (no a s)⟩
  have x0 : XE none M.F0 M.H0 F H := hst ▸ e.x
  have ex := e'.x.ext
  have x1 : XE none F H F' H' := ⟨⟨fun a o ha => Dl_sub (st := some p) _ _ (ex.hh a o (dlH a o ha)), ex.ff, fun a o ha => Dl_sub (st := some p) _ _ (ex.fh a o ha), fun b o hb ht hf => ex.fr b o (dlH b o hb) ht hf⟩, fun _ z => nomatch z⟩
  show XE M.st M.F0 M.H0 F' H'
  rw [hst]
  exact x0.trans x1
end
end G.Q

namespace G
open PySem PySem.Spec PyProof.Rows L2
/-! ### what is raised -/
structure Xc where
  cls : Addr
  ns : List Str
  l : List D
/-- an exception in flight: its class, its fields -/
inductive RX (K : PySem.W.Frag) (C : Addr) (st : Option Addr) (F : Hp) : Value → Option Addr → Xc → Prop
  | no {c : Addr} : RX K C st F (.ref c) none ⟨c, [], []⟩
  | fs {c dd : Addr} {ns : List Str} {vs : List V} {ds : List D} : F dd = some (.xd (ns.zip vs)) → ns.length = vs.length → RA K C st F vs ds → RX K C st F (.ref c) (some dd) ⟨c, ns, ds⟩
theorem RX.mono {K : PySem.W.Frag} {C : Addr} {st : Option Addr} {F F' : Hp} {cls : Value} {d : Option Addr} {x : Xc} (e : L2.Same F F') (h : RX K C st F cls d x) : RX K C st F' cls d x := by
  cases h with
  | no => exact .no
  | fs a b c => exact .fs (e _ _ a) b (c.mono e)
theorem RX.exc {K : PySem.W.Frag} {C : Addr} {st : Option Addr} {F : Hp} {cls : Value} {d : Option Addr} {x : Xc} {a : Addr} (h : RX K C st F cls d x) : cls = .ref x.cls ∧ R K C st F (.ref a) (.exc a d x.ns x.l) := by
  cases h with
  | no => exact ⟨rfl, .exc0⟩
  | fs h1 h2 h3 => exact ⟨rfl, .exc h1 h2 h3⟩
abbrev CtX := List D → (D → Prop) → (Xc → Prop) → Prop
def spDX (K : PySem.W.Frag) (C : Addr) (c : CtX) : L2.Sp := fun vs H Q E => ∃ st F ds k kx, Gd st F H ∧ RA K C st F vs ds ∧ c ds k kx ∧ (∀ v d F' H', XE st F H F' H' → R K C st F' v d → k d → Q v H') ∧ ∀ cls d x F' H', XE st F H F' H' → RX K C st F' cls d x → kx x → E cls d H'
section
open L2
variable {P : Program} {w : World} {K : PySem.W.Frag} {mg : Str → Option Value} {base : Heap} {C : Addr}
theorem FunAt.defDX {x : Str} {st : Stmt} {N ps : List Str} {n : Nat} {c : CtX} (F : FunAt K mg x st ps) (S : FnScope N ps (defScope st)) (len : ∀ ds k kx, c ds k kx → ds.length = ps.length)
    (hbody : ∀ (f : Addr) (cdv : Value) (A : Around) (outer : List Env) (s : Shared) (H : Hp) (E : XK) (sa : Option Addr) (F : Hp) (ds : List D) (k : D → Prop) (kx : Xc → Prop), Room n (A.deeper (envOfC x (defScope st) s.heap.objs.size f cdv)) → c ds k kx →
      (∀ cls d x F' H', XE sa F H F' H' → RX K C sa F' cls d x → kx x → E cls d H') →
      ∃ t, PSs (cxOf (L2.CX P w) P w K mg base N x (defScope st) f cdv A outer s H E) (defBody st) t ∧ WS ⟨K, C, sa, F, H⟩ t (startR N ds) (fun _ => k .non) (rtD k) (fun _ => False) (fun _ => False)) : DefX P w K mg base (n + 1) x ps (spDX K C c) := by
  refine F.defX S (fun vs H Q E h => ?_) fun f cdv A outer s H vs Q E hr h => ?_
  · obtain ⟨st, F, ds, k, kx, _, r, hc, _⟩ := h
    rw [r.len]
    exact len ds k kx hc
  · obtain ⟨st, F, ds, k, kx, g, r, hc, q, qx⟩ := h
    obtain ⟨t, h1, h2⟩ := hbody f cdv A outer s H E st F ds k kx hr hc qx
    exact ⟨t, h1, ws_start g r q h2⟩
theorem MethAt.defDX {x qual : Str} {st : Stmt} {N ps : List Str} {n : Nat} {c : CtX} (F : MethAt K C x qual st ps) (S : FnScope N ps (defScope st)) (len : ∀ ds k kx, c ds k kx → ds.length = ps.length)
    (hbody : ∀ (f : Addr) (cdv : Value) (A : Around) (outer : List Env) (s : Shared) (H : Hp) (E : XK) (sa : Option Addr) (F : Hp) (ds : List D) (k : D → Prop) (kx : Xc → Prop), Room n (A.deeper (envOfC qual (defScope st) s.heap.objs.size f cdv)) → c ds k kx →
      (∀ cls d x F' H', XE sa F H F' H' → RX K C sa F' cls d x → kx x → E cls d H') →
      ∃ t, PSs (cxOf (L2.CX P w) P w K mg base N qual (defScope st) f cdv A outer s H E) (defBody st) t ∧ WS ⟨K, C, sa, F, H⟩ t (startR N ds) (fun _ => k .non) (rtD k) (fun _ => False) (fun _ => False)) : DefMX P w K mg base (n + 1) C x ps (spDX K C c) := by
  refine F.defX S (fun vs H Q E h => ?_) fun f cdv A outer s H vs Q E hr h => ?_
  · obtain ⟨st, F, ds, k, kx, _, r, hc, _⟩ := h
    rw [r.len]
    exact len ds k kx hc
  · obtain ⟨st, F, ds, k, kx, g, r, hc, q, qx⟩ := h
    obtain ⟨t, h1, h2⟩ := hbody f cdv A outer s H E st F ds k kx hr hc qx
    exact ⟨t, h1, ws_start g r q h2⟩
end
section
open L2
variable {M : Cm} {ρ : Rho} {k : D → Prop} {nx bk ct : Rho → Prop} {rt : Sl → Rho → Prop} {tr : TA} {te ta : TE} {i : Nat}
/-- what is raised within a frame is taken by W -/
def WOk (M : Cm) (W : WX) (kx : Xc → Rho → Prop) : Prop := ∀ (ρ' : Rho) (σ : L2.St) F H cls d x, Fr M ρ' σ F H → RX M.K M.C M.st F cls d x → kx x ρ' → W cls d σ H
/-- the frame's own end -/
theorem wok_end {E : XK} {kx : Xc → Prop} (h : ∀ cls d x F' H', XE M.st M.F0 M.H0 F' H' → RX M.K M.C M.st F' cls d x → kx x → E cls d H') : WOk M (fun cls d _ H => E cls d H) (fun x _ => kx x) := fun _ _ F H cls d x e r q => h cls d x F H e.x r q
theorem we_callX {c : CtX} {W : WX} {kx : Xc → Rho → Prop} (hW : WOk M W kx) (h : WA M tr ρ fun ds => c ds k fun x => kx x ρ) : G.WE M (tCallS (spDX M.K M.C c) (L2.WE W) tr) ρ k := fun σ F H Q e f => h σ F H _ e fun vs ds F1 H1 x1 r1 hc =>
  ⟨M.st, F1, ds, _, _, x1.gd, r1, hc, fun v d F' H' x2 r2 q => f v d F' H' (x1.trans x2) r2 q, fun cls d x F' H' x2 r2 q => hW ρ σ F' H' cls d x ((e.step x1).step x2) r2 q⟩
/-- raise X('text') -/
theorem ws_raise0 {W : WX} {kx : Xc → Rho → Prop} {c : Addr} (hW : WOk M W kx) (h : kx ⟨c, [], []⟩ ρ) : WS M (fun _ σ H => W (.ref c) none σ H) ρ nx rt bk ct := fun σ F H _ e _ _ _ _ => hW ρ σ F H _ _ _ e .no h
/-- self.f = thing behind Base.__init__ -/
def spXI (K : PySem.W.Frag) (f : Str) : Sp := fun vs H Q _ => ∃ a C y, vs = [.ref a, y] ∧ OexC K C ∧ PySem.W.findIn K (.ref C) f = some none ∧ H a = some (exo a C none) ∧ ∀ dx, H dx = none → dx ≠ a → Q .non (upd (upd H dx (exd dx [(f, y)])) a (exo a C (some dx)))
/-- raise X(thing) -/
theorem ws_raise1 {W : WX} {kx : Xc → Rho → Prop} {c : Addr} {f : Str} (T : OexC M.K c) (hn : PySem.W.findIn M.K (.ref c) f = some none) (hW : WOk M W kx) (h : G.WE M te ρ fun y => kx ⟨c, [f], [y]⟩ ρ) : WS M (fun _ σ H => tMkO c (spXI M.K f) [] (tCons te tNil) σ H fun cls d H' => W cls d σ H') ρ nx rt bk ct := fun σ F H _ e _ _ _ _ => h σ F H _ e fun v y F1 H1 x1 r1 q => by
  refine ⟨by show 1 ≤ 1000; decide, fun a na => ⟨a, c, v, rfl, T, hn, upd_same, fun dx ndx ne => ⟨rfl, dx, [(f, v)], upd_same, ?_, ?_, ?_⟩⟩⟩
  · rw [upd_ne ne]; exact upd_same
  · rw [upd_ne ne] at ndx; exact ndx
  · have n1 : H1 dx = none := by rw [upd_ne ne] at ndx; exact ndx
    have eq : upd (L2.del (upd (upd (upd H1 a (exo a c none)) dx (exd dx [(f, v)])) a (exo a c (some dx))) a) dx (.xd [(f, v)]) = upd H1 dx (.xd [(f, v)]) := by
      funext b
      by_cases z : b = dx
      · subst z; rw [upd_same, upd_same]
      · rw [upd_ne z, upd_ne z]
        by_cases z2 : b = a
        · subst z2; rw [L2.del_same, na]
        · rw [L2.del_ne z2, upd_ne z2, upd_ne z, upd_ne z2]
    rw [eq]
    have x2 : XM M F1 H1 (upd F1 dx (.xd [(f, v)])) (upd H1 dx (.xd [(f, v)])) := (XE.refl x1.gd).new n1
    exact hW ρ σ _ _ _ _ _ ((e.step x1).step x2) (.fs (vs := [v]) upd_same rfl (.cons (R.mono x2.ff r1) .nil)) q
/-- data alone in the slots -/
def plainR (ρ : Rho) : Bool := ρ.all fun o => match o with
  | none => true
  | some (.d _) => true
  | _ => false
theorem Fr.re {σ : L2.St} {F H : Hp} (pl : plainR ρ = true) (e : Fr M ρ σ F H) : Fr ⟨M.K, M.C, M.st, F, H⟩ ρ σ F H := by
  have key : ∀ (i : Nat) s, ρ[i]? = some (some s) → ∃ d, s = .d d := fun i s h => by
    have := List.all_eq_true.mp pl _ (List.mem_of_getElem? h)
    cases s with
    | d x => exact ⟨x, rfl⟩
    | _ => cases this
  refine ⟨XE.refl e.gd, e.len, fun i s h => ?_, fun a b s t _ ha _ ma _ => ?_⟩
  · obtain ⟨v, h1, h2⟩ := e.each i s h
    obtain ⟨d, rfl⟩ := key i s h
    exact ⟨v, h1, h2⟩
  · obtain ⟨d, rfl⟩ := key a s ha
    cases ma
theorem Fr.base {σ : L2.St} {F1 H1 F H : Hp} (x : XM M M.F0 M.H0 F1 H1) (e : Fr ⟨M.K, M.C, M.st, F1, H1⟩ ρ σ F H) : Fr M ρ σ F H :=
  ⟨x.trans e.x, e.len, fun i s h => by
    obtain ⟨v, h1, h2⟩ := e.each i s h
    exact ⟨v, h1, SR.base x.ext.hh h2⟩, e.dist⟩
/-- the suite of a clause with a name -/
def WH (M : Cm) (i : Nat) (c : Value) (ts : Addr → Value → Option Addr → TS) (kx : Xc → Rho → Prop) (nx : Rho → Prop) (rt : Sl → Rho → Prop) (bk ct : Rho → Prop) : Prop :=
  ∀ x ρ', kx x ρ' → PySem.W.exmOne M.K (.ref x.cls) c = some true ∧ ∀ a d, WS M (ts a (.ref x.cls) d) (ρ'.set i (some (.d (.exc a d x.ns x.l)))) (fun ρ2 => nx (ρ2.set i none)) rt (fun ρ2 => bk (ρ2.set i none)) (fun ρ2 => ct (ρ2.set i none))
theorem wh_run {ts : Addr → Value → Option Addr → TS} {c : Value} {kx : Xc → Rho → Prop} {σ : L2.St} {F H : Hp} {E : Ends} (e : Fr M ρ σ F H) (hx : WH ⟨M.K, M.C, M.st, F, H⟩ i c ts kx nx rt bk ct)
    (f1 : ∀ ρ' σ' F' H', Same F F' → Fr M ρ' σ' F' H' → nx ρ' → E.nx σ' H') (f2 : ∀ v s ρ' σ' F' H', Fr M ρ' σ' F' H' → SR M F' H' v s → rt s ρ' → E.rt v H') (f3 : ∀ ρ' σ' F' H', Same F F' → Fr M ρ' σ' F' H' → bk ρ' → E.bk σ' H') (f4 : ∀ ρ' σ' F' H', Same F F' → Fr M ρ' σ' F' H' → ct ρ' → E.ct σ' H')
    {ρ' : Rho} {σ' : L2.St} {F' H' : Hp} {cls : Value} {d : Option Addr} {x : Xc} (e' : Fr ⟨M.K, M.C, M.st, F, H⟩ ρ' σ' F' H') (r : RX M.K M.C M.st F' cls d x) (q : kx x ρ') : PySem.W.exmOne M.K cls c = some true ∧ ∀ a, H' a = none → ts a cls d ⟨fun σ' H' => E.nx (σ'.set i none) H', E.rt, fun σ' H' => E.bk (σ'.set i none) H', fun σ' H' => E.ct (σ'.set i none) H'⟩ (σ'.set i (some (.ref a))) H' := by
  obtain ⟨h1, h2⟩ := hx x ρ' q
  obtain ⟨rfl, _⟩ := r.exc (a := 0)
  refine ⟨h1, fun a _ => ?_⟩
  have sm : Same F F' := e'.x.ff
  refine h2 a d _ F' H' _ (e'.put (r.exc (a := a)).2) (fun ρ2 σ2 F2 H2 s2 e2 z => ?_) (fun v s ρ2 σ2 F2 H2 e2 rs z => ?_) (fun ρ2 σ2 F2 H2 s2 e2 z => ?_) (fun ρ2 σ2 F2 H2 s2 e2 z => ?_)
  · exact f1 _ _ F2 H2 (sm.trans s2) (Fr.base e.x (e2.drop i)) z
  · exact f2 v s ρ2 σ2 F2 H2 (Fr.base e.x e2) (SR.base e.x.ext.hh rs) z
  · exact f3 _ _ F2 H2 (sm.trans s2) (Fr.base e.x (e2.drop i)) z
  · exact f4 _ _ F2 H2 (sm.trans s2) (Fr.base e.x (e2.drop i)) z
/-- try: .. except x as n: .. (others), x's clause taking it -/
theorem ws_tryF {tb : WX → TS} {ts : Addr → Value → Option Addr → TS} {c : Value} (kx : Xc → Rho → Prop) (pl : plainR ρ = true)
    (hb : ∀ F1 H1 W, WOk ⟨M.K, M.C, M.st, F1, H1⟩ W kx → WS ⟨M.K, M.C, M.st, F1, H1⟩ (tb W) ρ nx rt bk ct) (hx : ∀ F1 H1, WH ⟨M.K, M.C, M.st, F1, H1⟩ i c ts kx nx rt bk ct) : WS M (fun D σ H => tb (wFst M.K c i ts D) D σ H) ρ nx rt bk ct := fun σ F H E e f1 f2 f3 f4 =>
  hb F H _ (fun ρ' σ' F' H' cls d x e' r q => wh_run e (hx F H) f1 f2 f3 f4 e' r q) σ F H E (e.re pl) (fun ρ' σ' F' H' s e' => f1 ρ' σ' F' H' s (Fr.base e.x e')) (fun v s ρ' σ' F' H' e' r => f2 v s ρ' σ' F' H' (Fr.base e.x e') (SR.base e.x.ext.hh r)) (fun ρ' σ' F' H' s e' => f3 ρ' σ' F' H' s (Fr.base e.x e')) (fun ρ' σ' F' H' s e' => f4 ρ' σ' F' H' s (Fr.base e.x e'))
/-- try: .. except x as n: .., alone -/
theorem ws_tryA {tb : WX → TS} {ts : Addr → Value → Option Addr → TS} {c : Value} {Wout : WX} (kx : Xc → Rho → Prop) (pl : plainR ρ = true)
    (hb : ∀ F1 H1 W, WOk ⟨M.K, M.C, M.st, F1, H1⟩ W kx → WS ⟨M.K, M.C, M.st, F1, H1⟩ (tb W) ρ nx rt bk ct) (hx : ∀ F1 H1, WH ⟨M.K, M.C, M.st, F1, H1⟩ i c ts kx nx rt bk ct) : WS M (fun D σ H => tb (wAs M.K c i ts Wout D) D σ H) ρ nx rt bk ct := fun σ F H E e f1 f2 f3 f4 =>
  hb F H _ (fun ρ' σ' F' H' cls d x e' r q => by
    obtain ⟨h1, h2⟩ := wh_run e (hx F H) f1 f2 f3 f4 e' r q
    exact ⟨true, h1, fun _ => h2, fun z => nomatch z⟩) σ F H E (e.re pl) (fun ρ' σ' F' H' s e' => f1 ρ' σ' F' H' s (Fr.base e.x e')) (fun v s ρ' σ' F' H' e' r => f2 v s ρ' σ' F' H' (Fr.base e.x e') (SR.base e.x.ext.hh r)) (fun ρ' σ' F' H' s e' => f3 ρ' σ' F' H' s (Fr.base e.x e')) (fun ρ' σ' F' H' s e' => f4 ρ' σ' F' H' s (Fr.base e.x e'))
/-- e.f -/
theorem we_xf {a C : Addr} {cls : Value} {d : Option Addr} {f : Str} (hc : cls = .ref C) (h : G.WE M te ρ fun y => ∃ ns l dv, y = .exc a d ns l ∧ lkp ns l f = some dv ∧ k dv) : G.WE M (tXf a cls d C f te) ρ k := fun σ F H Q e g => h σ F H _ e fun v y F1 H1 x1 r1 ⟨ns, l, dv, z, hv, q⟩ => by
  subst z
  cases r1 with
  | exc0 => cases hv
  | @exc _ dd _ vs _ h1 h2 h3 =>
    have key : ∀ {ns : List Str} {vs : List V} {l : List D}, ns.length = vs.length → RL M F1 vs l → lkp ns l f = some dv → ∃ u, (ns.zip vs).lookup f = some u ∧ RV M F1 u dv := by
      intro ns
      induction ns with
      | nil => intro vs l _ _ hz; cases hz
      | cons n ns ih =>
        intro vs l hl hr hz
        cases hr with
        | nil => cases hl
        | @cons u us b bs ru rus =>
          unfold lkp at hz
          rw [List.zip_cons_cons, List.lookup_cons]
          by_cases w : n = f
          · rw [if_pos w] at hz
            cases hz
            rw [show (f == n) = true by rw [w]; exact beq_self_eq_true _]
            exact ⟨u, rfl, ru⟩
          · rw [if_neg w] at hz
            rw [show (f == n) = false from beq_eq_false_iff_ne.mpr (Ne.symm w)]
            exact ih (by simpa using hl) rus hz
    obtain ⟨u, hu, ru⟩ := key h2 h3 hv
    exact ⟨rfl, hc, dd, _, u, rfl, x1.gd.sub _ _ h1, hu, g u dv F1 H1 x1 ru q⟩
end
end G

namespace G
open PySem PySem.Spec PyProof.Rows L2
/-! ### methods that may raise; own exception classes with an __init__ -/
def tMethW (C : Addr) (m : Str) (sp : Sp) (E : L2.St → XK) (ta : TE) (t : TA) : TE := fun σ H Q => ta σ H fun x H1 => ∃ a dx fs, x = .ref a ∧ H1 a = some (.ins C dx fs) ∧ fs.lookup m = none ∧ t σ H1 fun vs H2 => sp (x :: vs) H2 Q (E σ)
section
variable {X : Cx} {W : WX} {k : Nat} {C : Addr} {m x : Str} {ps : List Str} {sp : Sp} {o e : Expr} {es : List Expr} {ta : TE} {t : TA} {apos pos p : Pos} {pl : Sem Bool}
theorem pe_dmx (D : DefMX X.prog X.w X.K X.mg X.base k C m ps sp) (hr : Room k X.A) (hc : Cls X.K C) (tk : Takes X W) (ho : PE X o ta) (ha : PA X (e :: es) t) (he : starEach (e :: es) X.env = (false, eval e X.env) :: starEach es X.env := by rfl)
    (hpl : (backTo pos (starEach es X.env)).any (·.1) = false := by rfl)
    (hm : eval ((o.Attribute m apos).Call (e :: es) [] pos) X.env = (do
      let ov ← eval o X.env
      standAt apos.atName
      let x ← holding [ov] (getMethod ov m pl)
      match x with
        | (f, first) => callWith pos f first (backTo pos (starEach (e :: es) X.env)) (backToKw pos (keywordEach [] X.env))) := by rfl) :
    PE X ((o.Attribute m apos).Call (e :: es) [] pos) (tMethW C m sp (L2.WE W) ta t) := by
  obtain ⟨f, fd, F, b, mt⟩ := D.ex
  refine ⟨fun pins s σ H Q I h => ?_⟩
  refine PySem.W.methodCall_KW (pl := pl) (thn (ho.run pins s σ H _ I h) fun u s1 ⟨x, H1, I1, rx, a, dx, fs, ex, ea, l, q⟩ => ?_) hm
  subst ex
  obtain rfl : u = Value.ref a := rx
  refine getmeth_ok I1 ea hc mt l ?_
  refine PySem.W.callWith_K (first := [.ref a]) (h₀ := X.base) I.ok.mod.kin mt.kp (thn (ha.run pos pins s1 σ H1 _ I1 q) fun us s2 ⟨vs, H2, I2, r, q2⟩ => ⟨I2.kIn, ?_⟩) he hpl
  exact run_fnS (us := .ref a :: us) (vs := .ref a :: vs) (E := L2.WE W) F hr b (passAt tk σ) I2 (.cons rfl r) q2
def tTryF (K : PySem.W.Frag) (c : Value) (i : Nat) (ts : Addr → Value → Option Addr → TS) (tb : WX → TS) : TS := fun D σ H => tb (wFst K c i ts D) D σ H
theorem ps_tryF {c : Value} {i : Nat} {n : Str} {bd st : List Stmt} {s0 : Stmt} {q1 q2 q3 : Pos} {more : List ExceptHandler} {tb : WX → TS} {ts : Addr → Value → Option Addr → TS} (e1 : X.stack = X.env :: X.outer) (e2 : X.env.frame = some X.env.locals) (nd : X.N.Nodup) (e3 : X.N[i]? = some n) (e4 : X.env.kindOf n = some .local) (nm : Names X x c)
    (hb : ∀ (W : WX) (pn : List (Addr × Obj)) (xe : Value → Shared → Prop), Takes (X.tr pn xe) W → PassesOwn (model X.prog X.w) X.A X.env xe → PSs (X.tr pn xe) bd (tb W))
    (hh : ∀ (a : Addr) (oe : Obj) (cls : Value) (d : Option Addr) (pn : List (Addr × Obj)), Zc cls d oe → (∃ vs, oe.data = .fields vs) → PSs (X.suite a ((a, oe) :: pn)) (s0 :: st) (ts a cls d)) :
    PS X (.Try bd (.ExceptHandler (some (.Name x q1)) (some n) (s0 :: st) q2 :: more) [] [] q3) (tTryF X.K c i ts tb) := ps_try_first e1 e2 nd e3 e4 nm hb hh
/-- an own exception class with an __init__ that keeps a promise -/
structure DefE (P : Program) (w : World) (K : PySem.W.Frag) (mg : Str → Option Value) (base : Heap) (k : Nat) (C : Addr) (x : Str) (ps : List Str) (sp : Sp) : Prop where
  ex : ∃ f fd, FnOk P w K mg base CX0 k f fd ps sp ∧ Binds K fd ps [] ∧ PySem.W.findIn K (.ref C) "__init__" = some (some (.ref f)) ∧ PySem.W.typeIn K (.ref f) = some (.type "function") ∧ OexC K C
  gP : mg x = some (.ref C)
theorem pmk_de (D : DefE X.prog X.w X.K X.mg X.base k C x ps sp) (hr : Room (k + 1) X.A) (hg : Gl X x) (ha : PA X (e :: es) t)
    (hdb : (x == ("__debug__" : Str)) = false := by decide) (he : starEach (e :: es) X.env = (false, eval e X.env) :: starEach es X.env := by rfl) (hpl : (backTo pos (starEach es X.env)).any (·.1) = false := by rfl) :
    PMk X (.Call (.Name x p) (e :: es) [] pos) (tMkO C sp [] t) := by
  obtain ⟨f, fd, F, b, h1, h2, T⟩ := D.ex
  exact pmk_oex T h1 h2 F hr b .nil pass0 hg D.gP ha hdb he hpl
end
section
variable {M : Cm} {ρ : Rho} {k : D → Prop} {nx bk ct : Rho → Prop} {rt : Sl → Rho → Prop} {tr : TA} {te ta : TE} {i : Nat}
/-- a method that may raise -/
theorem we_methW {m : Str} {c : CtX} {W : WX} {kx : Xc → Rho → Prop} (hW : WOk M W kx) (hm : [("hard" : Str), "places", "told", "heavy", "meets"].contains m = false) (h : G.WE M ta ρ fun d => ∃ B, d = .bench B ∧ WA M tr ρ fun ds => c (d :: ds) k fun x => kx x ρ) : G.WE M (tMethW M.C m (spDX M.K M.C c) (L2.WE W) ta tr) ρ k := fun σ F H Q e f => by
  refine h σ F H _ e fun v d F1 H1 x1 r1 ⟨B, z, h1⟩ => ?_
  subst z
  cases r1 with
  | bench hb =>
    obtain ⟨dx, l1, l2, l3, l4, g2, _⟩ := hb.ex
    refine ⟨_, dx, _, rfl, x1.gd.sub _ _ g2, fl_noM hm, h1 σ F1 H1 _ (e.step x1) fun vs ds F2 H2 x2 r2 hc => ?_⟩
    exact ⟨M.st, F2, .bench B :: ds, _, _, x2.gd, .cons (.bench (hb.mono x2.ff)) r2, hc, fun v d F' H' x3 r3 q => f v d F' H' ((x1.trans x2).trans x3) r3 q, fun cls d x F' H' x3 r3 q => hW ρ σ F' H' cls d x (((e.step x1).step x2).step x3) r3 q⟩
theorem ws_tryL {tb : WX → TS} {ts : Addr → Value → Option Addr → TS} {c : Value} (kx : Xc → Rho → Prop) (pl : plainR ρ = true)
    (hb : ∀ F1 H1 W, WOk ⟨M.K, M.C, M.st, F1, H1⟩ W kx → WS ⟨M.K, M.C, M.st, F1, H1⟩ (tb W) ρ nx rt bk ct) (hx : ∀ F1 H1, WH ⟨M.K, M.C, M.st, F1, H1⟩ i c ts kx nx rt bk ct) : WS M (tTryF M.K c i ts tb) ρ nx rt bk ct := ws_tryF kx pl hb hx
end
/-- what the written part says of an own class over ValueError with an __init__ -/
def oexIn (K : PySem.W.Frag) (C : Addr) : Bool := match K.lookup C with
  | some ⟨.type "type", _, .cls cd, sl⟩ => (match cd.mro, sl.toList with
    | .ref C' :: bm, [_, _, _, _, some (.builtin n), _] => C' == C && n == "ValueError.__new__" && !cd.hasDel && cd.hasDict && PySem.HandSPX.refsVE bm
    | _, _ => false)
  | _ => false
theorem oex_cls {K : PySem.W.Frag} {C : Addr} (q : oexIn K C = true) : ∃ nm q N bs bm sn sub ab col dd k0 k1 k2 k3 k5, K.lookup C = some (excClassObj nm q C N bs bm true sn sub ab col dd k0 k1 k2 k3 k5 "ValueError.__new__") ∧ PySem.HandSPX.refsVE bm = true := by
  unfold oexIn at q
  split at q
  · rename_i dd cd sl ho
    split at q
    · rename_i C' bm k0 k1 k2 k3 n k5 hm hs
      simp only [Bool.and_eq_true, beq_iff_eq, Bool.not_eq_true'] at q
      obtain ⟨⟨⟨⟨rfl, rfl⟩, hdel⟩, hd⟩, ht⟩ := q
      obtain ⟨nm, bs, mro, ns, qn, hdd, sn, sub, ab, col, del⟩ := cd
      dsimp only at hm hdel hd
      subst hm hdel hd
      have hsl : sl = #[k0, k1, k2, k3, some (.builtin "ValueError.__new__"), k5] := by
        obtain ⟨l⟩ := sl
        simp only at hs
        rw [hs]
      subst hsl
      exact ⟨nm, qn, ns, bs, bm, sn, sub, ab, col, dd, k0, k1, k2, k3, k5, ho, ht⟩
    · cases q
  · cases q
end G

namespace G
open PySem PySem.Spec PyProof.Rows L2
/-! ### try .. except x as n: .., alone; isinstance of what is caught; a row of ints as a tuple -/
def tTryA (K : PySem.W.Frag) (c : Value) (i : Nat) (ts : Addr → Value → Option Addr → TS) (Wout : WX) (tb : WX → TS) : TS := fun D σ H => tb (wAs K c i ts Wout D) D σ H
section
variable {X : Cx} {x n : Str} {c : Value} {i : Nat} {bd st : List Stmt} {s0 : Stmt} {q1 q2 q3 : Pos} {tb : WX → TS} {ts : Addr → Value → Option Addr → TS} {Wout : WX}
theorem ps_tryA (e1 : X.stack = X.env :: X.outer) (e2 : X.env.frame = some X.env.locals) (nd : X.N.Nodup) (e3 : X.N[i]? = some n) (e4 : X.env.kindOf n = some .local) (nm : Names X x c) (tk : Takes X Wout)
    (hb : ∀ (W : WX) (pn : List (Addr × Obj)) (xe : Value → Shared → Prop), Takes (X.tr pn xe) W → PassesOwn (model X.prog X.w) X.A X.env xe → PSs (X.tr pn xe) bd (tb W))
    (hh : ∀ (a : Addr) (oe : Obj) (cls : Value) (d : Option Addr) (pn : List (Addr × Obj)), Zc cls d oe → (∃ vs, oe.data = .fields vs) → PSs (X.suite a ((a, oe) :: pn)) (s0 :: st) (ts a cls d)) :
    PS X (.Try bd [.ExceptHandler (some (.Name x q1)) (some n) (s0 :: st) q2] [] [] q3) (tTryA X.K c i ts Wout tb) := ps_try_as e1 e2 nd e3 e4 nm tk hb hh
theorem k_isX {K : PySem.W.Frag} {a : Addr} {cls : Value} {d : Option Addr} {oe : Obj} {pn : List (Addr × Obj)} (h : X.K = K) (hz : Zc cls d oe) (hf : ∃ vs, oe.data = .fields vs) : CallR (X.suite a ((a, oe) :: pn)) (.builtin "isinstance") (rIsX K cls d a) := by
  subst h
  exact call_isX hz hf
end
section
variable {M : Cm} {ρ : Rho} {k : D → Prop} {nx bk ct : Rho → Prop} {rt : Sl → Rho → Prop} {tr : TA} {te ta : TE} {i : Nat}
theorem ws_tryB {tb : WX → TS} {ts : Addr → Value → Option Addr → TS} {c : Value} {Wout : WX} (kx : Xc → Rho → Prop) (pl : plainR ρ = true)
    (hb : ∀ F1 H1 W, WOk ⟨M.K, M.C, M.st, F1, H1⟩ W kx → WS ⟨M.K, M.C, M.st, F1, H1⟩ (tb W) ρ nx rt bk ct) (hx : ∀ F1 H1, WH ⟨M.K, M.C, M.st, F1, H1⟩ i c ts kx nx rt bk ct) : WS M (tTryA M.K c i ts Wout tb) ρ nx rt bk ct := ws_tryA kx pl hb hx
/-- a fresh list is told -/
theorem ws_retO (h : WO M te ρ fun l => rt (.own l) ρ) : WS M (tRet te) ρ nx rt bk ct := fun σ F H E e f1 f2 f3 f4 => h σ F H _ e fun p vs l F1 H1 x1 h1 h2 h3 h4 q =>
  f2 (.ref p) (.own l) ρ σ F1 H1 (e.step x1) ⟨p, vs, rfl, h1, h2, e.x.ext.hh.free h3, h4⟩ q
/-- what f tells of its own is told on -/
theorem ws_retC {c : CtS} {E : XK} (h : WA M tr ρ fun ds => c ds fun s => rt s ρ) : WS M (tRet (tCall (spDS M.K M.C c) [] E tr)) ρ nx rt bk ct := fun σ F H E e f1 f2 f3 f4 => h σ F H _ e fun vs ds F1 H1 x1 r1 hc => by
  rw [List.append_nil]
  exact ⟨M.st, F1, ds, _, x1.gd, r1, hc, fun v s F' H' x rs q => f2 v s ρ σ F' H' ((e.step x1).step x) (SR.base (e.x.trans x1).ext.hh rs) q⟩
/-- isinstance(e, N), e what is caught -/
theorem we_isX {a N D0 : Addr} {d : Option Addr} {cls : Value} {b : Bool} (hc : cls = .ref D0) (xk : ExcK M.K D0) (hk : PySem.W.kitOne M.K (.ref D0) (.ref N) = some b) (h : G.WE M te ρ fun y => ∃ ns l, y = .exc a d ns l ∧ k (.bl b)) :
    G.WE M (tCB (rIsX M.K cls d a) (tCons te (tCons (tC (.ref N)) tNil))) ρ k := fun σ F H Q e g => h σ F H _ e fun v y F1 H1 x1 r1 ⟨ns, l, z, q⟩ => by
  subst z
  have hv : v = .ref a ∧ (d = none ∨ ∃ dd fs, d = some dd ∧ H1 dd = some (.xd fs)) := by
    cases r1 with
    | exc0 => exact ⟨rfl, .inl rfl⟩
    | exc h1 h2 h3 => exact ⟨rfl, .inr ⟨_, _, rfl, x1.gd.sub _ _ h1⟩⟩
  obtain ⟨rfl, hd⟩ := hv
  exact ⟨D0, hc, xk, hd, .inl ⟨_, _, b, rfl, .own _, hk, g _ _ F1 H1 x1 (.bl b) q⟩⟩
theorem RB.stnT {F H : Hp} {v : V} {ns : List Int} (h : RB M F H v (.stn ns)) : RB M F H v (.tup (ns.map D.int)) := by
  obtain ⟨p, rfl, h1⟩ := h.stn
  exact .inl (.tup (.inl (.inl h1)) (RA.ofInts ns))
theorem op_stnL {r : R2} {ns : List Int} {e : D} (h : OP M r (.tup (ns.map D.int)) e k) : OP M r (.stn ns) e k := fun F H x y Q g rx ry f => h F H x y Q g rx.stnT ry f
theorem op_stnR {r : R2} {ns : List Int} {e : D} (h : OP M r e (.tup (ns.map D.int)) k) : OP M r e (.stn ns) k := fun F H x y Q g rx ry f => h F H x y Q g rx ry.stnT f
end
end G

/-! ## sorted of lists of tuples of ints and of dicts by such, of any length -/
namespace TSO
open PySem PyProof.Rows SrtO TS
def lexL : List Int → List Int → Bool
  | a :: as, b :: bs => if a = b then lexL as bs else decide (a < b)
  | [], _ :: _ => true
  | _, [] => false
theorem lexL_asym : ∀ x y : List Int, lexL x y = true → lexL y x = false
  | [], [], h => by simp [lexL] at h
  | [], b :: y, _ => by simp [lexL]
  | a :: x, [], h => by simp [lexL] at h
  | a :: x, b :: y, h => by
    unfold lexL at h ⊢
    by_cases e : a = b
    · subst e
      rw [if_pos rfl] at h ⊢
      exact lexL_asym x y h
    · rw [if_neg e, decide_eq_true_eq] at h
      rw [if_neg (Ne.symm e), decide_eq_false_iff_not]
      omega
theorem lexL_tr : ∀ x y z : List Int, lexL y x = false → lexL z y = false → lexL z x = false
  | [], _, [], _, _ => by simp [lexL]
  | [], [], c :: z, _, _ => by simp [lexL]
  | [], b :: y, c :: z, _, _ => by simp [lexL]
  | a :: x, [], _, h, _ => by simp [lexL] at h
  | a :: x, b :: y, [], _, h => by simp [lexL] at h
  | a :: x, b :: y, c :: z, h1, h2 => by
    unfold lexL at h1 h2 ⊢
    by_cases e : b = a
    · subst e
      rw [if_pos rfl] at h1
      by_cases f : c = b
      · subst f
        rw [if_pos rfl] at h2 ⊢
        exact lexL_tr x y z h1 h2
      · rw [if_neg f] at h2 ⊢
        exact h2
    · rw [if_neg e, decide_eq_false_iff_not] at h1
      by_cases f : c = b
      · subst f
        rw [if_neg e, decide_eq_false_iff_not]
        exact h1
      · rw [if_neg f, decide_eq_false_iff_not] at h2
        rw [if_neg (by omega), decide_eq_false_iff_not]
        omega
theorem lexL_tot : ∀ x y : List Int, lexL x y = false → lexL y x = false → x = y
  | [], [], _, _ => rfl
  | [], b :: y, h, _ => by simp [lexL] at h
  | a :: x, [], _, h => by simp [lexL] at h
  | a :: x, b :: y, h1, h2 => by
    unfold lexL at h1 h2
    by_cases e : a = b
    · subst e
      rw [if_pos rfl] at h1 h2
      rw [lexL_tot x y h1 h2]
    · rw [if_neg e, decide_eq_false_iff_not] at h1
      rw [if_neg (Ne.symm e), decide_eq_false_iff_not] at h2
      omega
theorem swo_lexL {α : Type} (k : α → List Int) : Swo fun x y => lexL (k x) (k y) := ⟨fun x y => lexL_asym _ _, fun x y z => lexL_tr _ _ _⟩
section
variable {prog : Program} {w : World} {A : Around} {E : Value → Shared → Prop} {s : Shared}
theorem lex_go {Q : Bool → Shared → Prop} {b : Bool} {xs ys : List Value} {ns ms : List Int} (i : Nat) (hx : IntsAre xs ns) (hy : IntsAre ys ms) (hl : ns.length = ms.length) (h : Q (lexL ns ms) s) : PySem.W.KatLex prog w A b false Q (xs.zip ys) i s := by
  induction hx generalizing ys ms i with
  | nil =>
    cases hy with
    | nil => exact PySem.W.kat_nil h
    | cons q u hy => simp at hl
  | @cons p t xs ns hx ih =>
    cases hy with
    | nil => simp at hl
    | @cons q u ys ms hy =>
      have hl' : ns.length = ms.length := by simpa using hl
      show PySem.W.KatLex prog w A b false Q ((Value.int p t, Value.int q u) :: xs.zip ys) i s
      refine PySem.W.kat_cons (wpAny_eqBool_int ?_)
      unfold lexL at h
      by_cases e : p = q
      · subst e
        rw [if_pos rfl] at h
        rw [beq_self_eq_true]
        refine PySem.W.kat_yes ?_
        first
          | exact ih (i + 1) hy hl' h
          | exact ih _ _ (i + 1) hy hl' h
      · rw [if_neg e] at h
        rw [show (p == q) = false from beq_eq_false_iff_ne.mpr e]
        exact PySem.W.kat_no (oneLt_ints _ h)
theorem tup_cmp {vs : List Value} {k : Value → List Int} {d : Nat} (hp : ∀ v ∈ vs, TupInts s.heap v (k v) ∧ (k v).length = d) : SrtO.Cmp prog w A s (tuples' true) (fun p => p.1 ∈ vs) (lt2 fun v u => lexL (k v) (k u)) := by
  intro p q hm hm'
  show wpAny (model prog w) A (keyLt' (tuples' true) p.1 q.1) (fun r s' => s' = s ∧ r = lexL (k p.1) (k q.1)) (fun _ _ => False) s
  obtain ⟨⟨a, xs, e1, ⟨o, ho, hc, n, hdt⟩, i⟩, l1⟩ := hp _ hm
  obtain ⟨⟨a', ys, e2, ⟨o', ho', hc', n', hdt'⟩, i'⟩, l2⟩ := hp _ hm'
  generalize k p.1 = ns at i l1 ⊢
  generalize k q.1 = ms at i' l2 ⊢
  rw [e1, e2]
  refine PySem.W.kat_lt ho hdt ho' hdt' ?_
  have sz : decide (xs.size < ys.size) = false := by
    have l1 := i.length
    have l2 := i'.length
    rw [Array.length_toList] at l1 l2
    exact decide_eq_false (by omega)
  rw [sz]
  exact lex_go 0 i i' (by omega) ⟨rfl, rfl⟩
theorem firsts_of2 {h : Heap} {d : Nat} {k : Value → List Int} (hd : 1 ≤ d) : ∀ vs : List Value, (∀ v ∈ vs, TupInts h v (k v) ∧ (k v).length = d) → ∃ fs, PySem.W.KatTups h vs fs ∧ fs.length = vs.length ∧ ∀ f, f ∈ fs → ∃ n t, f = Value.int n t
  | [], _ => ⟨[], PySem.W.KatTups.nil, rfl, fun f hf => by simp at hf⟩
  | v :: vs, x => by
    obtain ⟨fs, kk, hl, hi⟩ := firsts_of2 hd vs fun u hu => x u (List.mem_cons_of_mem _ hu)
    obtain ⟨⟨a, xs, e1, ⟨o, ho, hc, n, hdt⟩, i⟩, hn⟩ := x v (List.mem_cons_self ..)
    obtain ⟨y, ys, e⟩ : ∃ y ys, xs.toList = y :: ys := by
      cases q : xs.toList with
      | nil =>
        rw [q] at i
        have l := i.length
        rw [List.length_nil, hn] at l
        omega
      | cons y ys => exact ⟨y, ys, rfl⟩
    obtain ⟨m, t, hy⟩ := i.all y (by rw [e]; exact List.mem_cons_self ..)
    subst e1
    refine ⟨y :: fs, PySem.W.KatTups.cons ho hc hdt ?_ kk, by simp [hl], ?_⟩
    · have z := congrArg (fun l : List Value => l[0]?) e
      simpa using z
    · intro f hf
      rcases List.mem_cons.mp hf with rfl | hf
      · exact ⟨m, t, hy⟩
      · exact hi f hf
theorem tups_sortable {a : Addr} {vs : List Value} {k : Value → List Int} {d : Nat} (hd : 1 ≤ d) (h0 : 0 < vs.length) (hp : ∀ v ∈ vs, TupInts s.heap v (k v) ∧ (k v).length = d) (ha : ∀ o, s.heap.get? a = some o → o.cls ≠ .type "tuple") : SortableO prog w A s a vs fun v u => lexL (k v) (k u) := by
  intro h' keep
  have hp' : ∀ v ∈ vs, TupInts h' v (k v) ∧ (k v).length = d := fun v hm => ⟨(hp v hm).1.keeps fun b o e c => keep b o (fun z => by subst z; exact ha o e c) e, (hp v hm).2⟩
  obtain ⟨fs, h1, h2, h3⟩ := firsts_of2 hd vs hp'
  refine ⟨tuples' true, fun Q E hq => ?_, tup_cmp hp'⟩
  refine PySem.W.kat_kind (T := .type "int") h1 (by omega) (fun f hm => ?_) (by rfl) ?_
  · obtain ⟨x, t, rfl⟩ := h3 f hm
    exact PySem.W.Looks.now
  · have e : (Value.type "int" != Value.type "tuple") = true := by first | decide +kernel | rfl | decide
    rw [e]
    exact hq
/-- sorted(l), l a list of tuples of d ints -/
theorem sorted_tupsO {l : Addr} {vs : List Value} {k : Value → List Int} {d : Nat} {Q : Value → Shared → Prop} (hd : 1 ≤ d) (hl : s.heap.IsList l vs.toArray) (hz : vs.length ≤ sizeLine) (hp : ∀ v ∈ vs, TupInts s.heap v (k v) ∧ (k v).length = d)
    (h : ∀ (h' : Heap) (p : Addr) (out : List Value), Srtd (fun v u => lexL (k v) (k u)) out → Stb (fun v u => lexL (k v) (k u)) out vs → (∀ b o, s.heap.get? b = some o → h'.get? b = some o) → s.heap.objs.size ≤ p → (∃ n, h'.get? p = some (seqObj "list" out.toArray n)) → Q (.ref p) { s with heap := h' }) :
    wpAny (model prog w) A (call (.builtin "sorted") [.ref l]) Q E s := by
  refine sorted_ord (swo_lexL k) hl hz (fun h2 h₁ a ha kk => ?_) fun out hs hb => ?_
  · refine tups_sortable (s := { s with heap := h₁ }) hd (by omega) (fun v hm => ⟨(hp v hm).1.keeps fun b o e _ => (kk b o e).2, (hp v hm).2⟩) fun o e => ?_
    have e' : some o = some (seqObj "list" vs.toArray 0) := e.symm.trans ha
    cases e'
    intro c
    exact absurd (Value.type.inj c) (by decide)
  · exact h _ _ out hs hb (fun b o e => sortedAll_old e) (Nat.le_succ _) (sortedAll_at s.heap vs out.toArray)
end
end TSO
namespace L2
open PySem PySem.Spec PyProof.Rows
section
variable {X : Cx} {pins : List (Addr × Obj)} {σ : St} {H : Hp} {s : Shared}
/-- sorted(xs), xs a list of tuples of d ints of any length -/
def rSortTL (K : PySem.W.Frag) : List V → Hp → VK → Prop := fun vs H Q => ∃ (a : Addr) (xs : List V) (k : V → List Int) (d : Nat), vs = [V.ref a] ∧ SqL K H a xs ∧ 1 ≤ d ∧ (∀ x ∈ xs, ∃ t, x = V.ref t ∧ SqT K H t ((k x).map V.int) ∧ (k x).length = d) ∧
  ∀ ys p, SrtO.Srtd (fun x y => TSO.lexL (k x) (k y)) ys → ys.Perm xs → H p = none → Q (.ref p) (upd H p (.lst ys))
theorem tupI_raw2 (I : Inv X pins σ H s) {t : Addr} {ns : List Int} (h : SqT X.K H t (ns.map V.int)) : TS.TupInts s.heap (.ref t) ns := by
  obtain ⟨its, rv, hT, _⟩ := I.tuple h
  exact ⟨t, its.toArray, rfl, hT, by simpa using rv.ints⟩
theorem cr_sortTL : CallR X (.builtin "sorted") (rSortTL X.K) := by
  intro pins s σ H vs us Q I r h
  obtain ⟨a, xs, k, d, rfl, hs, hd, hx, q⟩ := h
  obtain ⟨its, rv, hl, hz⟩ := I.list hs
  obtain ⟨u, rfl, ru⟩ := vals1 r
  obtain rfl : u = Value.ref a := ru
  obtain ⟨e1, e2⟩ := refs_back rv fun x m => by
    obtain ⟨t, e, _⟩ := hx x m
    exact ⟨t, e⟩
  refine TSO.sorted_tupsO (k := fun u => k (backV u)) hd hl.isList (by rw [← rv.length]; exact hz) (fun v hv => ?_) fun h' p out h1 h2 kp hd hn => ?_
  · obtain ⟨t, rfl⟩ := e2 v hv
    have hm : V.ref t ∈ xs := by rw [e1]; exact List.mem_map.mpr ⟨_, hv, rfl⟩
    obtain ⟨t', e, ht, hl⟩ := hx _ hm
    cases e
    exact ⟨tupI_raw2 I ht, hl⟩
  · have h3 : ∀ u ∈ out, ∃ a, u = Value.ref a := fun u hu => e2 u (h2.perm.mem_iff.mp hu)
    obtain ⟨n, hn⟩ := hn
    have hb : (out.map backV).Perm xs := by
      rw [e1]
      exact h2.perm.map backV
    refine ⟨.ref p, upd H p (.lst (out.map backV)), I.laid (t' := s.toks) kp hd ⟨?_, out, n, vals_back h3, hn⟩, rfl, q _ p (SrtO.srtd_map h1) hb (I.hok.fresh hd)⟩
    rw [hb.length_eq]
    exact hz
/-- sorted(d), d a dict by tuples of n ints -/
def rSortTD : List V → Hp → VK → Prop := fun vs H Q => ∃ (a : Addr) (nss : List (List Int)) (us : List V) (d : Nat), vs = [V.ref a] ∧ Rd H a (.dT ((nss.map fun ns => ns.map (Sum.inl : Int → Key)).zip us)) ∧ nss.length = us.length ∧ 1 ≤ d ∧ (∀ ns ∈ nss, ns.length = d) ∧
  ∀ (mss : List (List Int)) (bs : List Addr) p, mss.Pairwise (fun x y => TSO.lexL y x = false) → mss.Perm nss → Paired (fun (ms : List Int) (b : Addr) => H b = some (.tup (ms.map V.int))) mss bs → H p = none → Q (.ref p) (upd H p (.lst (bs.map V.ref)))
end
end L2

namespace L2
open PySem PySem.Spec PyProof.Rows
section
variable {X : Cx} {H : Hp}
theorem keyPaired {kf : Value → List Int} {H : Hp} : ∀ {nss : List (List Int)} {us : List V} {ks : List (List Key × Addr × Value)}, nss.length = us.length →
    Paired (fun (p : List Key × V) (q : List Key × Addr × Value) => p.1 = q.1 ∧ H q.2.1 = some (.tup (p.1.map kV)) ∧ RelV p.2 q.2.2) ((nss.map fun ns => ns.map (Sum.inl : Int → Key)).zip us) ks →
    (∀ b ns, H b = some (.tup (ns.map V.int)) → kf (.ref b) = ns) → (∀ x ∈ ks, ∃ ns, ns ∈ nss ∧ H x.2.1 = some (.tup (ns.map V.int))) ∧ ks.map (fun x => kf (.ref x.2.1)) = nss
  | [], [], _, _, h, _ => by cases h; exact ⟨fun x hx => (List.not_mem_nil hx).elim, rfl⟩
  | [], _ :: _, _, hl, _, _ => by simp at hl
  | _ :: _, [], _, hl, _, _ => by simp at hl
  | ns :: nss, u :: us, ks, hl, h, f => by
    cases h with
    | @cons _ b _ bs h1 h2 =>
      obtain ⟨e1, e2, _⟩ := h1
      have hb : H b.2.1 = some (.tup (ns.map V.int)) := by rw [e2, List.map_map]; rfl
      obtain ⟨g1, g2⟩ := keyPaired (kf := kf) (by simpa using hl) h2 f
      refine ⟨fun x hx => ?_, ?_⟩
      · rcases List.mem_cons.mp hx with rfl | hx
        · exact ⟨ns, List.mem_cons_self, hb⟩
        · obtain ⟨ms, m1, m2⟩ := g1 x hx
          exact ⟨ms, List.mem_cons_of_mem _ m1, m2⟩
      · rw [List.map_cons, g2, f _ _ hb]
theorem paired_map {H : Hp} {kf : Value → List Int} : ∀ {out : List Value}, (∀ v ∈ out, ∃ b, v = .ref b ∧ H b = some (.tup ((kf v).map V.int))) → ∃ bs : List Addr, out = bs.map Value.ref ∧ Paired (fun (ms : List Int) (b : Addr) => H b = some (.tup (ms.map V.int))) (out.map kf) bs
  | [], _ => ⟨[], rfl, .nil⟩
  | v :: out, h => by
    obtain ⟨b, rfl, hb⟩ := h v List.mem_cons_self
    obtain ⟨bs, rfl, p⟩ := paired_map (out := out) fun u hu => h u (List.mem_cons_of_mem _ hu)
    exact ⟨b :: bs, rfl, .cons hb p⟩
theorem cr_sortTD (hc : X.calm = true) : CallR X (.builtin "sorted") rSortTD := by
  intro pins s σ H vs us Q I r h
  obtain ⟨a, nss, ws, d, rfl, hd, hl, h1, hn, q⟩ := h
  obtain ⟨u, rfl, rx⟩ := vals1 r
  obtain rfl : u = Value.ref a := rx
  obtain ⟨z, hs, ks, pr, o, es, ep, ho, hx, hdt, he, hnd⟩ := (show ObjOk X.prog X.w H s.heap a (.dT _) from hd.ok I.hok)
  have l1 : es.size = ks.length := size_of_entries he
  have l2 := Paired.length pr
  have kfI : ∀ b ns, H b = some (.tup (ns.map V.int)) → TS.TupInts s.heap (.ref b) ns := fun b ns hb => tupI_raw2 I (.inl (.inl hb))
  obtain ⟨k1, k2⟩ := keyPaired (kf := TS.intsOf s.heap) hl pr fun b ns hb => (kfI b ns hb).ints
  have hz : es.size ≤ sizeLine := by omega
  refine Calls.call_function_entry PyProof.Rows.kind_sorted PyProof.Rows.plain_sorted PyProof.Rows.entry_sorted (PyProof.Rows.args_sorted1 _) ?_
  unfold Builtin.«sorted»
  refine wpAny_bind (m := checkCount "sorted" 1 1 _) (wpAny_pure ?_)
  refine wpAny_bind (PySem.W.kdu_collect (A := X.A.in1) (kdl_raw hs hx hdt) (I.ok.hd hc) ho hz fun h' tk acc hk hacc => ?_)
  have ea : acc.toList = ks.map fun x => Value.ref x.2.1 := by
    have hl : acc.toList.length = ks.length := by rw [Array.length_toList, hacc.1]; exact l1
    apply List.ext_getElem?
    intro j
    rw [List.getElem?_map]
    cases hj : acc.toList[j]? with
    | none =>
      have h1 := List.getElem?_eq_none_iff.mp hj
      rw [List.getElem?_eq_none (by omega)]
      all_goals rfl
    | some v =>
      obtain ⟨en, hen, hv⟩ := hacc.2 j v (by rw [← Array.getElem?_toList]; exact hj)
      have qe := entry_at he j
      rw [hen] at qe
      cases hb : ks[j]? with
      | none =>
        rw [hb] at qe
        exact nomatch (show some en = none from qe)
      | some b =>
        rw [hb] at qe
        have e2 : en = entryOfKey (tupleKind (mixKind X.prog X.w)) b := Option.some.inj qe
        rw [hv, e2]
        all_goals rfl
  have hal : acc.toList.length = es.size := by rw [ea, List.length_map, l1]
  have hT : ∀ v ∈ acc.toList, ∃ b, v = .ref b ∧ H b = some (.tup ((TS.intsOf s.heap v).map V.int)) ∧ (TS.intsOf s.heap v).length = d := fun v hv => by
    rw [ea] at hv
    obtain ⟨x, hx, rfl⟩ := List.mem_map.mp hv
    obtain ⟨ns, n1, n2⟩ := k1 x hx
    rw [(kfI _ _ n2).ints]
    exact ⟨_, rfl, n2, hn _ n1⟩
  have I1 : Inv X pins σ H { s with heap := h', toks := tk } := I.kept hk
  refine wpAny_bind (wpAny_newList ?_ (by omega))
  have hoL : (h'.push (seqObj "list" acc.toList.toArray 0)).get? h'.objs.size = some (seqObj "list" acc.toList.toArray 0) := Heap.get?_push_size _ rfl
  show wpAny _ _ _ _ _ { s with heap := h'.push (seqObj "list" acc.toList.toArray 0), toks := tk }
  refine wpAny_bind (wpAny_holding (wpAny_call_entry PyProof.Rows.slot_list_sort ⟨_, hoL, rfl⟩ PyProof.Rows.entry_list_sort
    (SrtO.list_sort_ord (s := { s with heap := h'.push (seqObj "list" acc.toList.toArray 0), toks := tk }) (TSO.swo_lexL (TS.intsOf s.heap)) hoL (by omega) (fun h2 => TSO.tups_sortable h1 (by omega) (fun v hv => ?_) fun o' e => ?_) fun out hs1 hb1 => ⟨_, rfl, ?_⟩)
    (PyProof.Rows.args_list_sort _)))
  · obtain ⟨b, rfl, hb, hd'⟩ := hT v hv
    exact ⟨(kfI b _ hb).keeps fun c o2 g1 _ => Heap.get?_push_of_some _ (hk c o2 g1), hd'⟩
  · have e' : some o' = some (seqObj "list" acc.toList.toArray 0) := e.symm.trans hoL
    cases e'
    intro c
    exact absurd (Value.type.inj c) (by decide)
  · obtain ⟨e', he'⟩ := PyProof.Rows.sortedHeap_at (vs := acc.toList) (out := out.toArray) hoL
    obtain ⟨bs, eb, pb⟩ := paired_map (H := H) (kf := TS.intsOf s.heap) (out := out) fun v hv => by
      obtain ⟨b, e1, e2, _⟩ := hT v (hb1.perm.mem_iff.mp hv)
      exact ⟨b, e1, e2⟩
    have hlen : (bs.map V.ref).length ≤ sizeLine := by
      have := hb1.perm.length_eq
      rw [eb, List.length_map] at this
      rw [List.length_map]
      omega
    refine wpAny_pure ⟨_, rfl, .ref h'.objs.size, upd H h'.objs.size (.lst (bs.map V.ref)), I1.laid (t' := tk) (fun b u e => ?_) (Nat.le_refl _)
      (show ObjOk X.prog X.w _ _ _ (.lst (bs.map V.ref)) from ⟨hlen, out, e', by rw [eb]; exact vals_refs bs, he'⟩), rfl, q (out.map (TS.intsOf s.heap)) bs _ (List.pairwise_map.mpr hs1) ?_ pb (I1.hok.fresh (Nat.le_refl _))⟩
    · have hb : b < h'.objs.size := Heap.lt_size e
      rw [PyProof.Rows.sortedHeap_old (Nat.ne_of_lt hb) (by rw [size_push']; exact Nat.lt_succ_of_lt hb)]
      exact Heap.get?_push_of_some _ e
    · have := hb1.perm.map (TS.intsOf s.heap)
      rw [ea, List.map_map] at this
      exact this.trans (List.Perm.of_eq k2)
end
end L2
namespace G
open PySem PySem.Spec PyProof.Rows L2
abbrev rSortedW (K : PySem.W.Frag) : List V → Hp → VK → Prop := fun vs H Q => rSortedV K vs H Q ∨ rSortTL K vs H Q ∨ rSortTD vs H Q
theorem k_sortedW {X : Cx} {K : PySem.W.Frag} (h : X.K = K) (hc : X.calm = true) : CallR X (.builtin "sorted") (rSortedW K) := by
  subst h
  exact cr_or (k_sortedV rfl hc) (cr_or cr_sortTL (cr_sortTD hc))
section
variable {M : Cm} {ρ : Rho} {k : D → Prop} {ka : List D → Prop} {l : List D}
theorem cro_sortW1 {ds : List D} (h : CRO M (rSortedV M.K) ds ka) : CRO M (rSortedW M.K) ds ka := cro_orL h
abbrev lexS (mss : List (List Int)) : Prop := mss.Pairwise fun x y => TSO.lexL y x = false
theorem lexS_uniq {a b : List (List Int)} (h1 : lexS a) (h2 : lexS b) (p : a.Perm b) : a = b := by
  refine List.Perm.eq_of_pairwise (le := fun x y => TSO.lexL y x = false) (fun x y _ _ g1 g2 => TSO.lexL_tot _ _ g2 g1) h1 h2 p
/-- the addresses' tuples frozen -/
theorem frz_tups {F H : Hp} : ∀ {mss : List (List Int)} {bs : List Addr} {F1 : Hp}, XM M F H F1 H → Paired (fun (ms : List Int) (b : Addr) => Dl M.st H b = some (.tup (ms.map V.int))) mss bs → ∃ F', XM M F H F' H ∧ Same F1 F' ∧ RL M F' (bs.map V.ref) (mss.map D.stn)
  | _, _, F1, x, .nil => ⟨F1, x, Same.refl _, .nil⟩
  | _, _, F1, x, @Paired.cons _ _ _ ms b _ _ hb h2 => by
    have x1 : XM M F H (upd F1 b (.tup (ms.map V.int))) H := x.tup hb
    obtain ⟨F', x2, s2, r2⟩ := frz_tups x1 h2
    refine ⟨F', x2, ?_, .cons (.stn (s2 _ _ upd_same)) r2⟩
    refine Same.trans (fun c o q => ?_) s2
    by_cases z : c = b
    · subst z
      have := x.ext.fh c o q
      rw [hb] at this
      rw [upd_same]
      exact this
    · rw [upd_ne z]
      exact q
theorem paired_dl {st : Option Addr} {H : Hp} (g : StG st H) : ∀ {mss : List (List Int)} {bs : List Addr}, Paired (fun (ms : List Int) (b : Addr) => H b = some (.tup (ms.map V.int))) mss bs → Paired (fun (ms : List Int) (b : Addr) => Dl st H b = some (.tup (ms.map V.int))) mss bs
  | _, _, .nil => .nil
  | _, _, .cons h t => .cons (Dl_tup g h) (paired_dl g t)
theorem cro_sortTD {nss : List (List Int)} {d : Nat} (hd : 1 ≤ d) (hn : ∀ ns ∈ nss, ns.length = d) (q : ∀ mss : List (List Int), mss.Perm nss → lexS mss → ka (mss.map D.stn)) : CRO M (rSortedW M.K) [.dit (nss.map fun ns => ns.map Sum.inl) l] ka := fun F H vs Q g rr f => by
  obtain ⟨v, rfl, r⟩ := rbs1 rr
  obtain ⟨p, us, rfl, h1, h2, h3⟩ := r.dit g
  refine .inr (.inr ⟨p, nss, us, d, rfl, .inl h1, by simpa using h2, hd, hn, fun mss bs p' hs hp hb np => ?_⟩)
  obtain ⟨F', x1, s1, r1⟩ := frz_tups (M := M) (XE.refl g) (paired_dl g.ok hb)
  exact f p' _ _ F' _ (x1.mut np) (by rw [Dl_upd (g.ok.ne np)]; exact upd_same) (sub_none x1.gd.sub np) (Dl_none np) r1 (q mss hp hs)
def tupOf (H : Hp) (v : V) : List Int := match v with
  | .ref a => match H a with
    | some (.tup xs) => xs.map fun u => match u with
      | .int i => i
      | _ => 0
    | _ => []
  | _ => []
theorem tupOf_eq {H : Hp} {a : Addr} {ns : List Int} (h : H a = some (.tup (ns.map V.int))) : tupOf H (.ref a) = ns := by
  unfold tupOf
  simp only [h, List.map_map]
  rw [show ((fun u : V => match u with | .int i => i | _ => 0) ∘ V.int) = id from rfl, List.map_id]
theorem RL.stns {F : Hp} : ∀ {vs : List V} {nss : List (List Int)}, RL M F vs (nss.map D.stn) → vs.map (tupOf F) = nss ∧ ∀ v ∈ vs, ∃ t, v = .ref t ∧ F t = some (.tup ((tupOf F v).map V.int)) ∧ tupOf F v ∈ nss
  | [], [], _ => ⟨rfl, fun v hv => (List.not_mem_nil hv).elim⟩
  | [], _ :: _, h => by cases h
  | _ :: _, [], h => by cases h
  | v :: vs, ns :: nss, h => by
    cases h with
    | cons h1 h2 =>
      obtain ⟨e, g⟩ := RL.stns h2
      cases h1 with
      | stn ha =>
        have := tupOf_eq ha
        refine ⟨by rw [List.map_cons, e, this], fun u hu => ?_⟩
        rcases List.mem_cons.mp hu with rfl | hu
        · rw [this]
          exact ⟨_, rfl, ha, List.mem_cons_self⟩
        · obtain ⟨t, g1, g2, g3⟩ := g u hu
          exact ⟨t, g1, g2, List.mem_cons_of_mem _ g3⟩
theorem RL.ofStns {F : Hp} : ∀ {vs : List V}, (∀ v ∈ vs, ∃ t, v = .ref t ∧ F t = some (.tup ((tupOf F v).map V.int))) → RL M F vs ((vs.map (tupOf F)).map D.stn)
  | [], _ => .nil
  | v :: vs, h => by
    obtain ⟨t, e, ht⟩ := h v List.mem_cons_self
    refine .cons ?_ (RL.ofStns fun u hu => h u (List.mem_cons_of_mem _ hu))
    rw [e] at ht ⊢
    exact .stn ht
theorem cro_sortTL {nss : List (List Int)} {d : Nat} (hd : 1 ≤ d) (hn : ∀ ns ∈ nss, ns.length = d) (q : ∀ mss : List (List Int), mss.Perm nss → lexS mss → ka (mss.map D.stn)) : CRO M (rSortedW M.K) [.lst (nss.map D.stn)] ka := fun F H vs Q g rr f => by
  obtain ⟨v, rfl, r⟩ := rbs1 rr
  obtain ⟨p, us, rfl, h1, h2⟩ := r.lst g
  obtain ⟨e, hu⟩ := RL.stns h2
  refine .inr (.inl ⟨p, us, tupOf F, d, rfl, h1, hd, fun x hx => ?_, fun ys p' hs hp np => ?_⟩)
  · obtain ⟨t, e1, e2, e3⟩ := hu x hx
    exact ⟨t, e1, .inl (.inl (g.sub _ _ e2)), hn _ e3⟩
  · have r2 : RL M F ys ((ys.map (tupOf F)).map D.stn) := RL.ofStns fun v hv => by
      obtain ⟨t, e1, e2, _⟩ := hu v (hp.mem_iff.mp hv)
      exact ⟨t, e1, e2⟩
    exact cro_new g r2 np (q _ (by rw [← e]; exact hp.map _) (List.pairwise_map.mpr hs)) f
end
end G

namespace G
open PySem PySem.Spec PyProof.Rows L2
/-! ## defs that change a dict by tuples that they are handed (their last argument) -/
abbrev CtM := List D → List (List Key) → List D → (D → List (List Key) → List D → Prop) → Prop
def spDM (K : PySem.W.Frag) (C : Addr) (c : CtM) : Sp := fun vs H Q _ => ∃ st F ds ks us l p k vs0, vs = vs0 ++ [V.ref p] ∧ Gd st F H ∧ RA K C st F vs0 ds ∧ Dl st H p = some (.dT (ks.zip us)) ∧ ks.length = us.length ∧ F p = none ∧ RA K C st F us l ∧ c ds ks l k ∧
  ∀ v d ks' us' l' F' H', XE st F (del H p) F' H' → R K C st F' v d → Dl st H' p = some (.dT (ks'.zip us')) → ks'.length = us'.length → F' p = none → RA K C st F' us' l' → k d ks' l' → Q v H'
theorem Dl_del {st : Option Addr} {H : Hp} {p : Addr} : Dl st (del H p) = del (Dl st H) p := by
  cases st with
  | none => rfl
  | some a =>
    show del (del H p) a = del (del H a) p
    funext b
    unfold del
    by_cases h1 : b = a <;> by_cases h2 : b = p <;> simp [h1, h2]
theorem XE.delL {st : Option Addr} {F H : Hp} {p : Addr} (g : Gd st F H) (fp : F p = none) : XE st F (del H p) F H := by
  refine ⟨⟨?_, Same.refl F, g.fh, fun b o _ _ h => h⟩, g.ok⟩
  rw [Dl_del]
  exact del_sub
def startM (N : List Str) (ds : List D) (p : Addr) (ks : List (List Key)) (us : List V) (l : List D) : Rho := ds.map (fun d => some (Sl.d d)) ++ some (Sl.lk p (.dT (ks.zip us)) us l) :: List.replicate (N.length - ds.length - 1) none
theorem fr_startM {K : PySem.W.Frag} {C : Addr} {st : Option Addr} {F H : Hp} {N : List Str} {vs us : List V} {ds l : List D} {p : Addr} {ks : List (List Key)} (g : Gd st F H) (r : RA K C st F vs ds) (h1 : Dl st H p = some (.dT (ks.zip us))) (fp : F p = none) (r2 : RA K C st F us l) (hN : ds.length < N.length) : Fr ⟨K, C, st, F, del H p⟩ (startM N ds p ks us l) (start N (vs ++ [.ref p])) F H := by
  have key : ∀ (i : Nat) s, (startM N ds p ks us l)[i]? = some (some s) → (∃ d, s = .d d ∧ ds[i]? = some d) ∨ (i = ds.length ∧ s = .lk p (.dT (ks.zip us)) us l) := fun i s h => by
    unfold startM at h
    by_cases z : i < ds.length
    · rw [List.getElem?_append_left (by simpa using z), List.getElem?_map, List.getElem?_eq_getElem z] at h
      cases h
      exact .inl ⟨_, rfl, List.getElem?_eq_getElem z⟩
    · rw [List.getElem?_append_right (by simpa using z), List.length_map] at h
      by_cases y : i = ds.length
      · subst y
        rw [Nat.sub_self] at h
        cases h
        exact .inr ⟨rfl, rfl⟩
      · obtain ⟨m, hm⟩ : ∃ m, i - ds.length = m + 1 := ⟨i - ds.length - 1, by omega⟩
        rw [hm, List.getElem?_cons_succ, List.getElem?_replicate] at h
        split at h
        · cases h
        · cases h
  refine ⟨XE.delL g fp, by simp [L2.start, startM, r.len]; omega, fun i s h => ?_, fun i j s t ne h1 h2 m1 m2 => ?_⟩
  · unfold L2.start
    rcases key i s h with ⟨d, rfl, hd⟩ | ⟨rfl, rfl⟩
    · obtain ⟨v, g1, g2⟩ := r.get hd
      have z : i < vs.length := (List.getElem?_eq_some_iff.mp g1).1
      rw [List.getElem?_append_left (by rw [List.length_map, List.length_append]; omega), List.getElem?_map, List.getElem?_append_left z, g1]
      exact ⟨v, rfl, g2⟩
    · rw [List.getElem?_append_left (by rw [List.length_map, List.length_append, r.len]; simp), List.getElem?_map, List.getElem?_append_right (by rw [r.len]; exact Nat.le_refl _), r.len, Nat.sub_self]
      refine ⟨.ref p, rfl, rfl, h1, rfl, fp, ?_, r2⟩
      show Dl st (del H p) p = none
      rw [Dl_del]
      exact del_same
  · rcases key i s h1 with ⟨d, rfl, _⟩ | ⟨rfl, rfl⟩
    · cases m1
    · rcases key j t h2 with ⟨d, rfl, _⟩ | ⟨rfl, rfl⟩
      · cases m2
      · exact (ne rfl).elim
section
variable {P : Program} {w : World} {K : PySem.W.Frag} {mg : Str → Option Value} {base : Heap} {C : Addr}
theorem FunAt.defDM {x : Str} {st : Stmt} {N ps : List Str} {n : Nat} {c : CtM} (F : FunAt K mg x st ps) (S : FnScope N ps (defScope st)) (len : ∀ ds ks l k, c ds ks l k → ds.length + 1 = ps.length) (hN : ps.length ≤ N.length)
    (hbody : ∀ (f : Addr) (cdv : Value) (A : Around) (outer : List Env) (s : Shared) (H : Hp) (E : XK) (sa : Option Addr) (F H0 : Hp) (ds : List D) (ks : List (List Key)) (us : List V) (l : List D) (p : Addr) (k : D → List (List Key) → List D → Prop), Room n (A.deeper (envOfC x (defScope st) s.heap.objs.size f cdv)) → ks.length = us.length → c ds ks l k →
      ∃ t, PSs (cxOf CX0 P w K mg base N x (defScope st) f cdv A outer s H E).nox (defBody st) t ∧ WS ⟨K, C, sa, F, H0⟩ t (startM N ds p ks us l) (fun _ => False) (fun sl ρ' => ∃ d ks' us' l', sl = .d d ∧ ρ'[ds.length]? = some (some (.lk p (.dT (ks'.zip us')) us' l')) ∧ ks'.length = us'.length ∧ k d ks' l') (fun _ => False) (fun _ => False)) : Def P w K mg base (n + 1) x ps (spDM K C c) := by
  refine F.def S (fun vs H Q E h => ?_) fun f cdv A outer s H vs Q E hr h => ?_
  · obtain ⟨st, F, ds, ks, us, l, p, k, vs0, rfl, _, r, _, _, _, _, hc, _⟩ := h
    rw [List.length_append, r.len]
    exact len ds ks l k hc
  · obtain ⟨st, F, ds, ks, us, l, p, k, vs0, rfl, g, r, h1, h2, fp, r2, hc, q⟩ := h
    obtain ⟨t, t1, t2⟩ := hbody f cdv A outer s H E st F (del H p) ds ks us l p k hr h2 hc
    refine ⟨t, t1, t2 _ F H _ (fr_startM g r h1 fp r2 (by have := len ds ks l k hc; omega)) (fun _ _ _ _ _ _ z => z.elim) (fun v sl ρ' σ' F' H' e rs hq => ?_) (fun _ _ _ _ _ _ z => z.elim) (fun _ _ _ _ _ _ z => z.elim)⟩
    obtain ⟨d, ks', us', l', rfl, hs, h3, hk⟩ := hq
    obtain ⟨u, _, _, g2, _, g3, _, g4⟩ := e.each _ _ hs
    exact q v d ks' us' l' F' H' e.x rs g2 h3 g3 g4 hk
end
section
variable {M : Cm} {ρ : Rho} {k : D → Prop} {ka : List D → Prop} {nx bk ct : Rho → Prop} {rt : Sl → Rho → Prop} {te ta tb ty tv : TE} {tr : TA} {i j : Nat} {l : List D} {p : Addr} {vs : List V} {ks : List (List Key)}
theorem wb_lkT (h : ρ[i]? = some (some (.lk p (.dT (ks.zip vs)) vs l))) (hl : ks.length = vs.length) (q : k (.dit ks l)) : WB M (tVar i) ρ k := fun σ F H Q e f => by
  obtain ⟨v, h1, rfl, h2, h3, h4, h5, h6⟩ := e.each i _ h
  exact ⟨_, h1, f _ _ F H (XE.refl e.gd) (.inr (.inr (.inr ⟨p, ks, vs, l, rfl, rfl, h2, hl, h6⟩))) q⟩
theorem ws_dputLk (hx : ρ[i]? = some (some (.lk p (.dT (ks.zip vs)) vs l))) (h9 : ks.length = vs.length) (h : WE M tv ρ fun d => WE M ty ρ fun y => ∃ ns : List Int, y = .stn ns ∧ ks.length < 100000 ∧ ∀ vs', (putKs ks (ns.map (Sum.inl : Int → Key))).length = vs'.length → nx (ρ.set i (some (.lk p (.dT ((putKs ks (ns.map (Sum.inl : Int → Key))).zip vs')) vs' (putDs ks l (ns.map (Sum.inl : Int → Key)) d))))) : WS M (sDPut (tVar i) ty tv) ρ nx rt bk ct := fun σ F H E e f1 f2 f3 f4 => by
  refine h σ F H _ e fun v d F1 H1 x1 r1 h1 => ?_
  have e1 := e.step x1
  obtain ⟨v', h2, rfl, h3, hm, h4, h5, h6⟩ := e1.each i _ hx
  refine ⟨_, h2, h1 σ F1 H1 _ e1 fun w d2 F2 H2 x2 r2 ⟨ns, z, hl, q⟩ => ?_⟩
  subst z
  obtain ⟨b, rfl, hb⟩ := (show RB M F2 H2 w (.stn ns) from .inl r2).stn
  have e2 := e1.step x2
  have h3' := x2.ext.hh _ _ h3
  have h4' := x2.ext.fr p _ h3 rfl h4
  have h6' := RA.mono x2.ff h6
  refine ⟨p, _, rfl, DPut.t (k := ns.map Sum.inl) (Dl_sub _ _ h3') (by rw [List.map_map]; exact x2.gd.sub _ _ hb) (Nat.lt_of_lt_of_le (show (ks.zip vs).length < 100000 by rw [List.length_zip]; omega) (by decide)), ?_⟩
  rw [putK_zip ks vs _ v h9]
  exact f1 _ σ F2 _ (x1.trans x2).ff (e2.chg hx rfl h2 h3' h4' h5 (s1 := .lk _ _ _ _) ⟨rfl, by rw [Dl_upd (Dl_ne h3')]; exact upd_same, rfl, h4', h5, RL.put (r1.mono x2.ff) h6'⟩) (q _ (putKs_len _ _ _ _ h9))
/-- beside a change at one of one's own things -/
theorem Fr.hand {σ : L2.St} {F H F' H' : Hp} {s0 s1 : Sl} (e : Fr M ρ σ F H) (hj : ρ[j]? = some (some s0)) (m0 : s0.mine = true) (hv : σ[j]? = some (some (.ref p))) (h0 : Dl M.st M.H0 p = none) (fp : F p = none) (x : XE M.st F (del H p) F' H') (r : SR M F' H' (.ref p) s1) : Fr M (ρ.set j (some s1)) σ F' H' ∧ XE M.st M.F0 M.H0 F' H' := by
  have hlen : j < ρ.length := (List.getElem?_eq_some_iff.mp hj).1
  have up : ∀ b o, b ≠ p → Dl M.st H b = some o → Dl M.st (del H p) b = some o := fun b o ne h => by
    rw [Dl_del, del_ne ne]
    exact h
  have xx : XE M.st M.F0 M.H0 F' H' := by
    refine ⟨⟨fun b o h => ?_, e.x.ff.trans x.ff, x.gd.fh, fun b o h ht hf => ?_⟩, x.ok⟩
    · have ne : b ≠ p := fun z => by
        subst z
        rw [h0] at h
        cases h
      exact x.ext.hh _ _ (up b o ne (e.x.ext.hh _ _ h))
    · have ne : b ≠ p := fun z => by
        subst z
        rw [h0] at h
        cases h
      exact x.ext.fr _ _ (up b o ne (e.x.ext.hh _ _ h)) ht (e.x.ext.fr _ _ h ht hf)
  refine ⟨⟨xx, by rw [List.length_set]; exact e.len, fun a s ha => ?_, fun a b s t ne ha hb ma mb => ?_⟩, xx⟩
  · by_cases z : j = a
    · subst z
      rw [List.getElem?_set_self hlen] at ha
      cases ha
      exact ⟨_, hv, r⟩
    · rw [List.getElem?_set_ne z] at ha
      obtain ⟨v, h1, h2⟩ := e.each a s ha
      refine ⟨v, h1, ?_⟩
      have nep : ∀ q, v = .ref q → s.mine = true → q ≠ p := fun q e1 m e2 => by
        subst e1 e2
        exact e.dist j a s0 s z hj ha m0 m (by rw [hv, h1])
      cases s with
      | d d => exact R.mono x.ff h2
      | own l =>
        obtain ⟨q, vs, rfl, a1, a2, a3, a4⟩ := h2
        have := up q _ (nep q rfl rfl) a1
        exact ⟨q, vs, rfl, x.ext.hh _ _ this, x.ext.fr _ _ this rfl a2, a3, a4.mono x.ff⟩
      | ownK ks l =>
        obtain ⟨q, vs, rfl, a1, a5, a2, a3, a4⟩ := h2
        have := up q _ (nep q rfl rfl) a1
        exact ⟨q, vs, rfl, x.ext.hh _ _ this, a5, x.ext.fr _ _ this rfl a2, a3, a4.mono x.ff⟩
      | ownT ks l =>
        obtain ⟨q, vs, rfl, a1, a5, a2, a3, a4⟩ := h2
        have := up q _ (nep q rfl rfl) a1
        exact ⟨q, vs, rfl, x.ext.hh _ _ this, a5, x.ext.fr _ _ this rfl a2, a3, a4.mono x.ff⟩
      | lk q o vs l =>
        obtain ⟨rfl, a1, a5, a2, a3, a4⟩ := h2
        have := up q _ (nep q rfl rfl) a1
        exact ⟨rfl, x.ext.hh _ _ this, a5, x.ext.fr _ _ this a5 a2, a3, a4.mono x.ff⟩
  · have un : ∀ (c : Nat) (s : Sl), (ρ.set j (some s1))[c]? = some (some s) → s.mine = true → ∃ s', ρ[c]? = some (some s') ∧ s'.mine = true := fun c s hc hm => by
      by_cases z : j = c
      · subst z
        exact ⟨_, hj, m0⟩
      · rw [List.getElem?_set_ne z] at hc
        exact ⟨s, hc, hm⟩
    obtain ⟨s', a1, a2⟩ := un a s ha ma
    obtain ⟨t', b1, b2⟩ := un b t hb mb
    exact e.dist a b s' t' ne a1 b1 a2 b2
/-- y = f(a, b, d), d a dict of its own, changed there -/
theorem ws_asgM {c : CtM} {E1 : XK} {l : List D} {ks : List (List Key)} (hj : ρ[j]? = some (some (.ownT ks l))) (h : WE M ta ρ fun d1 => WE M tb ρ fun d2 => c [d1, d2] ks l fun d ks' l' => nx ((ρ.set j (some (.ownT ks' l'))).set i (some (.d d)))) :
    WS M (tAsg (tCall (spDM M.K M.C c) [] E1 (tCons ta (tCons tb (tCons (tVar j) tNil)))) (gName i)) ρ nx rt bk ct := fun σ F H E e f1 f2 f3 f4 => by
  refine h σ F H _ e fun v1 d1 F1 H1 x1 r1 h1 => ?_
  have e1 := e.step x1
  refine h1 σ F1 H1 _ e1 fun v2 d2 F2 H2 x2 r2 hc => ?_
  have e2 := e1.step x2
  obtain ⟨v, g1, p, us, rfl, g2, g3, g4, g5, g6⟩ := e2.each j _ hj
  refine ⟨_, g1, ?_⟩
  refine ⟨M.st, F2, [d1, d2], ks, us, l, p, _, [v1, v2], rfl, e2.gd, .cons (r1.mono x2.ff) (.cons r2 .nil), g2, g3, g4, g6, hc, fun v d ks' us' l' F' H' x r a1 a2 a3 a4 hk => ?_⟩
  obtain ⟨e3, xx⟩ := e2.hand hj rfl g1 g5 g4 x (s1 := .ownT ks' l') ⟨p, us', rfl, a1, a2, a3, g5, a4⟩
  exact f1 _ _ F' H' ((x1.trans x2).ff.trans x.ff) (e3.put r) hk
end
end G

namespace G
open PySem PySem.Spec PyProof.Rows L2
/-! ## wells: lists of three numbers that are drawn from; the third is counted -/
def Wl (o : HO) (x : Int) : Prop := ∃ a b c : Int, o = .lst [.int a, .int b, .int c] ∧ 0 ≤ b ∧ b < 2147483647 ∧ 0 ≤ c ∧ c ≤ x
theorem Wl.mono {o : HO} {x y : Int} (h : Wl o x) (l : x ≤ y) : Wl o y := by
  obtain ⟨a, b, c, h1, h2, h3, h4, h5⟩ := h
  exact ⟨a, b, c, h1, h2, h3, h4, by omega⟩
abbrev wl (p : Addr) (o : HO) : Option Sl := some (.lk p o [] [])
abbrev XD (st : Option Addr) (p : Addr) (F H F' H' : Hp) : Prop := XE st F (del H p) F' H'
theorem dl_del_up {st : Option Addr} {H : Hp} {p b : Addr} {o : HO} (h : Dl st (del H p) b = some o) : b ≠ p ∧ Dl st H b = some o := by
  rw [Dl_del] at h
  by_cases z : b = p
  · rw [z, del_same] at h
    cases h
  · rw [del_ne z] at h
    exact ⟨z, h⟩
theorem dl_del_dn {st : Option Addr} {H : Hp} {p b : Addr} {o : HO} (ne : b ≠ p) (h : Dl st H b = some o) : Dl st (del H p) b = some o := by
  rw [Dl_del, del_ne ne]
  exact h
theorem XD.of {st : Option Addr} {p : Addr} {F H F' H' : Hp} (x : XE st F H F' H') : XD st p F H F' H' :=
  ⟨⟨fun b o h => x.ext.hh _ _ (dl_del_up h).2, x.ff, x.gd.fh, fun b o h ht hf => x.ext.fr _ _ (dl_del_up h).2 ht hf⟩, x.ok⟩
theorem XD.trans {st : Option Addr} {p : Addr} {F H F1 H1 F2 H2 : Hp} (x : XD st p F H F1 H1) (y : XD st p F1 H1 F2 H2) : XD st p F H F2 H2 :=
  ⟨⟨fun b o h => y.ext.hh _ _ (dl_del_dn (dl_del_up h).1 (x.ext.hh _ _ h)), x.ff.trans y.ff, y.gd.fh, fun b o h ht hf => y.ext.fr _ _ (dl_del_dn (dl_del_up h).1 (x.ext.hh _ _ h)) ht (x.ext.fr _ _ h ht hf)⟩, y.ok⟩
theorem XD.at {st : Option Addr} {p b : Addr} {F H F' H' : Hp} {o : HO} (x : XD st p F H F' H') (ne : b ≠ p) (h : Dl st H b = some o) : Dl st H' b = some o := x.ext.hh _ _ (dl_del_dn ne h)
abbrev CtL := List D → Int → (D → Int → Prop) → Prop
def spDL (K : PySem.W.Frag) (C : Addr) (c : CtL) : Sp := fun vs H Q _ => ∃ st F ds p o x k vs0, vs = V.ref p :: vs0 ∧ Gd st F H ∧ RA K C st F vs0 ds ∧ Dl st H p = some o ∧ Wl o x ∧ F p = none ∧ c ds x k ∧
  ∀ v d o' x' F' H', Wl o' x' → XD st p F H F' H' → R K C st F' v d → Dl st H' p = some o' → F' p = none → k d x' → Q v H'
def startL (N : List Str) (p : Addr) (o : HO) (ds : List D) : Rho := wl p o :: ds.map (fun d => some (Sl.d d)) ++ List.replicate (N.length - ds.length - 1) none
theorem Wl.nt {o : HO} {x : Int} (h : Wl o x) : isTupO o = false := by
  obtain ⟨a, b, c, rfl, _⟩ := h
  rfl
theorem fr_startL {K : PySem.W.Frag} {C : Addr} {st : Option Addr} {F H : Hp} {N : List Str} {vs : List V} {ds : List D} {p : Addr} {o : HO} {x : Int} (g : Gd st F H) (r : RA K C st F vs ds) (h1 : Dl st H p = some o) (fp : F p = none) (w : Wl o x) (hN : ds.length < N.length) : Fr ⟨K, C, st, F, del H p⟩ (startL N p o ds) (start N (.ref p :: vs)) F H := by
  have key : ∀ (i : Nat) s, (startL N p o ds)[i]? = some (some s) → (i = 0 ∧ s = .lk p o [] []) ∨ ∃ m d, i = m + 1 ∧ s = .d d ∧ ds[m]? = some d := fun i s h => by
    cases i with
    | zero => cases h; exact .inl ⟨rfl, rfl⟩
    | succ m =>
      have h : (ds.map (fun d => some (Sl.d d)) ++ List.replicate (N.length - ds.length - 1) none)[m]? = some (some s) := h
      by_cases z : m < ds.length
      · rw [List.getElem?_append_left (by simpa using z), List.getElem?_map, List.getElem?_eq_getElem z] at h
        cases h
        exact .inr ⟨m, _, rfl, rfl, List.getElem?_eq_getElem z⟩
      · rw [List.getElem?_append_right (by simpa using z), List.getElem?_replicate] at h
        split at h
        · cases h
        · cases h
  refine ⟨XE.delL g fp, by simp [L2.start, startL, r.len]; omega, fun i s h => ?_, fun i j s t ne h1 h2 m1 m2 => ?_⟩
  · unfold L2.start
    rcases key i s h with ⟨rfl, rfl⟩ | ⟨m, d, rfl, rfl, hd⟩
    · refine ⟨.ref p, rfl, rfl, h1, w.nt, fp, ?_, .nil⟩
      show Dl st (del H p) p = none
      rw [Dl_del]
      exact del_same
    · obtain ⟨v, g1, g2⟩ := r.get hd
      have z : m < vs.length := (List.getElem?_eq_some_iff.mp g1).1
      refine ⟨v, ?_, g2⟩
      show (some (V.ref p) :: vs.map some ++ List.replicate (N.length - (V.ref p :: vs).length) none)[m + 1]? = _
      rw [List.cons_append, List.getElem?_cons_succ, List.getElem?_append_left (by simpa using z), List.getElem?_map, g1]
      rfl
  · rcases key i s h1 with ⟨rfl, rfl⟩ | ⟨m, d, rfl, rfl, hd⟩
    · rcases key j t h2 with ⟨rfl, rfl⟩ | ⟨m', d', rfl, rfl, hd'⟩
      · exact (ne rfl).elim
      · cases m2
    · cases m1
section
variable {P : Program} {w : World} {K : PySem.W.Frag} {mg : Str → Option Value} {base : Heap} {C : Addr}
theorem FunAt.defDL {nm : Str} {st : Stmt} {N ps : List Str} {n : Nat} {c : CtL} (F : FunAt K mg nm st ps) (S : FnScope N ps (defScope st)) (len : ∀ ds x k, c ds x k → ds.length + 1 = ps.length) (hN : ps.length ≤ N.length)
    (hbody : ∀ (f : Addr) (cdv : Value) (A : Around) (outer : List Env) (s : Shared) (H : Hp) (E : XK) (sa : Option Addr) (F H0 : Hp) (ds : List D) (p : Addr) (o : HO) (x : Int) (k : D → Int → Prop), Room n (A.deeper (envOfC nm (defScope st) s.heap.objs.size f cdv)) → Wl o x → c ds x k →
      ∃ t, PSs (cxOf CX0 P w K mg base N nm (defScope st) f cdv A outer s H E).nox (defBody st) t ∧ WS ⟨K, C, sa, F, H0⟩ t (startL N p o ds) (fun _ => False) (fun sl ρ' => ∃ d o' x', sl = .d d ∧ ρ'[0]? = some (wl p o') ∧ Wl o' x' ∧ k d x') (fun _ => False) (fun _ => False)) : Def P w K mg base (n + 1) nm ps (spDL K C c) := by
  refine F.def S (fun vs H Q E h => ?_) fun f cdv A outer s H vs Q E hr h => ?_
  · obtain ⟨st, F, ds, p, o, x, k, vs0, rfl, _, r, _, _, _, hc, _⟩ := h
    rw [List.length_cons, r.len]
    exact len ds x k hc
  · obtain ⟨st, F, ds, p, o, x, k, vs0, rfl, g, r, h1, hw, fp, hc, q⟩ := h
    obtain ⟨t, t1, t2⟩ := hbody f cdv A outer s H E st F (del H p) ds p o x k hr hw hc
    refine ⟨t, t1, t2 _ F H _ (fr_startL g r h1 fp hw (by have := len ds x k hc; omega)) (fun _ _ _ _ _ _ z => z.elim) (fun v sl ρ' σ' F' H' e rs hq => ?_) (fun _ _ _ _ _ _ z => z.elim) (fun _ _ _ _ _ _ z => z.elim)⟩
    obtain ⟨d, o', x', rfl, hs, hw', hk⟩ := hq
    obtain ⟨u, _, _, g2, _, g3, _, _⟩ := e.each _ _ hs
    exact q v d o' x' F' H' hw' e.x rs g2 g3 hk
end
/-! ### the judgements, counted -/
section
variable {M : Cm} {ρ : Rho} {j : Nat} {p : Addr} {o : HO} {x : Int}
def CE (M : Cm) (j : Nat) (p : Addr) (t : TE) (ρ : Rho) (k : D → HO → Int → Prop) : Prop := ∀ σ F H Q, Fr M ρ σ F H → (∀ v d o x F' H', Wl o x → Fr M (ρ.set j (wl p o)) σ F' H' → XD M.st p F H F' H' → RV M F' v d → k d o x → Q v H') → t σ H Q
def CA (M : Cm) (j : Nat) (p : Addr) (t : TA) (ρ : Rho) (k : List D → HO → Int → Prop) : Prop := ∀ σ F H Q, Fr M ρ σ F H → (∀ vs ds o x F' H', Wl o x → Fr M (ρ.set j (wl p o)) σ F' H' → XD M.st p F H F' H' → RL M F' vs ds → k ds o x → Q vs H') → t σ H Q
def CO (M : Cm) (j : Nat) (p : Addr) (t : TE) (ρ : Rho) (k : List D → HO → Int → Prop) : Prop := ∀ σ F H Q, Fr M ρ σ F H → (∀ q vs l o x F' H', Wl o x → Fr M (ρ.set j (wl p o)) σ F' H' → XD M.st p F H F' H' → Dl M.st H' q = some (.lst vs) → F' q = none → H q = none → RL M F' vs l → k l o x → Q (.ref q) H') → t σ H Q
def CT (M : Cm) (j : Nat) (p : Addr) (t : TT) (ρ : Rho) (k : Bool → HO → Int → Prop) : Prop := ∀ σ F H Q, Fr M ρ σ F H → (∀ b o x F' H', Wl o x → Fr M (ρ.set j (wl p o)) σ F' H' → XD M.st p F H F' H' → k b o x → Q b H') → t σ H Q
def CI (M : Cm) (j : Nat) (p : Addr) (t : TI) (ρ : Rho) (k : List D → HO → Int → Prop) : Prop := ∀ σ F H Q, Fr M ρ σ F H → (∀ J l o x F' H', Wl o x → Fr M (ρ.set j (wl p o)) σ F' H' → XD M.st p F H F' H' → Dw M J l F' → k l o x → Q J H') → t σ H Q
theorem wl_set (hj : ρ[j]? = some (wl p o)) : ρ.set j (wl p o) = ρ := by
  refine List.ext_getElem? fun i => ?_
  rw [List.getElem?_set]
  by_cases z : j = i
  · subst z
    rw [if_pos rfl, if_pos (List.getElem?_eq_some_iff.mp hj).1, hj]
  · rw [if_neg z]
variable {k : D → HO → Int → Prop} {ka : List D → HO → Int → Prop} {kb : Bool → HO → Int → Prop} {nx bk ct : Rho → Prop} {rt : Sl → Rho → Prop} {te ta tb : TE} {tr : TA} {t : TT} {wi : TI} {i : Nat}
theorem CE.of (hj : ρ[j]? = some (wl p o)) (hw : Wl o x) (h : WE M te ρ fun d => k d o x) : CE M j p te ρ k := fun σ F H Q e f => h σ F H Q e fun v d F' H' x1 r q => f v d o x F' H' hw (by rw [wl_set hj]; exact e.step x1) (XD.of x1) r q
theorem CA.of (hj : ρ[j]? = some (wl p o)) (hw : Wl o x) (h : WA M tr ρ fun ds => ka ds o x) : CA M j p tr ρ ka := fun σ F H Q e f => h σ F H Q e fun v d F' H' x1 r q => f v d o x F' H' hw (by rw [wl_set hj]; exact e.step x1) (XD.of x1) r q
theorem CI.of (hj : ρ[j]? = some (wl p o)) (hw : Wl o x) (h : WI M wi ρ fun l => ka l o x) : CI M j p wi ρ ka := fun σ F H Q e f => h σ F H Q e fun J l F' H' x1 r q => f J l o x F' H' hw (by rw [wl_set hj]; exact e.step x1) (XD.of x1) r q
theorem ca_nil (hj : ρ[j]? = some (wl p o)) (hw : Wl o x) (q : ka [] o x) : CA M j p tNil ρ ka := CA.of hj hw (wa_nil q)
theorem ca_cons (h : CE M j p ta ρ fun d o1 x1 => Wl o1 x1 → CA M j p tr (ρ.set j (wl p o1)) fun ds o2 x2 => ka (d :: ds) o2 x2) : CA M j p (tCons ta tr) ρ ka := fun σ F H Q e f =>
  h σ F H _ e fun v d o1 x1 F1 H1 w1 e1 xd1 r1 h1 => h1 w1 σ F1 H1 _ e1 fun vs ds o2 x2 F2 H2 w2 e2 xd2 r2 h2 => f (v :: vs) (d :: ds) o2 x2 F2 H2 w2 (by rw [List.set_set] at e2; exact e2) (xd1.trans xd2) (.cons (r1.mono xd2.ff) r2) h2
theorem c_op {r : R2} (h : CE M j p ta ρ fun d o1 x1 => Wl o1 x1 → CE M j p tb (ρ.set j (wl p o1)) fun e o2 x2 => OP M r d e fun z => k z o2 x2) : CE M j p (tOp r ta tb) ρ k := fun σ F H Q e f =>
  h σ F H _ e fun v d o1 x1 F1 H1 w1 e1 xd1 r1 h1 => h1 w1 σ F1 H1 _ e1 fun u d2 o2 x2 F2 H2 w2 e2 xd2 r2 h2 => h2 F2 H2 v u Q e2.gd (.inl (r1.mono xd2.ff)) (.inl r2) fun z dz F3 H3 x3 rz kz =>
    f z dz o2 x2 F3 H3 w2 (by rw [List.set_set] at e2; exact e2.step x3) ((xd1.trans xd2).trans (XD.of x3)) rz kz
theorem c_un {r : V → Hp → VK → Prop} (h : CE M j p ta ρ fun d o1 x1 => OU M r d fun z => k z o1 x1) : CE M j p (tUn r ta) ρ k := fun σ F H Q e f =>
  h σ F H _ e fun v d o1 x1 F1 H1 w1 e1 xd1 r1 h1 => h1 F1 H1 v Q e1.gd (.inl r1) fun z dz F3 H3 x3 rz kz => f z dz o1 x1 F3 H3 w1 (e1.step x3) (xd1.trans (XD.of x3)) rz kz
theorem RL.bs {F H : Hp} : ∀ {vs : List V} {ds : List D}, RL M F vs ds → RBs M F H vs ds
  | _, _, .nil => .nil
  | _, _, .cons h t => .cons (.inl h) (RL.bs t)
theorem c_cb {r : List V → Hp → VK → Prop} (h : CA M j p tr ρ fun ds o1 x1 => CR M r ds fun z => k z o1 x1) : CE M j p (tCB r tr) ρ k := fun σ F H Q e f =>
  h σ F H _ e fun vs ds o1 x1 F1 H1 w1 e1 xd1 r1 h1 => h1 F1 H1 vs Q e1.gd (RL.bs r1) fun z dz F3 H3 x3 rz kz => f z dz o1 x1 F3 H3 w1 (e1.step x3) (xd1.trans (XD.of x3)) rz kz
theorem c_lst (h : CA M j p tr ρ fun ds o1 x1 => ds.length ≤ 1000 ∧ k (.lst ds) o1 x1) : CE M j p (tLst tr) ρ k := fun σ F H Q e f =>
  h σ F H _ e fun vs ds o1 x1 F1 H1 w1 e1 xd1 r1 ⟨h1, h2⟩ => ⟨Nat.le_trans (by rw [r1.len]; exact h1) (by decide), fun q nq => by
    have x3 : XM M F1 H1 (upd F1 q (.lst vs)) (upd H1 q (.lst vs)) := (XE.refl e1.gd).new nq
    exact f (.ref q) (.lst ds) o1 x1 _ _ w1 (e1.step x3) (xd1.trans (XD.of x3)) (.lst (.inl (.inl upd_same)) (r1.mono x3.ff)) h2⟩
theorem c_tup (h : CA M j p tr ρ fun ds o1 x1 => ds.length ≤ 1000 ∧ k (.tup ds) o1 x1) : CE M j p (tTup tr) ρ k := fun σ F H Q e f =>
  h σ F H _ e fun vs ds o1 x1 F1 H1 w1 e1 xd1 r1 ⟨h1, h2⟩ => ⟨Nat.le_trans (by rw [r1.len]; exact h1) (by decide), fun q nq => by
    have x3 : XM M F1 H1 (upd F1 q (.tup vs)) (upd H1 q (.tup vs)) := (XE.refl e1.gd).new nq
    exact f (.ref q) (.tup ds) o1 x1 _ _ w1 (e1.step x3) (xd1.trans (XD.of x3)) (.tup (.inl (.inl upd_same)) (r1.mono x3.ff)) h2⟩
/-- a call that draws -/
theorem c_call {c : CtL} {E : XK} (hj : ρ[j]? = some (wl p o)) (h : CA M j p tr ρ fun ds o1 x1 => Wl o1 x1 → c ds x1 fun d x2 => ∀ o2, Wl o2 x2 → k d o2 x2) : CE M j p (tCall (spDL M.K M.C c) [] E (tCons (tVar j) tr)) ρ k := fun σ F H Q e f => by
  obtain ⟨v, h1, rfl, _⟩ := e.each j _ hj
  refine s_call ⟨_, h1, h σ F H _ e fun vs ds o1 x1 F1 H1 w1 e1 xd1 r1 hc => ?_⟩
  have hl : j < ρ.length := (List.getElem?_eq_some_iff.mp hj).1
  have hj1 : (ρ.set j (wl p o1))[j]? = some (wl p o1) := List.getElem?_set_self hl
  obtain ⟨v2, g1, rfl, g2, g3, g4, g5, g6⟩ := e1.each j _ hj1
  refine ⟨M.st, F1, ds, p, o1, x1, _, vs, rfl, e1.gd, r1, g2, w1, g4, hc w1, fun v d o' x' F' H' w' xd r a1 a2 hk => ?_⟩
  obtain ⟨e3, _⟩ := e1.hand hj1 rfl g1 g5 g4 xd (s1 := .lk p o' [] []) ⟨rfl, a1, w'.nt, a2, g5, .nil⟩
  rw [List.set_set] at e3
  exact f v d o' x' F' H' w' e3 (xd1.trans xd) r (hk o' w')
theorem c_test (h : CE M j p te ρ fun d o1 x1 => ∃ b, d = .bl b ∧ kb b o1 x1) : CT M j p (tTest te) ρ kb := fun σ F H Q e f => h σ F H _ e fun v d o1 x1 F1 H1 w1 e1 xd1 r1 ⟨b, z, hb⟩ => by
  subst z
  cases r1
  exact ⟨_, rfl, f _ o1 x1 F1 H1 w1 e1 xd1 hb⟩
theorem c_rng1 (h : CA M j p tr ρ fun ds o1 x1 => ∃ m : Int, ds = [.int m] ∧ -1000000 ≤ m ∧ m ≤ 1000000 ∧ ka (rngD m.toNat) o1 x1) : CI M j p (iRng1 tr) ρ ka := fun σ F H Q e f => h σ F H _ e fun vs ds o1 x1 F1 H1 w1 e1 xd1 r1 ⟨m, z, h1, h2, q⟩ => by
  subst z
  cases r1 with | cons ra rb =>
  cases rb
  cases ra
  refine s_rngI ⟨h1, h2⟩ (f _ (rngD m.toNat) o1 x1 F1 H1 w1 e1 xd1 ⟨_, _, by rw [rngD_len]; exact walk_range, fun _ _ _ _ => trivial, fun i x Fa Ha Hb d s g y hd => ?_⟩ q)
  obtain ⟨rfl, rfl⟩ := y
  obtain ⟨_, rfl⟩ := rngD_at hd
  refine ⟨Fa, XE.refl g, ?_⟩
  simp only [Int.zero_add]
  exact .int _
theorem c_seqL (h : CE M j p te ρ fun d o1 x1 => ∃ l, d = .lst l ∧ ka l o1 x1) : CI M j p (iSeq M.K te) ρ ka := fun σ F H Q e f => h σ F H _ e fun v d o1 x1 F1 H1 w1 e1 xd1 r1 ⟨l, z, q⟩ => by
  subst z
  cases r1 with
  | @lst a vs _ h1 h2 =>
    refine .inl ⟨a, rfl, ⟨vs, sqL_mono e1.gd.sub h1⟩, f _ l o1 x1 F1 H1 w1 e1 xd1 ⟨_, _, by rw [← h2.len]; exact walk_list, fun F' H' s g => sqL_mono (s.trans g.sub) h1, fun i x Fa Ha Hb d s g y hd => ?_⟩ q⟩
    obtain ⟨rfl, hv⟩ := y
    obtain ⟨d', e1, e2⟩ := h2.at hv
    rw [hd] at e1
    cases e1
    exact ⟨Fa, XE.refl g, e2.mono s⟩
theorem xd_new {st : Option Addr} {F H F1 H1 : Hp} {L : Addr} (xd : XD st p F H F1 H1) (hp : H1 p ≠ none) (g : StG st H) (hL : H1 L = none) : H L = none := by
  cases z : H L with
  | none => rfl
  | some u =>
    exfalso
    by_cases y : L = p
    · subst y
      exact hp hL
    · have dl : Dl st H L = some u := by
        cases st with
        | none => exact z
        | some c =>
          show del H c L = _
          rw [del_ne]
          · exact z
          · intro q
            subst q
            obtain ⟨s, hs, _⟩ := xd.ok _ rfl
            rw [hL] at hs
            cases hs
      have := xd.at y dl
      rw [Dl_none hL] at this
      cases this
/-- a thing that no slot holds is changed -/
theorem Fr.chgL {σ : L2.St} {F H : Hp} {L : Addr} {u u' : HO} (e : Fr M ρ σ F H) (ne : ∀ (a : Nat) s, ρ[a]? = some (some s) → s.mine = true → σ[a]? ≠ some (some (.ref L))) (hL : Dl M.st H L = some u') (h0 : Dl M.st M.H0 L = none) (fL : F L = none) : Fr M ρ σ F (upd H L u) :=
  ⟨e.x.chg hL h0 fL, e.len, fun a s ha => by
    obtain ⟨v, h1, h2⟩ := e.each a s ha
    exact ⟨v, h1, h2.other fL (fun m z => ne a s ha m (by rw [h1, z])) (Dl_ne hL)⟩, e.dist⟩
/-- what is new is held by no slot -/
theorem Fr.off {σ : L2.St} {F H : Hp} {L : Addr} (e : Fr M ρ σ F H) (hL : H L = none) : ∀ (a : Nat) s, ρ[a]? = some (some s) → s.mine = true → σ[a]? ≠ some (some (.ref L)) := fun a s ha m q => by
  obtain ⟨v, h1, h2⟩ := e.each a s ha
  rw [q] at h1
  cases h1
  have no : ∀ {o}, Dl M.st H L = some o → False := fun {o} z => by
    rw [Dl_none hL] at z
    cases z
  cases s with
  | d d => cases m
  | own l =>
    obtain ⟨q, vs, z, a1, _⟩ := h2
    cases z
    exact no a1
  | ownK ks l =>
    obtain ⟨q, vs, z, a1, _⟩ := h2
    cases z
    exact no a1
  | ownT ks l =>
    obtain ⟨q, vs, z, a1, _⟩ := h2
    cases z
    exact no a1
  | lk q o vs l =>
    obtain ⟨z, a1, _⟩ := h2
    cases z
    exact no a1
theorem co_lc {g : TG} {vs : List Nat} (hl : j < ρ.length) (h : CI M j p wi ρ fun l o1 x1 => Wl o1 x1 → l.length < 100000 ∧ ∃ (P : Nat → D → Prop) (X : Nat → Int), x1 ≤ X 0 ∧ (∀ (i : Nat) d o, l[i]? = some d → Wl o (X i) → WG M (· ∈ vs) g d (wipeR (ρ.set j (wl p o)) vs) fun ρ' => CE M j p te ρ' fun d _ x' => x' ≤ X (i + 1) ∧ P i d) ∧
    ∀ m : List D, m.length = l.length → (∀ (i : Nat) d, m[i]? = some d → P i d) → ∀ o', Wl o' (X l.length) → ka m o' (X l.length)) : CO M j p (tLc wi g tYes te vs) ρ ka := fun σ F H Q e f => by
  refine h σ F H _ e fun J l o1 x1 F1 H1 w1 e1 xd1 ⟨G, Y, a1, a2, a3⟩ hh => ?_
  obtain ⟨hn, P, X, hX, hs, hd⟩ := hh w1
  intro L hL
  have nL := e1.x.ok.ne hL
  have fL := sub_none e1.gd.sub hL
  have hj1 : ∀ o, (ρ.set j (wl p o))[j]? = some (wl p o) := fun o => List.getElem?_set_self hl
  obtain ⟨v0, g1, rfl, g2, _, g4, g5, _⟩ := e1.each j _ (hj1 o1)
  have pL : L ≠ p := fun z => by
    subst z
    have := Dl_sub _ _ g2
    rw [hL] at this
    cases this
  have off := e1.off hL
  have off2 : ∀ o (a : Nat) s, (ρ.set j (wl p o))[a]? = some (some s) → s.mine = true → σ[a]? ≠ some (some (.ref L)) := fun o a s ha m => by
    by_cases z : j = a
    · subst z
      rw [g1]
      intro q
      injection q with q
      injection q with q
      injection q with q
      exact pL q.symm
    · rw [List.getElem?_set_ne z] at ha
      exact off a s (by rw [List.getElem?_set_ne z]; exact ha) m
  have h0L : Dl M.st M.H0 L = none := by
    cases z : Dl M.st M.H0 L with
    | none => rfl
    | some u =>
      have := e1.x.ext.hh _ _ z
      rw [Dl_none hL] at this
      cases this
  have dL : Dl M.st (del H1 p) L = none := Dl_none (by rw [del_ne pL]; exact hL)
  refine lc_it a1 (fun i H' => ∃ F' o acc ds, Wl o (X i) ∧ Fr M (ρ.set j (wl p o)) σ F' H' ∧ XD M.st p F1 H1 F' H' ∧ F' L = none ∧ Dl M.st H' L = some (.lst acc) ∧ RL M F' acc ds ∧ ds.length = i ∧ ∀ (j : Nat) d, ds[j]? = some d → P j d) ?_ ?_ ?_ ?_
  · exact ⟨F1, o1, [], [], w1.mono hX, e1.step ((XE.refl e1.gd).mut hL), XD.of ((XE.refl e1.gd).mut hL), fL, by rw [Dl_upd nL]; exact upd_same, .nil, rfl, fun j d hj => by simp at hj⟩
  · rintro i H' _ ⟨F', o, acc, ds, w, e', x, _⟩
    exact a2 F' H' x.ff e'.gd
  · rintro i y H' H2 hi ⟨F', o, acc, ds, w, e', x2, fl, hl', hr, hlen, hP⟩ yy
    have hli : l[i]? = some l[i] := List.getElem?_eq_getElem hi
    obtain ⟨Fb, xb, rb⟩ := a3 i y F' H' H2 _ x2.ff e'.gd yy hli
    have eb := (e'.step xb).wipe vs
    refine hs i _ o hli w y _ Fb H2 _ eb rb fun ρ3 σ3 F3 H3 x3 e3 l3 s3 _ h3 => ⟨wipe_eq (σ := σ) (σ' := σ3) vs (by rw [l3, wipe_length]) s3, ?_⟩
    show te σ3 H3 _
    refine h3 σ3 F3 H3 _ e3 fun v d o' x' F4 H4 w' e4 xd4 r4 ⟨hx', h4⟩ => ?_
    have xd : XD M.st p F' H' F4 H4 := (XD.of xb).trans ((XD.of x3).trans xd4)
    have j3 : j < ρ3.length := by
      rw [← e3.len, l3, wipe_length, e1.len, List.length_set]
      exact hl
    obtain ⟨v3, b1, rfl, b2, b3, b4, b5, _⟩ := e4.each j _ (List.getElem?_set_self j3)
    obtain ⟨e5, _⟩ := e'.hand (hj1 o) rfl g1 g5 (by
      obtain ⟨_, _, _, _, _, c4, _, _⟩ := e'.each j _ (hj1 o)
      exact c4) xd (s1 := .lk p o' [] []) ⟨rfl, b2, w'.nt, b4, g5, .nil⟩
    rw [List.set_set] at e5
    have hl4 := xd.at pL hl'
    have fl4 := xd.ext.fr L _ (dl_del_dn pL hl') rfl fl
    refine ⟨acc, Dl_sub _ _ hl4, Nat.lt_of_lt_of_le (show acc.length < 100000 by rw [hr.len]; omega) (by decide), F4, o', acc ++ [v], ds ++ [d], w'.mono hx', e5.chgL (off2 o') hl4 h0L fl4, (x2.trans xd).chg hl4 dL fl4, fl4, ?_, (hr.mono xd.ff).app (.cons r4 .nil), by simp [hlen], ?_⟩
    · rw [Dl_upd nL]
      exact upd_same
    · intro j dj hj
      by_cases q : j < ds.length
      · rw [List.getElem?_append_left q] at hj
        exact hP j dj hj
      · have : j = ds.length := by
          have := (List.getElem?_eq_some_iff.mp hj).1
          simp at this
          omega
        subst this
        rw [List.getElem?_append_right (Nat.le_refl _)] at hj
        simp at hj
        rw [← hj, hlen]
        exact h4
  · rintro H' ⟨F', o, acc, ds, w, e', x2, fl, hl', hr, hlen, hP⟩
    exact f L acc ds o _ F' H' w e' (xd1.trans x2) hl' fl (xd_new xd1 (by rw [Dl_sub _ _ g2]; exact fun z => nomatch z) e.x.ok hL) hr (hd ds hlen hP o w)
theorem CO.ce (hj0 : ρ[j]? = some (wl p o)) (h : CO M j p te ρ fun l o x => k (.lst l) o x) : CE M j p te ρ k := fun σ F H Q e f => h σ F H Q e fun q vs l o x F' H' w e' xd h1 h2 h3 h4 h5 => by
  have dq : Dl M.st (del H p) q = none := Dl_none (by
    by_cases z : q = p
    · rw [z, del_same]
    · rw [del_ne z]; exact h3)
  have h0 : Dl M.st M.H0 q = none := by
    cases z : Dl M.st M.H0 q with
    | none => rfl
    | some u =>
      have := e.x.ext.hh _ _ z
      rw [Dl_none h3] at this
      cases this
  have e2 : Fr M (ρ.set j (wl p o)) σ (upd F' q (.lst vs)) H' := by
    refine ⟨e'.x.frz h0 h2 h1, e'.len, fun a s ha => ?_, e'.dist⟩
    obtain ⟨v, g1, g2⟩ := e'.each a s ha
    refine ⟨v, g1, ?_⟩
    have ne : ∀ y, v = .ref y → s.mine = true → y ≠ q := fun y z m z2 => by
      subst z z2
      by_cases ja : j = a
      · subst ja
        have hl : j < ρ.length := by
          have := (List.getElem?_eq_some_iff.mp ha).1
          rwa [List.length_set] at this
        rw [List.getElem?_set_self hl] at ha
        cases ha
        obtain ⟨z, c1, _⟩ := g2
        cases z
        obtain ⟨_, _, _, c2, _⟩ := e.each j _ hj0
        have c3 := Dl_sub _ _ c2
        rw [h3] at c3
        cases c3
      · rw [List.getElem?_set_ne ja] at ha
        exact e.off h3 a s ha m g1
    cases s with
    | d y => exact R.mono (same_upd h2) g2
    | own l =>
      obtain ⟨y, vs, rfl, b1, b2, b3, b4⟩ := g2
      exact ⟨y, vs, rfl, b1, by rw [upd_ne (ne y rfl rfl)]; exact b2, b3, b4.mono (same_upd h2)⟩
    | ownK ks l =>
      obtain ⟨y, vs, rfl, b1, b5, b2, b3, b4⟩ := g2
      exact ⟨y, vs, rfl, b1, b5, by rw [upd_ne (ne y rfl rfl)]; exact b2, b3, b4.mono (same_upd h2)⟩
    | ownT ks l =>
      obtain ⟨y, vs, rfl, b1, b5, b2, b3, b4⟩ := g2
      exact ⟨y, vs, rfl, b1, b5, by rw [upd_ne (ne y rfl rfl)]; exact b2, b3, b4.mono (same_upd h2)⟩
    | lk y o vs l =>
      obtain ⟨rfl, b1, b5, b2, b3, b4⟩ := g2
      exact ⟨rfl, b1, b5, by rw [upd_ne (ne y rfl rfl)]; exact b2, b3, b4.mono (same_upd h2)⟩
  exact f (.ref q) (.lst l) o x _ H' w e2 (xd.frz dq h2 h1) (.lst (.inl (.inl upd_same)) (h4.mono (same_upd h2))) h5
/-! ### statements -/
theorem ws_asgC {g : TG} (h : CE M j p te ρ fun d o x => Wl o x → WG M (fun _ => True) g d (ρ.set j (wl p o)) nx) : WS M (tAsg te g) ρ nx rt bk ct := fun σ F H E e f1 f2 f3 f4 => h σ F H _ e fun v d o x F1 H1 w1 e1 xd1 r1 hg => hg w1 v σ F1 H1 _ e1 r1 fun ρ' σ' F' H' x2 e2 _ _ _ q => f1 ρ' σ' F' H' (xd1.ff.trans x2.ff) e2 q
theorem ws_ifC {ts us : TS} (h : CT M j p t ρ fun b o x => Wl o x → if b = true then WS M ts (ρ.set j (wl p o)) nx rt bk ct else WS M us (ρ.set j (wl p o)) nx rt bk ct) : WS M (tIfS t ts us) ρ nx rt bk ct := fun σ F H E e f1 f2 f3 f4 => h σ F H _ e fun b o x F1 H1 w1 e1 xd1 hb => by
  have hb := hb w1
  cases b with
  | true => exact (show WS M ts _ nx rt bk ct from hb) σ F1 H1 E e1 (fun ρ' σ' F' H' s => f1 ρ' σ' F' H' (xd1.ff.trans s)) f2 (fun ρ' σ' F' H' s => f3 ρ' σ' F' H' (xd1.ff.trans s)) (fun ρ' σ' F' H' s => f4 ρ' σ' F' H' (xd1.ff.trans s))
  | false => exact (show WS M us _ nx rt bk ct from hb) σ F1 H1 E e1 (fun ρ' σ' F' H' s => f1 ρ' σ' F' H' (xd1.ff.trans s)) f2 (fun ρ' σ' F' H' s => f3 ρ' σ' F' H' (xd1.ff.trans s)) (fun ρ' σ' F' H' s => f4 ρ' σ' F' H' (xd1.ff.trans s))
theorem ws_retCe (h : CE M j p te ρ fun d o x => Wl o x → rt (.d d) (ρ.set j (wl p o))) : WS M (tRet te) ρ nx rt bk ct := fun σ F H E e f1 f2 f3 f4 => h σ F H _ e fun v d o x F1 H1 w1 e1 xd1 r1 q => f2 v (.d d) _ σ F1 H1 e1 r1 (q w1)
theorem ws_forC {g : TG} {tb : TS} (h : CI M j p wi ρ fun l o x => Wl o x → ∃ I : Nat → Rho → Prop, I 0 (ρ.set j (wl p o)) ∧ (∀ (i : Nat) d ρ', l[i]? = some d → I i ρ' → WG M (fun _ => True) g d ρ' fun ρ2 => WS M tb ρ2 (I (i + 1)) rt nx (I (i + 1))) ∧ ∀ ρ', I l.length ρ' → nx ρ') : WS M (tFor wi g tb) ρ nx rt bk ct := fun σ F H E e f1 f2 f3 f4 =>
  h σ F H _ e fun J l o x F1 H1 w1 e1 xd1 ⟨G, Y, a1, a2, a3⟩ hh => by
    obtain ⟨I, h0, hs, hd⟩ := hh w1
    refine for_w a1 (nx := E.nx) (Q := E.rt) (fun i σ' H' => ∃ ρ' F', Same F1 F' ∧ Fr M ρ' σ' F' H' ∧ I i ρ') ⟨_, F1, Same.refl _, e1, h0⟩ ?_ ?_ ?_
    · rintro i σ' H' _ ⟨ρ', F', s, e', _⟩
      exact a2 F' H' s e'.gd
    · rintro i y σ' H' H2 hi ⟨ρ', F', s, e', hI⟩ yy
      have hl : l[i]? = some l[i] := List.getElem?_eq_getElem hi
      obtain ⟨Fb, xb, rb⟩ := a3 i y F' H' H2 _ s e'.gd yy hl
      refine hs i _ ρ' hl hI y σ' Fb H2 _ (e'.step xb) rb fun ρ2 σ2 F2 H3 x2 e2 _ _ _ h2 => ?_
      refine h2 σ2 F2 H3 ⟨_, _, _, _⟩ e2 (fun ρ3 σ3 F3 H4 s3 e3 h3 => ⟨ρ3, F3, (s.trans (xb.trans x2).ff).trans s3, e3, h3⟩) f2 (fun ρ3 σ3 F3 H4 s3 e3 h3 => f1 ρ3 σ3 F3 H4 (xd1.ff.trans ((s.trans (xb.trans x2).ff).trans s3)) e3 h3) fun ρ3 σ3 F3 H4 s3 e3 h3 => ⟨ρ3, F3, (s.trans (xb.trans x2).ff).trans s3, e3, h3⟩
    · rintro σ' H' ⟨ρ', F', s, e', hI⟩
      exact f1 ρ' σ' F' H' (xd1.ff.trans s) e' (hd ρ' hI)
end
end G

namespace G
open PySem PySem.Spec PyProof.Rows L2
/-! ## expressions that change one's own things -/
section
variable {M : Cm} {ρ : Rho} {j : Nat} {p : Addr} {o : HO} {x : Int}
def Off (ρ : Rho) (σ : L2.St) (L : Addr) : Prop := ∀ (a : Nat) s, ρ[a]? = some (some s) → s.mine = true → σ[a]? ≠ some (some (.ref L))
structure XR (M : Cm) (ρ : Rho) (σ : L2.St) (F H F' H' : Hp) : Prop where
  ff : Same F F'
  keep : ∀ L u, Off ρ σ L → Dl M.st H L = some u → isTupO u = false → F L = none → Dl M.st H' L = some u ∧ F' L = none
def RE (M : Cm) (t : TE) (ρ : Rho) (k : D → Rho → Prop) : Prop := ∀ σ F H Q, Fr M ρ σ F H → (∀ v d ρ' F' H', Fr M ρ' σ F' H' → XR M ρ σ F H F' H' → (∀ L, Off ρ σ L → Off ρ' σ L) → RV M F' v d → k d ρ' → Q v H') → t σ H Q
variable {k : D → Rho → Prop} {nx bk ct : Rho → Prop} {rt : Sl → Rho → Prop} {te ta tb : TE} {tr : TA} {t : TT} {wi : TI} {i : Nat}
theorem XR.of {σ : L2.St} {F H F' H' : Hp} (x : XM M F H F' H') : XR M ρ σ F H F' H' := ⟨x.ff, fun L u _ h ht hf => ⟨x.ext.hh _ _ h, x.ext.fr _ _ h ht hf⟩⟩
theorem re_cb1 {r : List V → Hp → VK → Prop} (h : RE M te ρ fun d ρ' => CR M r [d] fun z => k z ρ') : RE M (tCB r (tCons te tNil)) ρ k := fun σ F H Q e f =>
  h σ F H _ e fun v d ρ' F1 H1 e1 x1 o1 r1 h1 => h1 F1 H1 [v] Q e1.gd (.cons (.inl r1) .nil) fun z dz F3 H3 x3 rz kz => f z dz ρ' F3 H3 (e1.step x3) ⟨x1.ff.trans x3.ff, fun L u ho a b c => by
    obtain ⟨a1, a2⟩ := x1.keep L u ho a b c
    exact ⟨x3.ext.hh _ _ a1, x3.ext.fr _ _ a1 b a2⟩⟩ o1 rz kz
theorem ws_retRE (h : RE M te ρ fun d ρ' => rt (.d d) ρ') : WS M (tRet te) ρ nx rt bk ct := fun σ F H E e f1 f2 f3 f4 => h σ F H _ e fun v d ρ' F1 H1 e1 x1 _ r1 q => f2 v (.d d) ρ' σ F1 H1 e1 r1 q
/-- xs.pop(draw) -/
theorem re_popC {m : List D} (ij : i ≠ j) (hj : ρ[j]? = some (wl p o)) (hi : ρ[i]? = some (some (.own m))) (h : CE M j p te ρ fun d o1 x1 => Wl o1 x1 → MO M rPopAt m [d] fun m' d' => k d' ((ρ.set j (wl p o1)).set i (some (.own m')))) : RE M (tBM M.K "list" rPopAt (tVar i) (tCons te tNil)) ρ k := fun σ F H Q e f => by
  obtain ⟨v, b1, q, us, rfl, b2, b3, b4, b5⟩ := e.each i _ hi
  obtain ⟨v, a1, rfl, a2, a3, a4, a5, _⟩ := e.each j _ hj
  have pq : q ≠ p := fun z => by
    subst z
    exact e.dist i j _ _ ij hi hj rfl rfl (by rw [a1, b1])
  refine ⟨_, b1, tyV_lst (Dl_sub _ _ b2), h σ F H _ e fun w d o1 x1 F1 H1 w1 e1 xd1 r1 g => ?_⟩
  have hi1 : (ρ.set j (wl p o1))[i]? = some (some (.own m)) := by rw [List.getElem?_set_ne (Ne.symm ij)]; exact hi
  obtain ⟨v, c1, q', us', z, c2, c3, c4, c5⟩ := e1.each i _ hi1
  subst z
  rw [b1] at c1
  cases c1
  have hl : j < ρ.length := (List.getElem?_eq_some_iff.mp hj).1
  refine g w1 F1 H1 q us' [w] _ e1.gd c2 c3 c5 (.cons r1 .nil) fun vs' m' v' d' r2 r3 kk => ?_
  have e2 := e1.chg hi1 rfl b1 c2 c3 c4 (s1 := .own m') (o := .lst vs') ⟨q, vs', rfl, by rw [Dl_upd (Dl_ne c2)]; exact upd_same, c3, c4, r2⟩
  refine f v' d' _ F1 _ e2 ⟨xd1.ff, fun L u ho g1 g2 g3 => ?_⟩ (fun L ho => ?_) r3 kk
  · have Lp : L ≠ p := fun z => by subst z; exact ho j _ hj rfl a1
    have Lq : L ≠ q := fun z => by subst z; exact ho i _ hi rfl b1
    have h1 := xd1.at Lp g1
    refine ⟨?_, xd1.ext.fr _ _ (dl_del_dn Lp g1) g2 g3⟩
    rw [Dl_upd (Dl_ne c2), upd_ne Lq]
    exact h1
  · intro a s ha m
    by_cases z : i = a
    · subst z
      rw [b1]
      intro y
      injection y with y
      injection y with y
      injection y with y
      subst y
      exact ho i _ hi rfl b1
    · rw [List.getElem?_set_ne z] at ha
      by_cases z2 : j = a
      · subst z2
        rw [a1]
        intro y
        injection y with y
        injection y with y
        injection y with y
        subst y
        exact ho j _ hj rfl a1
      · rw [List.getElem?_set_ne z2] at ha
        exact ho a s ha m
theorem Fr.unwipe {ρ3 : Rho} {σ σ2 : L2.St} {F H : Hp} {vs : List Nat} (e : Fr M ρ3 σ2 F H) (hl : σ2.length = σ.length) (h : ∀ a : Nat, a ∉ vs → σ2[a]? = σ[a]?) : Fr M (wipeR ρ3 vs) σ F H := by
  have wl2 : ∀ vs : List Nat, (wipeR ρ3 vs).length = ρ3.length := fun vs => by
    induction vs with
    | nil => rfl
    | cons v vs ih => show ((wipeR ρ3 vs).set v none).length = _; rw [List.length_set, ih]
  refine ⟨e.x, by rw [wl2, ← e.len, hl], fun a s ha => ?_, fun a b s t ne ha hb ma mb => ?_⟩
  · obtain ⟨h1, h2⟩ := wipeR_own ha
    obtain ⟨v, g1, g2⟩ := e.each a s h1
    exact ⟨v, by rw [← h a h2]; exact g1, g2⟩
  · obtain ⟨h1, h2⟩ := wipeR_own ha
    obtain ⟨h3, h4⟩ := wipeR_own hb
    rw [← h a h2, ← h b h4]
    exact e.dist a b s t ne h1 h3 ma mb
theorem Fr.frzL {σ : L2.St} {F H : Hp} {L : Addr} {u : HO} (e : Fr M ρ σ F H) (off : Off ρ σ L) (hL : Dl M.st H L = some u) (h0 : Dl M.st M.H0 L = none) (fL : F L = none) : Fr M ρ σ (upd F L u) H := by
  refine ⟨e.x.frz h0 fL hL, e.len, fun a s ha => ?_, e.dist⟩
  obtain ⟨v, g1, g2⟩ := e.each a s ha
  refine ⟨v, g1, ?_⟩
  have ne : ∀ y, v = .ref y → s.mine = true → y ≠ L := fun y z m z2 => by
    subst z z2
    exact off a s ha m g1
  cases s with
  | d y => exact R.mono (same_upd fL) g2
  | own l =>
    obtain ⟨y, vs, rfl, b1, b2, b3, b4⟩ := g2
    exact ⟨y, vs, rfl, b1, by rw [upd_ne (ne y rfl rfl)]; exact b2, b3, b4.mono (same_upd fL)⟩
  | ownK ks l =>
    obtain ⟨y, vs, rfl, b1, b5, b2, b3, b4⟩ := g2
    exact ⟨y, vs, rfl, b1, b5, by rw [upd_ne (ne y rfl rfl)]; exact b2, b3, b4.mono (same_upd fL)⟩
  | ownT ks l =>
    obtain ⟨y, vs, rfl, b1, b5, b2, b3, b4⟩ := g2
    exact ⟨y, vs, rfl, b1, b5, by rw [upd_ne (ne y rfl rfl)]; exact b2, b3, b4.mono (same_upd fL)⟩
  | lk y o vs l =>
    obtain ⟨rfl, b1, b5, b2, b3, b4⟩ := g2
    exact ⟨rfl, b1, b5, by rw [upd_ne (ne y rfl rfl)]; exact b2, b3, b4.mono (same_upd fL)⟩
/-- a list of such, the frame led on by an invariant; the comprehension's own names are vs -/
theorem re_lc {g : TG} {vs : List Nat} (h : WI M wi ρ fun l => l.length < 100000 ∧ ∃ I : Nat → List D → Rho → Prop, I 0 [] ρ ∧
    (∀ (i : Nat) d ds ρ1, l[i]? = some d → ds.length = i → I i ds ρ1 → WG M (· ∈ vs) g d (wipeR ρ1 vs) fun ρ2 => RE M te ρ2 fun d' ρ3 => I (i + 1) (ds ++ [d']) (wipeR ρ3 vs)) ∧
    ∀ ds ρ1, ds.length = l.length → I l.length ds ρ1 → k (.lst ds) ρ1) : RE M (tLc wi g tYes te vs) ρ k := fun σ F H Q e f => by
  refine h σ F H _ e fun J l F1 H1 x1 ⟨G, Y, a1, a2, a3⟩ ⟨hn, I, i0, hs, hd⟩ => ?_
  intro L hL
  have e1 := e.step x1
  have nL := e1.x.ok.ne hL
  have fL := sub_none e1.gd.sub hL
  have off : Off ρ σ L := e1.off hL
  have h0L : Dl M.st M.H0 L = none := by
    cases z : Dl M.st M.H0 L with
    | none => rfl
    | some u =>
      have := e1.x.ext.hh _ _ z
      rw [Dl_none hL] at this
      cases this
  refine lc_it a1 (fun i H' => ∃ ρ1 F' acc ds, Fr M ρ1 σ F' H' ∧ Same F1 F' ∧ (∀ L' u, Off ρ σ L' → Dl M.st H1 L' = some u → isTupO u = false → F1 L' = none → Dl M.st H' L' = some u ∧ F' L' = none) ∧ (∀ L', Off ρ σ L' → Off ρ1 σ L') ∧ F' L = none ∧ Dl M.st H' L = some (.lst acc) ∧ RL M F' acc ds ∧ ds.length = i ∧ I i ds ρ1) ?_ ?_ ?_ ?_
  · refine ⟨ρ, F1, [], [], e1.step ((XE.refl e1.gd).mut hL), Same.refl _, fun L' u ho h1 h2 h3 => ⟨?_, h3⟩, fun _ ho => ho, fL, by rw [Dl_upd nL]; exact upd_same, .nil, rfl, i0⟩
    rw [Dl_upd nL, upd_ne]
    · exact h1
    · intro z
      subst z
      rw [Dl_none hL] at h1
      cases h1
  · rintro i H' _ ⟨ρ1, F', acc, ds, e', sm, _⟩
    exact a2 F' H' sm e'.gd
  · rintro i y H' H2 hi ⟨ρ1, F', acc, ds, e', sm, kp, of1, fl, hl', hr, hlen, hI⟩ yy
    have hli : l[i]? = some l[i] := List.getElem?_eq_getElem hi
    obtain ⟨Fb, xb, rb⟩ := a3 i y F' H' H2 _ sm e'.gd yy hli
    have eb := (e'.step xb).wipe vs
    refine hs i _ ds ρ1 hli hlen hI y _ Fb H2 _ eb rb fun ρ2 σ2 F3 H3 x3 e3 l3 s3 own3 h3 => ⟨wipe_eq (σ := σ) (σ' := σ2) vs (by rw [l3, wipe_length]) s3, ?_⟩
    show te σ2 H3 _
    have s3' : ∀ a : Nat, a ∉ vs → σ2[a]? = σ[a]? := fun a ha => by rw [s3 a ha, wipe_out ha]
    have of2 : ∀ L', Off ρ1 σ L' → Off ρ2 σ2 L' := fun L' ho a s ha m => by
      obtain ⟨g1, g2⟩ := own3 a s ha m
      obtain ⟨g3, g4⟩ := wipeR_own g1
      rw [g2, wipe_out g4]
      exact ho a s g3 m
    refine h3 σ2 F3 H3 _ e3 fun v d ρ3 F4 H4 e4 x4 of4 r4 hI' => ?_
    have xb3 := xb.trans x3
    have e5 := e4.unwipe (vs := vs) (σ := σ) (by rw [l3, wipe_length]) s3'
    have oL : Off ρ1 σ L := of1 L off
    have of3 : ∀ L', Off ρ1 σ L' → Off (wipeR ρ3 vs) σ L' := fun L' ho a s ha m => by
      obtain ⟨g1, g2⟩ := wipeR_own ha
      rw [← s3' a g2]
      exact of4 L' (of2 L' ho) a s g1 m
    have hl3 := xb3.ext.hh _ _ hl'
    have fl3 := xb3.ext.fr L _ hl' rfl fl
    obtain ⟨hl4, fl4⟩ := x4.keep L _ (of2 L oL) hl3 rfl fl3
    have sm4 := xb3.ff.trans x4.ff
    refine ⟨acc, Dl_sub _ _ hl4, Nat.lt_of_lt_of_le (show acc.length < 100000 by rw [hr.len]; omega) (by decide), wipeR ρ3 vs, F4, acc ++ [v], ds ++ [d], e5.chgL (of3 L oL) hl4 h0L fl4, sm.trans sm4, fun L' u ho h1 h2 h3 => ?_, fun L' ho => of3 L' (of1 L' ho), fl4, ?_, (hr.mono sm4).app (.cons r4 .nil), by simp [hlen], hI'⟩
    · obtain ⟨c1, c2⟩ := kp L' u ho h1 h2 h3
      obtain ⟨c3, c4⟩ := x4.keep L' _ (of2 L' (of1 L' ho)) (xb3.ext.hh _ _ c1) h2 (xb3.ext.fr _ _ c1 h2 c2)
      refine ⟨?_, c4⟩
      rw [Dl_upd (Dl_ne hl4), upd_ne]
      · exact c3
      · intro z
        subst z
        rw [Dl_none hL] at h1
        cases h1
    · rw [Dl_upd (Dl_ne hl4)]
      exact upd_same
  · rintro H' ⟨ρ1, F', acc, ds, e', sm, kp, of1, fl, hl', hr, hlen, hI⟩
    have oL : Off ρ1 σ L := of1 L off
    refine f (.ref L) (.lst ds) ρ1 _ H' (e'.frzL oL hl' h0L fl) ⟨x1.ff.trans (sm.trans (same_upd fl)), fun L' u ho h1 h2 h3 => ?_⟩ of1 (.lst (.inl (.inl upd_same)) (hr.mono (same_upd fl))) (hd ds ρ1 hlen hI)
    have g1 := x1.ext.hh _ _ h1
    obtain ⟨c1, c2⟩ := kp L' u ho g1 h2 (x1.ext.fr _ _ h1 h2 h3)
    refine ⟨c1, ?_⟩
    rw [upd_ne]
    · exact c2
    · intro z
      subst z
      rw [Dl_none hL] at g1
      cases g1
end
end G

namespace G
open PySem PySem.Spec PyProof.Rows L2
section
variable {M : Cm} {ρ : Rho} {k : D → Prop} {nx bk ct : Rho → Prop} {rt : Sl → Rho → Prop} {te tb : TE} {i : Nat} {p : Addr} {a b c : Int}
theorem wb_wl (h : ρ[i]? = some (wl p (.lst [.int a, .int b, .int c]))) (q : k (.lst [.int a, .int b, .int c])) : WB M (tVar i) ρ k := fun σ F H Q e f => by
  obtain ⟨v, h1, rfl, h2, h3, h4, h5, h6⟩ := e.each i _ h
  exact ⟨_, h1, f _ _ F H (XE.refl e.gd) (.inr (.inl ⟨p, _, _, rfl, rfl, h2, .cons (.int a) (.cons (.int b) (.cons (.int c) .nil))⟩)) q⟩
theorem ws_setWl {vs : List V} (hx : ρ[i]? = some (wl p (.lst vs))) (h : WE M te ρ fun d => WE M tb ρ fun e => ∃ z m j, d = .int z ∧ e = .int m ∧ ixN vs.length m = some j ∧ nx (ρ.set i (wl p (.lst (vs.set j (.int z)))))) : WS M (tAsg te (gSub (tVar i) tb rSetL)) ρ nx rt bk ct := fun σ F H E e f1 f2 f3 f4 => by
  refine h σ F H _ e fun v d F1 H1 x1 r1 h1 => ?_
  have e1 := e.step x1
  obtain ⟨v', h2, rfl, h3, h7, h4, h5, h6⟩ := e1.each i _ hx
  refine ⟨_, h2, h1 σ F1 H1 _ e1 fun w d2 F2 H2 x2 r2 ⟨z, m, j, z1, z2, hj, q⟩ => ?_⟩
  subst z1 z2
  cases r2
  cases r1
  have e2 := e1.step x2
  have h3' := x2.ext.hh _ _ h3
  have h4' := x2.ext.fr p _ h3 rfl h4
  refine ⟨p, vs, m, j, rfl, rfl, Dl_sub _ _ h3', hj, ?_⟩
  exact f1 _ σ F2 _ (x1.trans x2).ff (e2.chg hx rfl h2 h3' h4' h5 (s1 := .lk p _ [] []) ⟨rfl, by rw [Dl_upd (Dl_ne h3')]; exact upd_same, rfl, h4', h5, .nil⟩) q
end
end G

namespace G
open PySem PySem.Spec PyProof.Rows L2
/-! ## {k: e, ..}, several pairs -/
section
variable {M : Cm} {ρ : Rho} {k : List Key → List D → Prop}
def WPs (M : Cm) (trs : List (TE × TE)) (ρ : Rho) (k : List Key → List D → Prop) : Prop := ∀ σ F H (Q : List (V × V) → Hp → Prop), Fr M ρ σ F H → (∀ ks vs l F' H', XM M F H F' H' → ks.length = vs.length → RL M F' vs l → k ks l → Q ((ks.zip vs).map fun kv => (kV kv.1, kv.2)) H') → tPairs trs σ H Q
theorem wps_nil (q : k [] []) : WPs M [] ρ k := fun σ F H Q e f => f [] [] [] F H (XE.refl e.gd) rfl .nil q
theorem wps_cons {tk tv : TE} {rest : List (TE × TE)} (h : WE M tk ρ fun y => ∃ x, y = keyD x ∧ WE M tv ρ fun d => WPs M rest ρ fun ks l => k (x :: ks) (d :: l)) : WPs M ((tk, tv) :: rest) ρ k := fun σ F H Q e f => by
  refine h σ F H _ e fun y dy F1 H1 x1 r1 ⟨x, z, h1⟩ => h1 σ F1 H1 _ (e.step x1) fun v d F2 H2 x2 r2 h2 => ?_
  subst z
  have ey : y = kV x := (show RB M F1 H1 y (keyD x) from .inl r1).key
  subst ey
  exact h2 σ F2 H2 _ (e.step (x1.trans x2)) fun ks vs l F3 H3 x3 hl r3 q => f (x :: ks) (v :: vs) (d :: l) F3 H3 ((x1.trans x2).trans x3) (by simp [hl]) (.cons (r2.mono x3.ff) r3) q
theorem key_str {s : Str} {P : Key → Prop} (h : P (Sum.inr s)) : ∃ x, D.str s = keyD x ∧ P x := ⟨Sum.inr s, rfl, h⟩
theorem putK_new {kvs : List (Key × V)} {x : Key} {v : V} (h : ∀ kv ∈ kvs, kv.1 ≠ x) : putK kvs x v = kvs ++ [(x, v)] := by
  unfold putK
  rw [if_neg]
  intro z
  rw [List.any_eq_true] at z
  obtain ⟨kv, h1, h2⟩ := z
  exact h kv h1 (by simpa using h2)
theorem mergeK_new : ∀ (ks : List Key) (vs : List V) (acc : List (Key × V)), ks.length = vs.length → ks.Nodup → (∀ kv ∈ acc, kv.1 ∉ ks) → mergeK acc (ks.zip vs) = acc ++ ks.zip vs
  | [], _, acc, _, _, _ => by simp [mergeK]
  | x :: ks, [], _, h, _, _ => by simp at h
  | x :: ks, v :: vs, acc, h, nd, d => by
    obtain ⟨n1, n2⟩ := List.nodup_cons.mp nd
    rw [List.zip_cons_cons]
    show mergeK (putK acc x v) (ks.zip vs) = _
    rw [putK_new (fun kv hk z => d kv hk (by rw [z]; exact List.mem_cons_self)), mergeK_new ks vs _ (by simpa using h) n2, List.append_assoc]
    · rfl
    · intro kv hk
      rcases List.mem_append.mp hk with hk | hk
      · exact fun z => d kv hk (List.mem_cons_of_mem _ z)
      · rw [List.mem_singleton.mp hk]; exact n1
theorem wok_disp {trs : List (TE × TE)} (h : WPs M trs ρ fun ks l => ks.Nodup ∧ ks.length ≤ 15 ∧ k ks l) : WOK M (tDisp trs) ρ k := fun σ F H Q e f p np => by
  have g := e.gd
  have x0 : XM M F H F (upd H p (.dK [])) := (XE.refl g).mut np
  have hp0 : Dl M.st (upd H p (.dK [])) p = some (.dK []) := by rw [Dl_upd (g.ok.ne np)]; exact upd_same
  refine h σ F _ _ (e.step x0) fun ks vs l F2 H2 x12 hl r2 ⟨nd, h15, q⟩ => ?_
  have hp2 := x12.ext.hh _ _ hp0
  have fp2 := x12.ext.fr p _ hp0 rfl (sub_none g.sub np)
  refine ⟨Dl_sub _ _ hp2, ks.zip vs, rfl, by rw [List.length_zip]; omega, ?_⟩
  rw [mergeK_new ks vs [] hl nd (fun _ h => nomatch h), List.nil_append]
  refine f p ks vs l F2 _ ((x0.trans x12).chg hp2 (Dl_none np) fp2) ?_ hl fp2 (Dl_none np) r2 q
  rw [Dl_upd (Dl_ne hp2), upd_same]
end
section
variable {M : Cm} {ρ : Rho} {nx bk ct : Rho → Prop} {rt : Sl → Rho → Prop} {ts us : TS} {te : TE} {i j : Nat} {p : Addr}
theorem ws_cut (I : Rho → Prop) (h1 : WS M ts ρ I rt bk ct) (h2 : ∀ ρ', I ρ' → WS M us ρ' nx rt bk ct) : WS M (tSeq ts us) ρ nx rt bk ct := fun σ F H E e f1 f2 f3 f4 =>
  h1 σ F H _ e (fun ρ' σ' F' H' s e' hI => h2 ρ' hI σ' F' H' E e' (fun ρ2 σ2 F2 H2 s2 => f1 ρ2 σ2 F2 H2 (s.trans s2)) f2 (fun ρ2 σ2 F2 H2 s2 => f3 ρ2 σ2 F2 H2 (s.trans s2)) (fun ρ2 σ2 F2 H2 s2 => f4 ρ2 σ2 F2 H2 (s.trans s2))) f2 f3 f4
theorem Fr.offD {σ : L2.St} {F H : Hp} {L : Addr} (e : Fr M ρ σ F H) (hL : Dl M.st H L = none) : Off ρ σ L := fun a s ha m q => by
  obtain ⟨v, h1, h2⟩ := e.each a s ha
  rw [q] at h1
  cases h1
  have no : ∀ {o}, Dl M.st H L = some o → False := fun {o} z => by
    rw [hL] at z
    cases z
  cases s with
  | d d => cases m
  | own l =>
    obtain ⟨q, vs, z, a1, _⟩ := h2
    cases z
    exact no a1
  | ownK ks l =>
    obtain ⟨q, vs, z, a1, _⟩ := h2
    cases z
    exact no a1
  | ownT ks l =>
    obtain ⟨q, vs, z, a1, _⟩ := h2
    cases z
    exact no a1
  | lk q o vs l =>
    obtain ⟨z, a1, _⟩ := h2
    cases z
    exact no a1
/-- xs = xs + e, xs a list of its own, e drawn -/
theorem ws_ownCatC {m : List D} (ij : i ≠ j) (hi : ρ[i]? = some (some (.own m))) (h : CE M j p te ρ fun d o x => Wl o x → ∃ l, d = .lst l ∧ m.length + l.length ≤ 100000 ∧ nx ((ρ.set j (wl p o)).set i (some (.own (m ++ l))))) : WS M (tAsg (tOp (rAddS M.K) (tVar i) te) (gName i)) ρ nx rt bk ct := fun σ F H E e f1 f2 f3 f4 => by
  obtain ⟨v, b1, q, us, rfl, b2, b3, b4, b5⟩ := e.each i _ hi
  refine ⟨_, b1, h σ F H _ e fun w d o1 x1 F1 H1 w1 e1 xd1 r1 hh => ?_⟩
  obtain ⟨l, rfl, hl, hn⟩ := hh w1
  have hi1 : (ρ.set j (wl p o1))[i]? = some (some (.own m)) := by rw [List.getElem?_set_ne (Ne.symm ij)]; exact hi
  obtain ⟨v, c1, q', us', z, c2, c3, c4, c5⟩ := e1.each i _ hi1
  subst z
  rw [b1] at c1
  cases c1
  refine (opo_cat (ka := fun l' => l' = m ++ l) hl rfl) F1 H1 (.ref q) w _ e1.gd (.inr (.inl ⟨q, us', m, rfl, rfl, c2, c5⟩)) (.inl r1) fun y vs l' F' H' x3 g1 g2 g3 g4 g5 => ?_
  subst g5
  have e3 := e1.step x3
  have off := e1.offD g3
  refine f1 _ _ F' H' (xd1.ff.trans x3.ff) (e3.putO (s0 := .own (m ++ l)) ⟨y, vs, rfl, g1, g2, ?_, g4⟩ fun a s ne ha hm => off a s ha hm) hn
  cases z : Dl M.st M.H0 y with
  | none => rfl
  | some u =>
    have := e1.x.ext.hh _ _ z
    rw [g3] at this
    cases this
end
end G

namespace G
open PySem PySem.Spec PyProof.Rows L2
/-! ## comprehensions over the keys of a dict of one's own; dict(pairs) -/
section
variable {M : Cm} {ρ : Rho} {i : Nat} {k : D → Prop} {ka : List D → Prop} {l : List D} {t : TE}
theorem XE.unlock {F H F' H' : Hp} {p : Addr} {od : Obj} {u : HO} (hu : isTupO (.frz od u) = false) (hu2 : isTupO u = false) (h2 : Dl M.st H p = some u) (h4 : F p = none) (x : XM M F (upd H p (.frz od u)) F' H') : XM M F H F' (upd H' p u) := by
  have up : Dl M.st (upd H p (.frz od u)) = upd (Dl M.st H) p (.frz od u) := Dl_upd (Dl_ne h2)
  have lkd : Dl M.st H' p = some (.frz od u) := x.ext.hh _ _ (by rw [up]; exact upd_same)
  refine ⟨⟨fun b o hb => ?_, x.ext.ff, fun b o hb => ?_, fun b o hb ht hf => ?_⟩, x.ok.upd (Dl_ne lkd)⟩
  · rw [Dl_upd (Dl_ne lkd)]
    by_cases z : b = p
    · subst z
      rw [upd_same, ← h2, hb]
    · rw [upd_ne z]
      exact x.ext.hh b o (by rw [up, upd_ne z]; exact hb)
  · rw [Dl_upd (Dl_ne lkd)]
    by_cases z : b = p
    · subst z
      have := x.ext.fr b _ (by rw [up]; exact upd_same) hu h4
      rw [this] at hb
      cases hb
    · rw [upd_ne z]
      exact x.ext.fh b o hb
  · by_cases z : b = p
    · subst z
      exact x.ext.fr b _ (by rw [up]; exact upd_same) hu hf
    · exact x.ext.fr b o (by rw [up, upd_ne z]; exact hb) ht hf
theorem we_lockK {ks : List Key} (hi : ρ[i]? = some (some (.ownK ks l))) (h : ∀ p o vs, ks.length = vs.length → WE M t (ρ.set i (some (.lk p (.frz o (.dK (ks.zip vs))) vs l))) k) : WE M (tLockE t) ρ k := fun σ F H Q e f => by
  obtain ⟨v, h1, p, vs, rfl, h2, h3, h4, h5, h6⟩ := e.each i _ hi
  refine ⟨p, .dK (ks.zip vs), Dl_sub _ _ h2, trivial, fun od => ?_⟩
  have e1 := e.chg (o := .frz od (.dK (ks.zip vs))) hi rfl h1 h2 h4 h5 (s1 := .lk p (.frz od (.dK (ks.zip vs))) vs l) ⟨rfl, by rw [Dl_upd (Dl_ne h2)]; exact upd_same, rfl, h4, h5, h6⟩
  refine h p od vs h3 σ F _ _ e1 fun v d F' H' x r q => ?_
  have lkd : Dl M.st H' p = some (.frz od (.dK (ks.zip vs))) := x.ext.hh _ _ (by rw [Dl_upd (Dl_ne h2)]; exact upd_same)
  exact ⟨Dl_sub _ _ lkd, f v d F' _ (XE.unlock (M := M) rfl rfl h2 h4 x) r q⟩
theorem wv_keysK {p : Addr} {o : Obj} {vs : List V} {ks : List Key} (hl : ks.length = vs.length) (hi : ρ[i]? = some (some (.lk p (.frz o (.dK (ks.zip vs))) vs l))) (q : ka (ks.map keyD)) : WV M (iKeys (tVar i)) ρ ka := fun σ F H Q e f => by
  obtain ⟨v, h1, rfl, h2, h3, h4, h5, h6⟩ := e.each i _ hi
  refine ⟨_, h1, p, o, rfl, .inl ⟨ks.zip vs, Dl_sub _ _ h2, f _ _ F H (XE.refl e.gd) ?_ q⟩⟩
  have hlen : (ks.zip vs).length = (ks.map keyD).length := by rw [List.length_zip, List.length_map]; omega
  refine ⟨_, _, by rw [← hlen]; exact walk_keys, fun F' H' x => Dl_sub _ _ (x.ext.hh _ _ h2), fun n x Fa Ha Hb d xa y hd => ?_⟩
  obtain ⟨rfl, c, w, hc, rfl⟩ := y
  have hc' : ks[n]? = some c := by
    have := congrArg (Option.map Prod.fst) hc
    rw [← List.getElem?_map, List.map_fst_zip (by omega)] at this
    exact this
  rw [List.getElem?_map, hc'] at hd
  cases hd
  refine ⟨Fa, XE.refl xa.gd, ?_⟩
  cases c with
  | inl m => exact .int m
  | inr t => exact .str t
theorem wv_keysT {p : Addr} {o : Obj} {vs : List V} {nss : List (List Int)} (hl : nss.length = vs.length) (hi : ρ[i]? = some (some (.lk p (.frz o (.dT ((nss.map fun ns => ns.map (Sum.inl : Int → Key)).zip vs))) vs l))) (q : ka (nss.map D.stn)) : WV M (iKeys (tVar i)) ρ ka := fun σ F H Q e f => by
  obtain ⟨v, h1, rfl, h2, h3, h4, h5, h6⟩ := e.each i _ hi
  refine ⟨_, h1, p, o, rfl, .inr ⟨_, Dl_sub _ _ h2, f _ _ F H (XE.refl e.gd) ?_ q⟩⟩
  have hlen : ((nss.map fun ns => ns.map (Sum.inl : Int → Key)).zip vs).length = (nss.map D.stn).length := by rw [List.length_zip, List.length_map, List.length_map]; omega
  refine ⟨_, _, by rw [← hlen]; exact walk_keysT, fun F' H' x => Dl_sub _ _ (x.ext.hh _ _ h2), fun n x Fa Ha Hb d xa y hd => ?_⟩
  obtain ⟨rfl, kk, w, qa, hc, rfl, hq⟩ := y
  have hz := (List.getElem?_zip_eq_some.mp hc).1
  rw [List.getElem?_map] at hz
  cases hn : nss[n]? with
  | none => rw [hn] at hz; cases hz
  | some ns =>
    rw [hn] at hz
    cases hz
    rw [List.getElem?_map, hn] at hd
    cases hd
    have hk2 : (ns.map (Sum.inl : Int → Key)).map kV = ns.map V.int := by rw [List.map_map]; rfl
    rw [hk2] at hq
    exact ⟨_, (XE.refl xa.gd).tup (Dl_tup xa.ok hq), .stn upd_same⟩
def rDictP (K : PySem.W.Frag) : List V → Hp → VK → Prop := fun xs H Q => ∃ (a : Addr) (ps : List Addr) (kvs : List (Key × V)), xs = [V.ref a] ∧ SqL K H a (ps.map V.ref) ∧ Paired (fun p kv => SqT K H p [kV kv.1, kv.2]) ps kvs ∧
    ∀ p, H p = none → Q (.ref p) (upd H p (.dK (mergeK [] kvs)))
theorem k_dictP {X : Cx} {K : PySem.W.Frag} (h : X.K = K) (hc : X.calm = true) : CallR X (.type "dict") (rDictP K) := by
  subst h
  exact call_dictP hc
theorem bb_dict : bootBuiltins "dict" = some (.type "dict") := by decide +kernel
theorem pairs_R {F : Hp} : ∀ {vs : List V} {ks : List Key} {l : List D}, ks.length = l.length → RL M F vs (List.zipWith (fun c d => D.tup [keyD c, d]) ks l) → ∃ (ps : List Addr) (us : List V), vs = ps.map V.ref ∧ us.length = ks.length ∧ Paired (fun p (kv : Key × V) => SqT M.K F p [kV kv.1, kv.2]) ps (ks.zip us) ∧ RL M F us l
  | vs, [], [], _, h => by cases h; exact ⟨[], [], rfl, rfl, .nil, .nil⟩
  | _, [], _ :: _, h, _ => by simp at h
  | _, _ :: _, [], h, _ => by simp at h
  | vs, c :: ks, d :: l, hl, h => by
    rw [List.zipWith_cons_cons] at h
    cases h with
    | cons h1 h2 =>
      obtain ⟨ps, us, rfl, hu, hp, hr⟩ := pairs_R (by simpa using hl) h2
      cases h1 with
      | @tup a vs2 _ s r =>
        cases r with | cons ra rb =>
        cases rb with | cons rc rd =>
        cases rd
        have := (show RB M F F _ (keyD c) from .inl ra).key
        subst this
        exact ⟨a :: ps, _ :: us, rfl, by simp [hu], .cons s hp, .cons rc hr⟩
theorem cr_dictP {ks : List Key} (hl : ks.length = l.length) (nd : ks.Nodup) (q : k (.dic ks l)) : CR M (rDictP M.K) [.lst (List.zipWith (fun c d => D.tup [keyD c, d]) ks l)] k := fun F H vs Q g rr f => by
  obtain ⟨v, rfl, r⟩ := rbs1 rr
  obtain ⟨p, us, rfl, h1, h2⟩ := r.lst g
  obtain ⟨ps, ws, rfl, hu, hp, hr⟩ := pairs_R hl h2
  have mono : ∀ {ps : List Addr} {kvs : List (Key × V)}, Paired (fun p (kv : Key × V) => SqT M.K F p [kV kv.1, kv.2]) ps kvs → Paired (fun p (kv : Key × V) => SqT M.K H p [kV kv.1, kv.2]) ps kvs := fun {ps kvs} h => by
    induction h with
    | nil => exact .nil
    | cons a _ ih => exact .cons (sqT_mono g.sub a) ih
  refine ⟨p, ps, ks.zip ws, rfl, h1, mono hp, fun q' np => ?_⟩
  rw [mergeK_new ks ws [] hu.symm nd (fun _ h => nomatch h), List.nil_append]
  have x := (XE.refl g).new (o := .dK (ks.zip ws)) np
  exact f _ _ _ _ x (.dic upd_same hu.symm (hr.mono x.ff)) q
end
end G

namespace G
open PySem PySem.Spec PyProof.Rows L2
/-! ## rows at exact places, new ones; contracts that see what was frozen at the call -/
abbrev CtF := Hp → List D → (Sl → Prop) → Prop
def spDF (K : PySem.W.Frag) (C : Addr) (c : CtF) : Sp := fun vs H Q _ => ∃ st F ds k, Gd st F H ∧ RA K C st F vs ds ∧ c F ds k ∧ ∀ v s F' H', XE st F H F' H' → SR ⟨K, C, st, F, H⟩ F' H' v s → k s → Q v H'
abbrev CtMF := Hp → List D → List (List Key) → List D → (D → List (List Key) → List D → Prop) → Prop
def spDMF (K : PySem.W.Frag) (C : Addr) (c : CtMF) : Sp := fun vs H Q _ => ∃ st F ds ks us l p k vs0, vs = vs0 ++ [V.ref p] ∧ Gd st F H ∧ RA K C st F vs0 ds ∧ Dl st H p = some (.dT (ks.zip us)) ∧ ks.length = us.length ∧ F p = none ∧ RA K C st F us l ∧ c F ds ks l k ∧
  ∀ v d ks' us' l' F' H', XE st F (del H p) F' H' → R K C st F' v d → Dl st H' p = some (.dT (ks'.zip us')) → ks'.length = us'.length → F' p = none → RA K C st F' us' l' → k d ks' l' → Q v H'
section
variable {P : Program} {w : World} {K : PySem.W.Frag} {mg : Str → Option Value} {base : Heap} {C : Addr}
theorem FunAt.defDF {x : Str} {st : Stmt} {N ps : List Str} {n : Nat} {c : CtF} (F : FunAt K mg x st ps) (S : FnScope N ps (defScope st)) (len : ∀ F ds k, c F ds k → ds.length = ps.length)
    (hbody : ∀ (f : Addr) (cdv : Value) (A : Around) (outer : List Env) (s : Shared) (H : Hp) (E : XK) (sa : Option Addr) (F : Hp) (ds : List D) (k : Sl → Prop), Room n (A.deeper (envOfC x (defScope st) s.heap.objs.size f cdv)) → c F ds k →
      ∃ t, PSs (cxOf CX0 P w K mg base N x (defScope st) f cdv A outer s H E).nox (defBody st) t ∧ WS ⟨K, C, sa, F, H⟩ t (startR N ds) (fun _ => k (.d .non)) (fun s _ => k s) (fun _ => False) (fun _ => False)) : Def P w K mg base (n + 1) x ps (spDF K C c) := by
  refine F.def S (fun vs H Q E h => ?_) fun f cdv A outer s H vs Q E hr h => ?_
  · obtain ⟨st, F, ds, k, _, r, hc, _⟩ := h
    rw [r.len]
    exact len _ ds k hc
  · obtain ⟨st, F, ds, k, g, r, hc, q⟩ := h
    obtain ⟨t, h1, h2⟩ := hbody f cdv A outer s H E st F ds k hr hc
    exact ⟨t, h1, ws_startS g r q h2⟩
theorem FunAt.defDMF {x : Str} {st : Stmt} {N ps : List Str} {n : Nat} {c : CtMF} (F : FunAt K mg x st ps) (S : FnScope N ps (defScope st)) (len : ∀ F ds ks l k, c F ds ks l k → ds.length + 1 = ps.length) (hN : ps.length ≤ N.length)
    (hbody : ∀ (f : Addr) (cdv : Value) (A : Around) (outer : List Env) (s : Shared) (H : Hp) (E : XK) (sa : Option Addr) (F H0 : Hp) (ds : List D) (ks : List (List Key)) (us : List V) (l : List D) (p : Addr) (k : D → List (List Key) → List D → Prop), Room n (A.deeper (envOfC x (defScope st) s.heap.objs.size f cdv)) → ks.length = us.length → c F ds ks l k →
      ∃ t, PSs (cxOf CX0 P w K mg base N x (defScope st) f cdv A outer s H E).nox (defBody st) t ∧ WS ⟨K, C, sa, F, H0⟩ t (startM N ds p ks us l) (fun _ => False) (fun sl ρ' => ∃ d ks' us' l', sl = .d d ∧ ρ'[ds.length]? = some (some (.lk p (.dT (ks'.zip us')) us' l')) ∧ ks'.length = us'.length ∧ k d ks' l') (fun _ => False) (fun _ => False)) : Def P w K mg base (n + 1) x ps (spDMF K C c) := by
  refine F.def S (fun vs H Q E h => ?_) fun f cdv A outer s H vs Q E hr h => ?_
  · obtain ⟨st, F, ds, ks, us, l, p, k, vs0, rfl, _, r, _, _, _, _, hc, _⟩ := h
    rw [List.length_append, r.len]
    exact len _ ds ks l k hc
  · obtain ⟨st, F, ds, ks, us, l, p, k, vs0, rfl, g, r, h1, h2, fp, r2, hc, q⟩ := h
    obtain ⟨t, t1, t2⟩ := hbody f cdv A outer s H E st F (del H p) ds ks us l p k hr h2 hc
    refine ⟨t, t1, t2 _ F H _ (fr_startM g r h1 fp r2 (by have := len _ ds ks l k hc; omega)) (fun _ _ _ _ _ _ z => z.elim) (fun v sl ρ' σ' F' H' e rs hq => ?_) (fun _ _ _ _ _ _ z => z.elim) (fun _ _ _ _ _ _ z => z.elim)⟩
    obtain ⟨d, ks', us', l', rfl, hs, h3, hk⟩ := hq
    obtain ⟨u, _, _, g2, _, g3, _, g4⟩ := e.each _ _ hs
    exact q v d ks' us' l' F' H' e.x rs g2 h3 g3 g4 hk
/-- .. as data -/
theorem Def.frozenF {n : Nat} {x : Str} {ps : List Str} {c : CtF} {c' : Ct} (D : Def P w K mg base n x ps (spDF K C c)) (h : ∀ F ds k, c' ds k → c F ds fun s => ∃ d d', frzS s = some d ∧ (∀ (st : Option Addr) F v, R K C st F v d → R K C st F v d') ∧ k d') : Def P w K mg base n x ps (spD K C c') := by
  refine D.to fun vs H Q E hh => ?_
  obtain ⟨st, F, ds, k, g, r, hc, q⟩ := hh
  refine ⟨st, F, ds, _, g, r, h F ds k hc, fun v s F' H' x rs ⟨d, d', e, w, kd⟩ => ?_⟩
  obtain ⟨F2, x2, r2⟩ := SR.frozen x rs e
  exact q v d' F2 H' x2 (w st F2 v r2) kd
end
section
variable {M : Cm} {ρ : Rho} {k : D → Prop} {ka : List D → Prop} {nx bk ct : Rho → Prop} {rt : Sl → Rho → Prop} {te ta tb ty tv : TE} {tr : TA} {i j : Nat} {l : List D} {p : Addr} {vs : List V}
theorem none_of {F G : Hp} {p : Addr} (s : Same F G) (h : G p = none) : F p = none := sub_none s h
theorem WO.weX (h : WO M te ρ fun l => ∃ ns : List Int, l = ns.map D.int ∧ ∀ q, M.F0 q = none → k (.lsx q ns)) : WE M te ρ k := fun σ F H Q e f => h σ F H Q e fun p vs l F' H' x h1 h2 h3 h4 ⟨ns, z, q⟩ => by
  subst z
  have ev : vs = ns.map V.int := h4.ints
  subst ev
  exact f (.ref p) (.lsx p ns) (upd F' p (.lst (ns.map V.int))) H' (x.frz h3 h2 h1) (.lsx upd_same) (q p (none_of (e.x.ff.trans x.ff) h2))
theorem we_lsx (h : WE M te ρ fun d => ∃ q ns, d = .lsx q ns ∧ k (.lst (ns.map D.int))) : WE M te ρ k := fun σ F H Q e f => h σ F H Q e fun v d F' H' x r ⟨q, ns, z, hk⟩ => by
  subst z
  cases r with
  | lsx a => exact f _ _ F' H' x (.lst (.inl (.inl a)) (RA.ofInts ns)) hk
theorem ws_asgF {c : CtF} {E : XK} (h : WA M tr ρ fun ds => ∀ F1, Same M.F0 F1 → c F1 ds fun s => nx (ρ.set i (some s))) : WS M (tAsg (tCall (spDF M.K M.C c) [] E tr) (gName i)) ρ nx rt bk ct := fun σ F H E e f1 f2 f3 f4 => h σ F H _ e fun vs ds F1 H1 x1 r1 hc => by
  rw [List.append_nil]
  refine ⟨M.st, F1, ds, _, x1.gd, r1, hc F1 (e.x.ff.trans x1.ff), fun v s F' H' x rs q => ?_⟩
  have e1 := (e.step x1).step x
  have rs' : SR M F' H' v s := SR.base (e.x.trans x1).ext.hh rs
  have key : s.mine = false ∨ s.mine = true := by cases s.mine <;> simp
  rcases key with hm | hm
  · cases s with
    | d y => exact f1 _ _ F' H' (x1.trans x).ff (e1.put rs') q
    | _ => cases hm
  · refine f1 _ _ F' H' (x1.trans x).ff (e1.putO rs' fun j s' hj hs m z => ?_) q
    obtain ⟨p, o, rfl, a1, a2, a3⟩ := rs.mine_at hm
    obtain ⟨v', b1, b2⟩ := (e.step x1).each j s' hs
    obtain ⟨p', o', rfl, c1, c2, c3⟩ := b2.mine_at m
    rw [b1] at z
    cases z
    have a4 : Dl M.st H1 p = none := a3
    rw [a4] at c1
    cases c1
/-- what such a def tells is told on -/
theorem ws_retF {c : CtF} {E : XK} (h : WA M tr ρ fun ds => ∀ F1, Same M.F0 F1 → c F1 ds fun s => rt s ρ) : WS M (tRet (tCall (spDF M.K M.C c) [] E tr)) ρ nx rt bk ct := fun σ F H E e f1 f2 f3 f4 => h σ F H _ e fun vs ds F1 H1 x1 r1 hc => by
  rw [List.append_nil]
  refine ⟨M.st, F1, ds, _, x1.gd, r1, hc F1 (e.x.ff.trans x1.ff), fun v s F' H' x rs q => ?_⟩
  exact f2 v s ρ σ F' H' ((e.step x1).step x) (SR.base (e.x.trans x1).ext.hh rs) q
theorem ws_asgMF {c : CtMF} {E1 : XK} {l : List D} {ks : List (List Key)} (hj : ρ[j]? = some (some (.ownT ks l))) (h : WE M ta ρ fun d1 => WE M tb ρ fun d2 => ∀ F1, Same M.F0 F1 → c F1 [d1, d2] ks l fun d ks' l' => nx ((ρ.set j (some (.ownT ks' l'))).set i (some (.d d)))) :
    WS M (tAsg (tCall (spDMF M.K M.C c) [] E1 (tCons ta (tCons tb (tCons (tVar j) tNil)))) (gName i)) ρ nx rt bk ct := fun σ F H E e f1 f2 f3 f4 => by
  refine h σ F H _ e fun v1 d1 F1 H1 x1 r1 h1 => ?_
  have e1 := e.step x1
  refine h1 σ F1 H1 _ e1 fun v2 d2 F2 H2 x2 r2 hc => ?_
  have e2 := e1.step x2
  obtain ⟨v, g1, p, us, rfl, g2, g3, g4, g5, g6⟩ := e2.each j _ hj
  refine ⟨_, g1, ?_⟩
  refine ⟨M.st, F2, [d1, d2], ks, us, l, p, _, [v1, v2], rfl, e2.gd, .cons (r1.mono x2.ff) (.cons r2 .nil), g2, g3, g4, g6, hc F2 e2.x.ff, fun v d ks' us' l' F' H' x r a1 a2 a3 a4 hk => ?_⟩
  obtain ⟨e3, xx⟩ := e2.hand hj rfl g1 g5 g4 x (s1 := .ownT ks' l') ⟨p, us', rfl, a1, a2, a3, g5, a4⟩
  exact f1 _ _ F' H' ((x1.trans x2).ff.trans x.ff) (e3.put r) hk
/-- a list of one's own, read as weaker data -/
theorem wb_wk {l l' : List D} (h : ρ[i]? = some (some (.own l))) (w : ∀ F vs, RL M F vs l → RL M F vs l') (q : k (.lst l')) : WB M (tVar i) ρ k := fun σ F H Q e f => by
  obtain ⟨v, h1, p, vs, rfl, h2, h3, h4, h5⟩ := e.each i _ h
  exact ⟨_, h1, f _ _ F H (XE.refl e.gd) (.inr (.inl ⟨p, vs, l', rfl, rfl, h2, w F vs h5⟩)) q⟩
end
end G

namespace G.Q
open PySem PySem.Spec PyProof.Rows L2
/-! ## a new state each turn, beside a list of benches and models that stays -/
def bmD (B : BD) : D := .tup [.bench B, modelD B]
theorem bm_st {K : PySem.W.Frag} {C : Addr} {st st' : Option Addr} {F : Hp} {v : V} {B : BD} (h : R K C st F v (bmD B)) : R K C st' F v (bmD B) := by
  cases h with
  | tup s r =>
    cases r with
    | cons r1 r =>
      cases r with
      | cons r2 r =>
        cases r
        obtain ⟨m, rfl, hm⟩ := R_model r2
        cases r1 with
        | bench hb => exact .tup s (.cons (.bench hb) (.cons (model_R hm) .nil))
theorem bms_st {K : PySem.W.Frag} {C : Addr} {st st' : Option Addr} {F : Hp} : ∀ {vs : List V} {Bs : List BD}, RA K C st F vs (Bs.map bmD) → RA K C st' F vs (Bs.map bmD)
  | _, [], h => by cases h; exact .nil
  | _, B :: Bs, h => by
    have h' : RA K C st F _ (bmD B :: Bs.map bmD) := h
    cases h' with
    | cons a b => exact .cons (bm_st a) (bms_st b)
abbrev keepR (n m : Nat) (s : Sl) : Rho := (List.replicate n none).set m (some s)
theorem keep_at {n m : Nat} {s : Sl} : ∀ (k : Nat) t, (keepR n m s)[k]? = some (some t) → k = m ∧ t = s := fun k t hk => by
  by_cases z : m = k
  · subst z
    by_cases y : m < n
    · rw [List.getElem?_set_self (by rw [List.length_replicate]; exact y)] at hk
      cases hk
      exact ⟨rfl, rfl⟩
    · rw [List.getElem?_eq_none (by rw [List.length_set, List.length_replicate]; omega)] at hk
      cases hk
  · rw [List.getElem?_set_ne z] at hk
    have := List.eq_of_mem_replicate (List.mem_of_getElem? hk)
    cases this
theorem ws_stateK {M : Cm} {ρ : Rho} {nx : Rho → Prop} {rt : Sl → Rho → Prop} {bk ct : Rho → Prop} {rest : TS} {mi i j : Nat} {c : Int} {Bs : List BD} (hst : M.st = none) (hm : ρ[mi]? = some (some (.own (Bs.map bmD)))) (hj : ρ[j]? = some (some (.d (.int c)))) (hi : i < ρ.length) (im : i ≠ mi)
    (h : ∀ p F H, WS ⟨M.K, M.C, some p, F, H⟩ rest ((keepR ρ.length mi (.own (Bs.map bmD))).set i (some (.d .st))) (fun ρ' => ρ'.length = ρ.length ∧ ∃ Bs' : List BD, ρ'[mi]? = some (some (.own (Bs'.map bmD))) ∧ nx (keepR ρ.length mi (.own (Bs'.map bmD)))) (fun _ _ => False) (fun _ => False) (fun _ => False)) : WS M (tSeq (tAsg (tLst (tCons (tVar j) tNil)) (gName i)) rest) ρ nx rt bk ct := fun σ F H E e f1 f2 f3 f4 => by
  obtain ⟨v, h1, r⟩ := e.each j _ hj
  cases (show RB M F H v (.int c) from .inl r).int
  obtain ⟨vm, g1, L, us, rfl, g2, g3, g4, g5⟩ := e.each mi _ hm
  rw [hst] at g2 g4
  have g2 : H L = some (.lst us) := g2
  have g5 : RA M.K M.C none F us (Bs.map bmD) := by have := g5; unfold RL at this; rw [hst] at this; exact this
  have hml : mi < ρ.length := (List.getElem?_eq_some_iff.mp hm).1
  refine ⟨_, h1, ?_⟩
  refine ⟨by show 1 ≤ sizeLine; decide, fun p np => ?_⟩
  have g := e.gd
  have Lp : L ≠ p := fun z => by rw [z, np] at g2; cases g2
  have dlH : ∀ a o, H a = some o → del (upd H p (.lst [.int c])) p a = some o := fun a o ha => by
    have ne : a ≠ p := fun z => by rw [z, np] at ha; cases ha
    rw [del_ne ne, upd_ne ne]
    exact ha
  have gd' : Gd (some p) F (upd H p (.lst [.int c])) := ⟨fun a o ha => dlH a o (g.sub a o ha), fun a ea => by cases ea; exact ⟨_, upd_same, .inl ⟨c, rfl⟩⟩⟩
  have il : i < σ.length := by rw [e.len]; exact hi
  have slot : ∀ (k : Nat) s, ((keepR ρ.length mi (.own (Bs.map bmD))).set i (some (Sl.d .st)))[k]? = some (some s) → (k = i ∧ s = .d .st) ∨ (k = mi ∧ s = .own (Bs.map bmD)) := fun k s hk => by
    by_cases z : i = k
    · subst z
      rw [List.getElem?_set_self (by rw [List.length_set, List.length_replicate]; exact hi)] at hk
      cases hk
      exact .inl ⟨rfl, rfl⟩
    · rw [List.getElem?_set_ne z] at hk
      exact .inr (keep_at k s hk)
  have fr : Fr ⟨M.K, M.C, some p, F, del (upd H p (.lst [.int c])) L⟩ ((keepR ρ.length mi (.own (Bs.map bmD))).set i (some (.d .st))) (σ.set i (some (.ref p))) F (upd H p (.lst [.int c])) := by
    refine ⟨XE.delL gd' g3, by simp [e.len], fun k s hk => ?_, fun a b s t ne ha hb ma mb => ?_⟩
    · rcases slot k s hk with ⟨rfl, rfl⟩ | ⟨rfl, rfl⟩
      · exact ⟨.ref p, List.getElem?_set_self il, R.st rfl⟩
      · refine ⟨.ref L, by rw [List.getElem?_set_ne im]; exact g1, L, us, rfl, dlH _ _ g2, g3, ?_, bms_st g5⟩
        show Dl (some p) (del (upd H p (.lst [.int c])) L) L = none
        rw [Dl_del]
        exact del_same
    · rcases slot a s ha with ⟨rfl, rfl⟩ | ⟨rfl, rfl⟩
      · cases ma
      · rcases slot b t hb with ⟨rfl, rfl⟩ | ⟨rfl, rfl⟩
        · cases mb
        · exact (ne rfl).elim
  refine h p F _ _ F _ E fr (fun ρ' σ' F' H' s e' hl => ?_) (fun _ _ _ _ _ _ _ _ z => z.elim) (fun _ _ _ _ _ _ z => z.elim) (fun _ _ _ _ _ _ z => z.elim)
  obtain ⟨hl, Bs', hm', hn⟩ := hl
  refine f1 (keepR ρ.length mi (.own (Bs'.map bmD))) σ' F' H' s ?_ hn
  obtain ⟨vm', k1, L', us', rfl, k2, k3, k4, k5⟩ := e'.each mi _ hm'
  have x0 : XE none M.F0 M.H0 F H := hst ▸ e.x
  have ex := e'.x.ext
  have up : ∀ a o, a ≠ L → H a = some o → Dl (some p) (del (upd H p (.lst [.int c])) L) a = some o := fun a o ne ha => by
    rw [Dl_del, del_ne ne]
    exact dlH a o ha
  have x1 : XE none M.F0 M.H0 F' H' := by
    refine ⟨⟨fun a o ha => ?_, x0.ff.trans ex.ff, fun a o ha => Dl_sub (st := some p) _ _ (ex.fh a o ha), fun b o hb ht hf => ?_⟩, fun _ z => nomatch z⟩
    · have ha : M.H0 a = some o := ha
      have ne : a ≠ L := fun z => by rw [z] at ha; rw [show M.H0 L = none from g4] at ha; cases ha
      exact Dl_sub (st := some p) _ _ (ex.hh a o (up a o ne (x0.ext.hh a o ha)))
    · have hb : M.H0 b = some o := hb
      have ne : b ≠ L := fun z => by rw [z] at hb; rw [show M.H0 L = none from g4] at hb; cases hb
      exact ex.fr b o (up b o ne (x0.ext.hh b o hb)) ht (x0.ext.fr b o hb ht hf)
  refine ⟨by show XE M.st M.F0 M.H0 F' H'; rw [hst]; exact x1, by rw [e'.len, hl]; simp, fun k s hk => ?_, fun a b s t ne ha hb ma mb => ?_⟩
  · obtain ⟨rfl, rfl⟩ := keep_at k s hk
    refine ⟨.ref L', k1, ?_⟩
    refine ⟨L', us', rfl, ?_, k3, ?_, ?_⟩
    · rw [hst]
      exact Dl_sub (st := some p) _ _ k2
    · rw [hst]
      show M.H0 L' = none
      cases z : M.H0 L' with
      | none => rfl
      | some o =>
        have ne : L' ≠ L := fun y => by rw [y, show M.H0 L = none from g4] at z; cases z
        have := up L' o ne (x0.ext.hh L' o z)
        have k4 : Dl (some p) (del (upd H p (.lst [.int c])) L) L' = none := k4
        rw [k4] at this
        cases this
    · exact bms_st k5
  · obtain ⟨rfl, rfl⟩ := keep_at a s ha
    obtain ⟨rfl, rfl⟩ := keep_at b t hb
    exact (ne rfl).elim
end G.Q

namespace G
open PySem PySem.Spec PyProof.Rows L2
local macro_rules | `(tactic| walk_at "lk") => `(tactic| first | assumption | exact rT_at | exact rL_at | exact upd_same | (refine sqT_mono ?_ (by assumption); assumption) | (refine sqL_mono ?_ (by assumption); assumption) | (refine rT_new (by assumption) ?_; walk_at "lk") | (refine rL_new (by assumption) ?_; walk_at "lk") | (refine rH_new (by assumption) ?_; walk_at "lk") | (refine rD_new (by assumption) ?_; walk_at "lk") | (refine dp_mono ?_ (by assumption); assumption))
local macro_rules | `(tactic| walk_at "r1") => `(tactic| first | ((with_reducible show tVar _ _ _ _); refine s_var rfl ?_) | with_reducible refine s_c ?_ | with_reducible refine s_op ?_ | with_reducible refine s_un ?_ | with_reducible refine s_neg ?_ | with_reducible refine s_test ?_ | with_reducible refine s_B ?_ | with_reducible refine s_bl ?_ | with_reducible refine s_not ?_ | with_reducible refine s_yes ?_ | with_reducible refine s_and ?_ | with_reducible refine s_or ?_ | with_reducible refine s_notV ?_ | with_reducible refine s_andV ?_ | with_reducible refine s_orV ?_ | with_reducible refine s_if ?_ | with_reducible refine s_cT ?_ | with_reducible refine s_cF ?_ | with_reducible refine s_nT ?_ | with_reducible refine s_nF ?_ | with_reducible refine s_addI ?_ | with_reducible refine s_eqI ?_ | with_reducible refine s_neI ?_ | with_reducible refine s_eqB ?_ | with_reducible refine s_neB ?_ | with_reducible refine s_I0 ?_ | with_reducible refine s_non ?_ | with_reducible refine s_int ?_ | with_reducible refine s_chain ?_ | with_reducible refine s_cons ?_ | with_reducible refine s_nil ?_ | with_reducible refine s_call ?_ | with_reducible refine s_cb ?_ | with_reducible refine s_meth ?_ | with_reducible refine s_make ?_ | with_reducible refine s_tup ?_ | with_reducible refine s_lst ?_ | with_reducible refine s_bm ?_ | with_reducible refine s_bm0 ?_ | with_reducible refine s_bmT ?_ | with_reducible refine s_fld ?_ | with_reducible refine s_dget ?_ | with_reducible refine s_sl ?_ | with_reducible refine s_part ?_ | with_reducible refine s_nopart ?_ | with_reducible refine s_seq ?_ | with_reducible refine s_next ?_ | with_reducible refine s_asg ?_ | with_reducible refine s_gn ?_ | with_reducible refine s_gc ?_ | with_reducible refine s_g0 ?_ | with_reducible refine s_gs ?_ | with_reducible refine s_ret ?_ | with_reducible refine s_ifS ?_ | with_reducible refine s_drop ?_ | with_reducible refine s_augS ?_ | ((with_reducible show tAug _ _ _ _ _ _); refine s_aug rfl ?_) | with_reducible refine s_ipI ?_ | with_reducible refine s_for ?_ | with_reducible refine s_iseq ?_ | with_reducible refine s_rng1 ?_ | with_reducible refine s_izip ?_ | with_reducible refine s_lc ?_ | with_reducible refine s_lc2 ?_ | with_reducible refine s_lstRg ?_ | with_reducible refine s_rg1 ?_ | with_reducible refine s_sfld ?_ | with_reducible refine s_ienum ?_ | with_reducible refine s_disp ?_ | with_reducible refine s_pc ?_ | with_reducible refine s_pn ?_)
local macro_rules | `(tactic| walk_at "rd") => `(tactic| repeat walk_at "r1")

/-! ### rows of grindings -/
abbrev natL (ks : List Nat) : List Int := ks.map fun (x : Nat) => (x : Int)
def runH (w : List Int) (ms : List (List (Nat × Nat))) : List Int → List Nat → List Int
  | hs, [] => hs
  | hs, k :: ks => runH w ms (after w hs (ms.getD k [])) ks
def runD (w : List Int) (ms : List (List (Nat × Nat))) : List Int → List Nat → List (List Int)
  | _, [] => []
  | hs, k :: ks => dust w hs (ms.getD k []) :: runD w ms (after w hs (ms.getD k [])) ks
theorem after_len (w hs : List Int) (r : List (Nat × Nat)) : (after w hs r).length = hs.length := takeAll_len ..
theorem runH_len (w : List Int) (ms : List (List (Nat × Nat))) : ∀ (ks : List Nat) (hs : List Int), (runH w ms hs ks).length = hs.length
  | [], _ => rfl
  | k :: ks, hs => by rw [runH, runH_len w ms ks, after_len]
theorem runH_take (w : List Int) (ms : List (List (Nat × Nat))) : ∀ (ks : List Nat) (hs : List Int) (i k : Nat), ks[i]? = some k → runH w ms hs (ks.take (i + 1)) = after w (runH w ms hs (ks.take i)) (ms.getD k [])
  | [], _, _, _, h => by simp at h
  | k' :: ks, hs, 0, k, h => by
    have : k' = k := by simpa using h
    subst this
    simp [runH]
  | k' :: ks, hs, i + 1, k, h => by
    simp only [List.take_succ_cons, runH]
    exact runH_take w ms ks _ i k (by simpa using h)
theorem runD_take (w : List Int) (ms : List (List (Nat × Nat))) : ∀ (ks : List Nat) (hs : List Int) (i k : Nat), ks[i]? = some k → runD w ms hs (ks.take (i + 1)) = runD w ms hs (ks.take i) ++ [dust w (runH w ms hs (ks.take i)) (ms.getD k [])]
  | [], _, _, _, h => by simp at h
  | k' :: ks, hs, 0, k, h => by
    have : k' = k := by simpa using h
    subst this
    simp [runH, runD]
  | k' :: ks, hs, i + 1, k, h => by
    simp only [List.take_succ_cons, runH, runD, List.cons_append]
    rw [runD_take w ms ks _ i k (by simpa using h)]
theorem runD_get (w : List Int) (ms : List (List (Nat × Nat))) : ∀ (ks : List Nat) (hs : List Int) (i k : Nat), ks[i]? = some k → (runD w ms hs ks)[i]? = some (dust w (runH w ms hs (ks.take i)) (ms.getD k []))
  | [], _, _, _, h => by simp at h
  | k' :: ks, hs, 0, k, h => by
    have : k' = k := by simpa using h
    subst this
    simp [runH, runD]
  | k' :: ks, hs, i + 1, k, h => by
    simp only [List.take_succ_cons, runH, runD, List.getElem?_cons_succ]
    exact runD_get w ms ks _ i k (by simpa using h)
theorem runD_len (w : List Int) (ms : List (List (Nat × Nat))) : ∀ (ks : List Nat) (hs : List Int), (runD w ms hs ks).length = ks.length
  | [], _ => rfl
  | k :: ks, hs => by rw [runD, List.length_cons, runD_len w ms ks, List.length_cons]
theorem ext_getD {xs ys : List Int} (hl : xs.length = ys.length) (h : ∀ j, xs.getD j 0 = ys.getD j 0) : xs = ys := by
  refine List.ext_getElem hl fun j h1 h2 => ?_
  have := h j
  simpa [List.getD_eq_getElem?_getD, h1, h2] using this
theorem take_back (w : List Int) {r : List (Nat × Nat)} {gs hs : List Int} (d : Disj r) (hin : ∀ p ∈ r, p.1 < hs.length ∧ p.2 < hs.length) (hg : gs.length = r.length) : takeAll w (takeAll w hs r gs) r (gs.map fun g => -g) = hs := by
  refine ext_getD (by rw [takeAll_len, takeAll_len]) fun j => ?_
  by_cases hj : ∃ p ∈ r, p.1 = j ∨ p.2 = j
  · obtain ⟨p, hp, hpj⟩ := hj
    obtain ⟨i, hi⟩ := List.getElem?_of_mem hp
    have il : i < r.length := (List.getElem?_eq_some_iff.mp hi).1
    have gi : gs[i]? = some gs[i] := List.getElem?_eq_getElem (by omega)
    obtain ⟨a1, a2⟩ := takeAll_at w r gs hs i p gs[i] d hin hi gi
    obtain ⟨b1, b2⟩ := takeAll_at w r (gs.map fun g => -g) (takeAll w hs r gs) i p (-gs[i]) d (fun q hq => by rw [takeAll_len]; exact hin q hq) hi (by rw [List.getElem?_map, gi]; rfl)
    rcases hpj with rfl | rfl
    · rw [b1, a1, Int.mul_neg]; omega
    · rw [b2, a2, Int.mul_neg]; omega
  · have no : ∀ p ∈ r, p.1 ≠ j ∧ p.2 ≠ j := fun p hp => ⟨fun e => hj ⟨p, hp, .inl e⟩, fun e => hj ⟨p, hp, .inr e⟩⟩
    rw [takeAll_out w j r _ _ no, takeAll_out w j r _ _ no]
theorem same_add {F H : Hp} {p : Addr} {o : HO} (e : Same F H) (h : H p = some o) : Same (upd F p o) H := fun b x q => by
  by_cases hb : b = p
  · subst hb
    rw [upd_same] at q
    cases q
    exact h
  · rw [upd_ne hb] at q
    exact e b x q
abbrev tD (xs : List Int) : PyData := .tuple (xs.map PyData.int)
theorem sh_ran (xs : List Int) (ds : List (List Int)) : Sh 3 (.tuple [tD xs, .list (ds.map tD)]) := sh_tuple fun d hd => by
  rcases List.mem_cons.mp hd with rfl | hd
  · exact sh_mono (sh_tupleI xs) (by decide)
  · rw [List.mem_singleton.mp hd]
    refine sh_list fun d hd => ?_
    obtain ⟨x, _, rfl⟩ := List.mem_map.mp hd
    exact sh_tupleI x
theorem dpAll_app {K : PySem.W.Frag} {H : Hp} : ∀ {xs ys : List V} {ds es : List PyData}, DpAll K H xs ds → DpAll K H ys es → DpAll K H (xs ++ ys) (ds ++ es)
  | _, _, _, _, .nil, h => h
  | _, _, _, _, .cons a b, h => .cons a (dpAll_app b h)
section
variable {P : Program} {w : World} {K : PySem.W.Frag} {mg : Str → Option Value} {base : Heap} {C : Addr}
theorem nat_at {ks : List Nat} {i : Nat} {v : V} (h : ((natL ks).map V.int)[i]? = some v) : ∃ k, ks[i]? = some k ∧ v = .int (k : Int) := by
  rw [List.getElem?_map, List.getElem?_map] at h
  cases hk : ks[i]? with
  | none => rw [hk] at h; cases h
  | some k => rw [hk] at h; exact ⟨k, rfl, (Option.some.inj h).symm⟩
def spSureRow (K : PySem.W.Frag) (C : Addr) : Sp := fun vs H Q _ => ∃ b B a, ∃ ks : List Nat, vs = [.ref b, .ref a] ∧ BOk B ∧ BenchAt K C H b B ∧ SqL K H a ((natL ks).map V.int) ∧ (∀ k ∈ ks, k < B.told.length) ∧ ∀ H', Same H H' → Q .non H'
end
end G

namespace G
open PySem PySem.Spec PyProof.Rows L2
local macro_rules | `(tactic| walk_at "lk") => `(tactic| first | assumption | exact rT_at | exact rL_at | exact upd_same | (refine sqT_mono ?_ (by assumption); assumption) | (refine sqL_mono ?_ (by assumption); assumption) | (refine rT_new (by assumption) ?_; walk_at "lk") | (refine rL_new (by assumption) ?_; walk_at "lk") | (refine rH_new (by assumption) ?_; walk_at "lk") | (refine rD_new (by assumption) ?_; walk_at "lk") | (refine dp_mono ?_ (by assumption); assumption))
local macro_rules | `(tactic| walk_at "r1") => `(tactic| first | ((with_reducible show tVar _ _ _ _); refine s_var rfl ?_) | with_reducible refine s_c ?_ | with_reducible refine s_op ?_ | with_reducible refine s_un ?_ | with_reducible refine s_neg ?_ | with_reducible refine s_test ?_ | with_reducible refine s_B ?_ | with_reducible refine s_bl ?_ | with_reducible refine s_not ?_ | with_reducible refine s_yes ?_ | with_reducible refine s_and ?_ | with_reducible refine s_or ?_ | with_reducible refine s_notV ?_ | with_reducible refine s_andV ?_ | with_reducible refine s_orV ?_ | with_reducible refine s_if ?_ | with_reducible refine s_cT ?_ | with_reducible refine s_cF ?_ | with_reducible refine s_nT ?_ | with_reducible refine s_nF ?_ | with_reducible refine s_addI ?_ | with_reducible refine s_eqI ?_ | with_reducible refine s_neI ?_ | with_reducible refine s_eqB ?_ | with_reducible refine s_neB ?_ | with_reducible refine s_I0 ?_ | with_reducible refine s_non ?_ | with_reducible refine s_int ?_ | with_reducible refine s_chain ?_ | with_reducible refine s_cons ?_ | with_reducible refine s_nil ?_ | with_reducible refine s_call ?_ | with_reducible refine s_cb ?_ | with_reducible refine s_meth ?_ | with_reducible refine s_make ?_ | with_reducible refine s_tup ?_ | with_reducible refine s_lst ?_ | with_reducible refine s_bm ?_ | with_reducible refine s_bm0 ?_ | with_reducible refine s_bmT ?_ | with_reducible refine s_fld ?_ | with_reducible refine s_dget ?_ | with_reducible refine s_sl ?_ | with_reducible refine s_part ?_ | with_reducible refine s_nopart ?_ | with_reducible refine s_seq ?_ | with_reducible refine s_next ?_ | with_reducible refine s_asg ?_ | with_reducible refine s_gn ?_ | with_reducible refine s_gc ?_ | with_reducible refine s_g0 ?_ | with_reducible refine s_gs ?_ | with_reducible refine s_ret ?_ | with_reducible refine s_ifS ?_ | with_reducible refine s_drop ?_ | with_reducible refine s_augS ?_ | ((with_reducible show tAug _ _ _ _ _ _); refine s_aug rfl ?_) | with_reducible refine s_ipI ?_ | with_reducible refine s_for ?_ | with_reducible refine s_iseq ?_ | with_reducible refine s_rng1 ?_ | with_reducible refine s_izip ?_ | with_reducible refine s_lc ?_ | with_reducible refine s_lc2 ?_ | with_reducible refine s_lstRg ?_ | with_reducible refine s_rg1 ?_ | with_reducible refine s_sfld ?_ | with_reducible refine s_ienum ?_ | with_reducible refine s_disp ?_ | with_reducible refine s_pc ?_ | with_reducible refine s_pn ?_)
local macro_rules | `(tactic| walk_at "rd") => `(tactic| repeat walk_at "r1")

section
variable {P : Program} {w : World} {K : PySem.W.Frag} {mg : Str → Option Value} {base : Heap} {C : Addr}
def spRows (K : PySem.W.Frag) (C : Addr) : Sp := fun vs H Q _ => ∃ b B s hs a, ∃ ks : List Nat, vs = [.ref b, .ref s, .ref a] ∧ GB K C H b s B hs ∧ SqL K H a ((natL ks).map V.int) ∧ (∀ k ∈ ks, k < B.meets.length) ∧ ks.length ≤ 1000 ∧
  ∀ H' p p1 p2 ds, Same H H' → H p = none → H p2 = none → H' p = some (.tup [.ref p1, .ref p2]) → H' p2 = some (.lst ds) → SqT K H' p1 ((runH B.heavy B.meets hs ks).map V.int) → DpAll K H' ds ((runD B.heavy B.meets hs ks).map tD) → Q (.ref p) H'
def spLRan (K : PySem.W.Frag) : Sp := fun vs H Q _ => ∃ b B s hs a, ∃ ks : List Nat, vs = [.ref b, .ref s, .ref a] ∧ LB K H b s B hs ∧ SqL K H a ((natL ks).map V.int) ∧ (∀ k ∈ ks, k < B.meets.length) ∧ ks.length ≤ 1000 ∧
  ∀ H' p p1 p2 ds, Same H H' → H p = none → H p2 = none → H' p = some (.tup [.ref p1, .ref p2]) → H' p2 = some (.lst ds) → SqT K H' p1 ((runH B.heavy B.meets hs ks).map V.int) → DpAll K H' ds ((runD B.heavy B.meets hs ks).map tD) → Q (.ref p) H'
def spPutOn (K : PySem.W.Frag) (C : Addr) : Sp := fun vs H Q _ => ∃ b B s hs r k d, ∃ gs : List Int, vs = [.ref b, .ref s, .int (k : Nat), .ref d] ∧ GA K C H b s B hs r k ∧ SqT K H d (gs.map V.int) ∧ gs.length = r.length ∧
  ∀ H' p, Same H H' → H p = none → H' p = some (.tup ((takeAll B.heavy hs r (gs.map fun g => -g)).map V.int)) → Q (.ref p) H'
def spLedBack (K : PySem.W.Frag) (C : Addr) : Sp := fun vs H Q _ => ∃ b B s hs r k d, vs = [.ref b, .ref s, .int (k : Nat), .ref d] ∧ GA K C H b s B (after B.heavy hs r) r k ∧ SqT K H d ((dust B.heavy hs r).map V.int) ∧
  ∀ H' p, Same H H' → H p = none → H' p = some (.tup (hs.map V.int)) → Q (.ref p) H'
def spLRow (K : PySem.W.Frag) : Sp := fun vs H Q _ => ∃ st s F m B, ∃ most : Int, vs = [.ref st, .ref m, .int most] ∧ 0 ≤ most ∧ most ≤ 1000 ∧ H st = some (.lst s) ∧ StOk s ∧ Same F (del H st) ∧ BOk B ∧ ModelAt K F m B ∧
  ∀ p (ks : List Nat) F' H', SExt st F H F' H' → F' p = some (.lst ((natL ks).map V.int)) → (ks.length : Int) ≤ most → (∀ k ∈ ks, k < B.meets.length) → Q (.ref p) H'
theorem nats_of {n : Nat} (ys : List V) (h : ∀ (i : Nat) v, ys[i]? = some v → ∃ x : Int, v = .int x ∧ 0 ≤ x ∧ x < n) : ∃ ks : List Nat, ys = (natL ks).map V.int ∧ ∀ x ∈ ks, x < n := by
  have : ∀ v ∈ ys, ∃ x : Int, v = .int x ∧ 0 ≤ x ∧ x < n := fun v hv => by
    obtain ⟨i, hi⟩ := List.getElem?_of_mem hv
    exact h i v hi
  clear h
  induction ys with
  | nil => exact ⟨[], rfl, fun h z => by cases z⟩
  | cons v ys ih =>
    obtain ⟨h, rfl, h0, h9⟩ := this v (List.mem_cons_self ..)
    obtain ⟨hs, rfl, hs9⟩ := ih fun x hx => this x (List.mem_cons_of_mem _ hx)
    refine ⟨h.toNat :: hs, ?_, fun x hx => ?_⟩
    · have : ((h.toNat : Nat) : Int) = h := by omega
      simp [this]
    · rcases List.mem_cons.mp hx with rfl | hx
      · omega
      · exact hs9 x hx
end
end G

namespace G
open PySem PySem.Spec PyProof.Rows L2
local macro_rules | `(tactic| walk_at "lk") => `(tactic| first | assumption | exact rT_at | exact rL_at | exact upd_same | (refine sqT_mono ?_ (by assumption); assumption) | (refine sqL_mono ?_ (by assumption); assumption) | (refine rT_new (by assumption) ?_; walk_at "lk") | (refine rL_new (by assumption) ?_; walk_at "lk") | (refine rH_new (by assumption) ?_; walk_at "lk") | (refine rD_new (by assumption) ?_; walk_at "lk") | (refine dp_mono ?_ (by assumption); assumption))
local macro_rules | `(tactic| walk_at "r1") => `(tactic| first | ((with_reducible show tVar _ _ _ _); refine s_var rfl ?_) | with_reducible refine s_c ?_ | with_reducible refine s_op ?_ | with_reducible refine s_un ?_ | with_reducible refine s_neg ?_ | with_reducible refine s_test ?_ | with_reducible refine s_B ?_ | with_reducible refine s_bl ?_ | with_reducible refine s_not ?_ | with_reducible refine s_yes ?_ | with_reducible refine s_and ?_ | with_reducible refine s_or ?_ | with_reducible refine s_notV ?_ | with_reducible refine s_andV ?_ | with_reducible refine s_orV ?_ | with_reducible refine s_if ?_ | with_reducible refine s_cT ?_ | with_reducible refine s_cF ?_ | with_reducible refine s_nT ?_ | with_reducible refine s_nF ?_ | with_reducible refine s_addI ?_ | with_reducible refine s_eqI ?_ | with_reducible refine s_neI ?_ | with_reducible refine s_eqB ?_ | with_reducible refine s_neB ?_ | with_reducible refine s_I0 ?_ | with_reducible refine s_non ?_ | with_reducible refine s_int ?_ | with_reducible refine s_chain ?_ | with_reducible refine s_cons ?_ | with_reducible refine s_nil ?_ | with_reducible refine s_call ?_ | with_reducible refine s_cb ?_ | with_reducible refine s_meth ?_ | with_reducible refine s_make ?_ | with_reducible refine s_tup ?_ | with_reducible refine s_lst ?_ | with_reducible refine s_bm ?_ | with_reducible refine s_bm0 ?_ | with_reducible refine s_bmT ?_ | with_reducible refine s_fld ?_ | with_reducible refine s_dget ?_ | with_reducible refine s_sl ?_ | with_reducible refine s_part ?_ | with_reducible refine s_nopart ?_ | with_reducible refine s_seq ?_ | with_reducible refine s_next ?_ | with_reducible refine s_asg ?_ | with_reducible refine s_gn ?_ | with_reducible refine s_gc ?_ | with_reducible refine s_g0 ?_ | with_reducible refine s_gs ?_ | with_reducible refine s_ret ?_ | with_reducible refine s_ifS ?_ | with_reducible refine s_drop ?_ | with_reducible refine s_augS ?_ | ((with_reducible show tAug _ _ _ _ _ _); refine s_aug rfl ?_) | with_reducible refine s_ipI ?_ | with_reducible refine s_for ?_ | with_reducible refine s_iseq ?_ | with_reducible refine s_rng1 ?_ | with_reducible refine s_izip ?_ | with_reducible refine s_lc ?_ | with_reducible refine s_lc2 ?_ | with_reducible refine s_lstRg ?_ | with_reducible refine s_rg1 ?_ | with_reducible refine s_sfld ?_ | with_reducible refine s_ienum ?_ | with_reducible refine s_disp ?_ | with_reducible refine s_pc ?_ | with_reducible refine s_pn ?_)
local macro_rules | `(tactic| walk_at "rd") => `(tactic| repeat walk_at "r1")

def runF (w : List Int) (ms : List (List (Nat × Nat))) : List Int → List Nat → List Int
  | _, [] => []
  | hs, k :: ks => fallR w hs (ms.getD k []) :: runF w ms (after w hs (ms.getD k [])) ks
theorem runF_len (w : List Int) (ms : List (List (Nat × Nat))) : ∀ (ks : List Nat) (hs : List Int), (runF w ms hs ks).length = ks.length
  | [], _ => rfl
  | k :: ks, hs => by rw [runF, List.length_cons, runF_len w ms ks, List.length_cons]
theorem runF_take (w : List Int) (ms : List (List (Nat × Nat))) : ∀ (ks : List Nat) (hs : List Int) (i k : Nat), ks[i]? = some k → runF w ms hs (ks.take (i + 1)) = runF w ms hs (ks.take i) ++ [fallR w (runH w ms hs (ks.take i)) (ms.getD k [])]
  | [], _, _, _, h => by simp at h
  | k' :: ks, hs, 0, k, h => by
    have : k' = k := by simpa using h
    subst this
    simp [runH, runF]
  | k' :: ks, hs, i + 1, k, h => by
    simp only [List.take_succ_cons, runH, runF, List.cons_append]
    rw [runF_take w ms ks _ i k (by simpa using h)]
theorem runF_get (w : List Int) (ms : List (List (Nat × Nat))) : ∀ (ks : List Nat) (hs : List Int) (i k : Nat), ks[i]? = some k → (runF w ms hs ks)[i]? = some (fallR w (runH w ms hs (ks.take i)) (ms.getD k []))
  | [], _, _, _, h => by simp at h
  | k' :: ks, hs, 0, k, h => by
    have : k' = k := by simpa using h
    subst this
    simp [runH, runF]
  | k' :: ks, hs, i + 1, k, h => by
    simp only [List.take_succ_cons, runH, runF, List.getElem?_cons_succ]
    exact runF_get w ms ks _ i k (by simpa using h)
/-- heights whose weight is no giant -/
def Sm (B : BD) (hs : List Int) : Prop := wt B.heavy hs < 2 ^ 200
theorem Sm.abs {B : BD} {hs : List Int} (h : Sm B hs) (ok : BOk B) (hl : hs.length = B.heavy.length) {i : Nat} (hi : i < hs.length) : (hs.getD i 0).natAbs ≤ 2 ^ 100 :=
  Nat.le_of_lt (sq_small (n := 100) (Int.lt_of_le_of_lt (sq_le_wt B.heavy hs i (fun x hx => (ok.heavy x hx).1) (by omega) hi).2 h))
theorem meets_mem {B : BD} {k : Nat} (h : k < B.meets.length) : B.meets.getD k [] ∈ B.meets := by
  rw [List.getD_eq_getElem?_getD, List.getElem?_eq_getElem h]
  exact List.getElem_mem _
theorem Sm.after {B : BD} {hs : List Int} (h : Sm B hs) (ok : BOk B) (hl : hs.length = B.heavy.length) {r : List (Nat × Nat)} (hr : r ∈ B.meets) : Sm B (after B.heavy hs r) := by
  have := (fallR_facts (w := B.heavy) (hs := hs) r (ok.w1 hr)).1
  unfold Sm at *
  rw [wt_after ok hr hl]
  omega
theorem Sm.run {B : BD} (ok : BOk B) : ∀ (ks : List Nat) (hs : List Int), Sm B hs → hs.length = B.heavy.length → (∀ k ∈ ks, k < B.meets.length) → Sm B (runH B.heavy B.meets hs ks)
  | [], _, h, _, _ => h
  | k :: ks, hs, h, hl, hk => by
    rw [runH]
    exact Sm.run ok ks _ (h.after ok hl (meets_mem (hk k (List.mem_cons_self ..)))) (by rw [after_len]; exact hl) fun z hz => hk z (List.mem_cons_of_mem _ hz)
theorem grain_abs {B : BD} {hs : List Int} (h : Sm B hs) (ok : BOk B) (hl : hs.length = B.heavy.length) {p : Nat × Nat} (h1 : p.1 < B.heavy.length) (h2 : p.2 < B.heavy.length) : (grain B.heavy hs p).natAbs ≤ 2 ^ 101 := by
  have a1 := h.abs ok hl (i := p.1) (by omega)
  have a2 := h.abs ok hl (i := p.2) (by omega)
  have w1 := ok.w9 h1
  have w2 := ok.w9 h2
  have := tn_abs (hs.getD p.1 0 + hs.getD p.2 0) (B.heavy.getD p.1 0 + B.heavy.getD p.2 0) (by omega)
  unfold grain
  omega
theorem wt_list {w hs : List Int} {zs : List V} (hl : hs.length = w.length) (hlen : zs.length = hs.length) (h : ∀ (i : Nat) v, zs[i]? = some v → v = .int (w.getD i 0 * hs.getD i 0 * hs.getD i 0)) : zs = (List.zipWith (fun a h => a * h * h) w hs).map V.int := by
  refine List.ext_getElem (by simp; omega) fun i h1 h2 => ?_
  rw [h i _ (List.getElem?_eq_getElem h1)]
  have i1 : i < w.length := by omega
  have i2 : i < hs.length := by omega
  simp [List.getD_eq_getElem?_getD, i1, i2]
theorem w81 {a b : Int} (h1 : 1 ≤ a ∧ a ≤ 9) (h2 : 1 ≤ b ∧ b ≤ 9) : (a * b).natAbs ≤ 9 * 9 := nab (by omega) (by omega)
/-- all products of a fall are small enough -/
theorem fall_ok {w1 w2 s g : Int} (h1 : 1 ≤ w1 ∧ w1 ≤ 9) (h2 : 1 ≤ w2 ∧ w2 ≤ 9) (hs : s.natAbs ≤ 2 ^ 101) (hg : g.natAbs ≤ 2 ^ 101) : CMulW w1 w2 ∧ CMulW (w1 * w2) g ∧ CMulW 2 s ∧ CMulW (w1 + w2) g ∧ CMulW (w1 * w2 * g) (2 * s - (w1 + w2) * g) := by
  have p1 := w81 h1 h2
  have p2 := nab p1 hg
  have p3 : ((w1 + w2) * g).natAbs ≤ 18 * 2 ^ 101 := nab (by omega) hg
  refine ⟨mw (by omega) (by omega), mw (by omega) (by omega), mw (by decide) (by omega), mw (by omega) (by omega), mw (by omega) (by omega)⟩
section
variable {P : Program} {w : World} {K : PySem.W.Frag} {mg : Str → Option Value} {base : Heap} {C : Addr}
theorem s_par {σ : L2.St} {H : Hp} {i j : Nat} {ta : TA} {nx bk ct : L2.St → Hp → Prop} {Q : VK} (h : ta σ H fun vs H1 => ∃ v w, vs = [v, w] ∧ nx ((σ.set i (some v)).set j (some w)) H1) : tPar i j ta ⟨nx, Q, bk, ct⟩ σ H := h
def spWeight (K : PySem.W.Frag) (C : Addr) : Sp := fun vs H Q _ => ∃ b B s hs, vs = [.ref b, .ref s] ∧ GB K C H b s B hs ∧ Sm B hs ∧ ∀ H', Same H H' → Q (.int (wt B.heavy hs)) H'
def spFallAt (K : PySem.W.Frag) (C : Addr) : Sp := fun vs H Q _ => ∃ b B s hs p, ∃ (u v : Nat) (gr : Int), vs = [.ref b, .ref s, .ref p, .int gr] ∧ GB K C H b s B hs ∧ Sm B hs ∧ SqT K H p [.int u, .int v] ∧ u < B.heavy.length ∧ v < B.heavy.length ∧ gr.natAbs ≤ 2 ^ 101 ∧ ∀ H', Same H H' → Q (.int (fallP B.heavy hs (u, v) gr)) H'
def spFalls (K : PySem.W.Frag) (C : Addr) : Sp := fun vs H Q _ => ∃ b B s hs a, ∃ ks : List Nat, vs = [.ref b, .ref s, .ref a] ∧ GB K C H b s B hs ∧ Sm B hs ∧ SqL K H a ((natL ks).map V.int) ∧ (∀ k ∈ ks, k < B.meets.length) ∧ ks.length ≤ 1000 ∧
  ∀ H' p, Same H H' → H p = none → H' p = some (.lst ((runF B.heavy B.meets hs ks).map V.int)) → Q (.ref p) H'
end
end G

namespace G
open PySem PySem.Spec PyProof.Rows L2
local macro_rules | `(tactic| walk_at "lk") => `(tactic| first | assumption | exact rT_at | exact rL_at | exact upd_same | (refine sqT_mono ?_ (by assumption); assumption) | (refine sqL_mono ?_ (by assumption); assumption) | (refine rT_new (by assumption) ?_; walk_at "lk") | (refine rL_new (by assumption) ?_; walk_at "lk") | (refine rH_new (by assumption) ?_; walk_at "lk") | (refine rD_new (by assumption) ?_; walk_at "lk") | (refine dp_mono ?_ (by assumption); assumption))
local macro_rules | `(tactic| walk_at "r1") => `(tactic| first | ((with_reducible show tVar _ _ _ _); refine s_var rfl ?_) | with_reducible refine s_c ?_ | with_reducible refine s_op ?_ | with_reducible refine s_un ?_ | with_reducible refine s_neg ?_ | with_reducible refine s_test ?_ | with_reducible refine s_B ?_ | with_reducible refine s_bl ?_ | with_reducible refine s_not ?_ | with_reducible refine s_yes ?_ | with_reducible refine s_and ?_ | with_reducible refine s_or ?_ | with_reducible refine s_notV ?_ | with_reducible refine s_andV ?_ | with_reducible refine s_orV ?_ | with_reducible refine s_if ?_ | with_reducible refine s_cT ?_ | with_reducible refine s_cF ?_ | with_reducible refine s_nT ?_ | with_reducible refine s_nF ?_ | with_reducible refine s_addI ?_ | with_reducible refine s_eqI ?_ | with_reducible refine s_neI ?_ | with_reducible refine s_eqB ?_ | with_reducible refine s_neB ?_ | with_reducible refine s_I0 ?_ | with_reducible refine s_non ?_ | with_reducible refine s_int ?_ | with_reducible refine s_chain ?_ | with_reducible refine s_cons ?_ | with_reducible refine s_nil ?_ | with_reducible refine s_call ?_ | with_reducible refine s_cb ?_ | with_reducible refine s_meth ?_ | with_reducible refine s_make ?_ | with_reducible refine s_tup ?_ | with_reducible refine s_lst ?_ | with_reducible refine s_bm ?_ | with_reducible refine s_bm0 ?_ | with_reducible refine s_bmT ?_ | with_reducible refine s_fld ?_ | with_reducible refine s_dget ?_ | with_reducible refine s_sl ?_ | with_reducible refine s_part ?_ | with_reducible refine s_nopart ?_ | with_reducible refine s_seq ?_ | with_reducible refine s_next ?_ | with_reducible refine s_asg ?_ | with_reducible refine s_gn ?_ | with_reducible refine s_gc ?_ | with_reducible refine s_g0 ?_ | with_reducible refine s_gs ?_ | with_reducible refine s_ret ?_ | with_reducible refine s_ifS ?_ | with_reducible refine s_drop ?_ | with_reducible refine s_augS ?_ | ((with_reducible show tAug _ _ _ _ _ _); refine s_aug rfl ?_) | with_reducible refine s_ipI ?_ | with_reducible refine s_for ?_ | with_reducible refine s_iseq ?_ | with_reducible refine s_rng1 ?_ | with_reducible refine s_izip ?_ | with_reducible refine s_lc ?_ | with_reducible refine s_lc2 ?_ | with_reducible refine s_lstRg ?_ | with_reducible refine s_rg1 ?_ | with_reducible refine s_sfld ?_ | with_reducible refine s_ienum ?_ | with_reducible refine s_disp ?_ | with_reducible refine s_pc ?_ | with_reducible refine s_pn ?_)
local macro_rules | `(tactic| walk_at "rd") => `(tactic| repeat walk_at "r1")

theorem leP_cmul {a b : Int} (h1 : 1 ≤ a ∧ a ≤ 9) (h2 : 1 ≤ b ∧ b ≤ 9) : CMulW a b ∧ CMulW (a * b) (a + b) := by
  have p1 := w81 h1 h2
  exact ⟨mw (by omega) (by omega), mw (by omega) (by omega)⟩
theorem leP_le {a b : Int} (h1 : 1 ≤ a ∧ a ≤ 9) (h2 : 1 ≤ b ∧ b ≤ 9) : a * b * (a + b) ≤ 1458 := by
  have p1 := w81 h1 h2
  have := nab p1 (show (a + b).natAbs ≤ 18 by omega)
  omega
theorem BOk.all_pairs {B : BD} (ok : BOk B) {p : Nat × Nat} (hp : p ∈ B.meets.flatten) : p.1 < B.heavy.length ∧ p.2 < B.heavy.length := by
  obtain ⟨r, hr, hpr⟩ := List.mem_flatten.mp hp
  exact ok.row hr hpr
theorem BOk.flat_len {B : BD} (ok : BOk B) : B.meets.flatten.length = B.told.length * B.places := by
  have : ∀ l : List (List (Nat × Nat)), (∀ r ∈ l, r.length = B.places) → l.flatten.length = l.length * B.places := by
    intro l
    induction l with
    | nil => intro _; simp
    | cons r l ih =>
      intro h
      rw [List.flatten_cons, List.length_append, h r (List.mem_cons_self ..), ih fun z hz => h z (List.mem_cons_of_mem _ hz), List.length_cons, Nat.add_mul]
      omega
  rw [this _ fun r hr => ok.row_len hr, B.meets_len]
theorem BOk.flat_b {B : BD} (ok : BOk B) : 1 ≤ B.meets.flatten.length ∧ B.meets.flatten.length ≤ 18 := by
  have h1 := ok.told
  have h2 := ok.places
  rw [ok.flat_len]
  have := Nat.mul_le_mul h1.2 h2.2
  have := Nat.mul_le_mul h1.1 h2.1
  omega
/-- the least of all meetings' falls -/
def IsLeast (B : BD) (m : Int) : Prop := m ∈ leastL B ∧ ∀ y ∈ leastL B, m ≤ y
theorem IsLeast.eq {B : BD} {m n : Int} (a : IsLeast B m) (b : IsLeast B n) : m = n := Int.le_antisymm (a.2 n b.1) (b.2 m a.1)
theorem IsLeast.b {B : BD} {m : Int} (a : IsLeast B m) (ok : BOk B) : 1 ≤ m ∧ m ≤ 1458 := by
  obtain ⟨p, hp, rfl⟩ := List.mem_map.mp a.1
  obtain ⟨h1, h2⟩ := ok.all_pairs hp
  have w1 := ok.w9 h1
  have w2 := ok.w9 h2
  exact ⟨leP_pos w1.1 w2.1, leP_le w1 w2⟩
theorem dpAll_flat {K : PySem.W.Frag} {H : Hp} : ∀ {rows : List (List V)} {ds : List (List PyData)}, rows.length = ds.length → (∀ (i : Nat) r d, rows[i]? = some r → ds[i]? = some d → DpAll K H r d) → DpAll K H rows.flatten ds.flatten
  | [], [], _, _ => .nil
  | [], _ :: _, h, _ => by simp at h
  | _ :: _, [], h, _ => by simp at h
  | r :: rows, d :: ds, h, hh => by
    rw [List.flatten_cons, List.flatten_cons]
    exact dpAll_app (hh 0 r d rfl rfl) (dpAll_flat (by simpa using h) fun i a b x y => hh (i + 1) a b (by simpa using x) (by simpa using y))
section
variable {P : Program} {w : World} {K : PySem.W.Frag} {mg : Str → Option Value} {base : Heap} {C : Addr}
theorem rows_of {H : Hp} : ∀ {xs : List V} {ms : List (List (Nat × Nat))}, DpAll K H xs (ms.map fun r => .list (r.map pD)) → ∃ rows : List (List V), rows.length = ms.length ∧ (∀ (i : Nat) r, ms[i]? = some r → ∃ a ys, xs[i]? = some (.ref a) ∧ rows[i]? = some ys ∧ SqL K H a ys ∧ DpAll K H ys (r.map pD))
  | _, [], .nil => ⟨[], rfl, fun i r h => by simp at h⟩
  | _, r :: ms, .cons a b => by
    obtain ⟨rows, h1, h2⟩ := rows_of b
    obtain ⟨ad, ys, rfl, h3, h4⟩ := dp_refL a
    refine ⟨ys :: rows, by simp [h1], fun i r' h => ?_⟩
    cases i with
    | zero =>
      have : r = r' := by simpa using h
      subst this
      exact ⟨ad, ys, rfl, rfl, h3, h4⟩
    | succ i =>
      obtain ⟨a', y', q1, q2, q3, q4⟩ := h2 i r' (by simpa using h)
      exact ⟨a', y', by simpa using q1, by simpa using q2, q3, q4⟩
abbrev s_Bench_meetings : Stmt := inClass (topS 15) 8
abbrev n_Bench_meetings : List Str := ["self", "pairs", "pair"]
theorem sc_Bench_meetings : FnScope ["self", "pairs", "pair"] ["self"] (defScope s_Bench_meetings) := ⟨rfl, rfl, rfl, by decide +kernel, rfl, by decide +kernel, by decide +kernel⟩
def spMeetings (K : PySem.W.Frag) (C : Addr) : Sp := fun vs H Q _ => ∃ b B, vs = [.ref b] ∧ BOk B ∧ BenchAt K C H b B ∧ ∀ H' p xs, Same H H' → H p = none → H' p = some (.lst xs) → DpAll K H xs (B.meets.flatten.map pD) → Q (.ref p) H'
theorem ok_meetings (B0 : Blt mg) (T : Txt K mg C) (F : MethAt K C "meetings" "Bench.meetings" s_Bench_meetings ["self"]) : DefM P w K mg base 1 C "meetings" ["self"] (spMeetings K C) := by
  refine F.def (k := 0) sc_Bench_meetings (fun vs H Q E h => ?_) (fun f cdv A outer s H vs Q E hr h => ?_)
  · obtain ⟨b, B, rfl, _⟩ := h
    rfl
  · obtain ⟨b, B1, rfl, ok, hB, q⟩ := h
    obtain ⟨dx, l1, l2, l3, l4, hb, h1, h2, h3, h4⟩ := hB.ex
    obtain ⟨mx, hmx, hma⟩ := dp_list h4
    have mlen : mx.length = B1.meets.length := by rw [dpAll_len hma, List.length_map]
    obtain ⟨rows, rlen, hrows⟩ := rows_of hma
    have B := B0
    have fall : DpAll K H rows.flatten (B1.meets.flatten.map pD) := by
      have := dpAll_flat (K := K) (H := H) (rows := rows) (ds := B1.meets.map fun r => r.map pD) (by simp [rlen]) fun i r d h1 h2 => by
        rw [List.getElem?_map] at h2
        cases hm : B1.meets[i]? with
        | none => rw [hm] at h2; cases h2
        | some m =>
          rw [hm] at h2
          cases h2
          obtain ⟨a, ys, _, q2, _, q4⟩ := hrows i m hm
          rw [h1] at q2
          cases q2
          exact q4
      rw [List.map_flatten]
      exact this
    have flen : rows.flatten.length ≤ 18 := by
      rw [dpAll_len fall, List.length_map]
      exact ok.flat_b.2
    refine ⟨_, (pss_one (ps_ret (pe_lc2 (own := [("pairs", 1), ("pair", 2)]) (vs1 := [2]) rfl sc_Bench_meetings.nd (k_seq (K := K) rfl (k_fld (K := K) rfl (pv 0) rfl)) (blkOk_by (own := [("pairs", 1), ("pair", 2)]) (N := n_Bench_meetings) (sc := defScope s_Bench_meetings) (by decide +kernel)) (by decide) (fun _ _ _ _ _ => (pg_name (i := 1) sc_Bench_meetings.nd rfl (Or.inl rfl))) (fun _ _ _ _ _ => pts_nil) (fun _ _ _ _ _ => (k_seq (K := K) rfl (pv 1))) (fun _ _ _ _ _ => (pg_name (i := 2) sc_Bench_meetings.nd rfl (Or.inl rfl))) (fun _ _ _ _ _ => pts_nil) (fun _ _ _ _ _ => (pv 2))))), ?_⟩; refine start_eq (σ' := [some (.ref b), none, none]) rfl ?_
    walk_at "rd"
    refine ⟨_, _, _, _, _, rfl, hb, T.cl, T.n_meets, fl_meets, ?_⟩
    walk_at "rd"
    refine .inl ⟨_, rfl, ⟨_, hmx⟩, ?_⟩
    refine lc2_map (walk_list (xs := mx)) (F := H) (Same.refl H) (fun H' s' => sqL_mono s' hmx) rows (by omega) (by omega) ?_ ?_
    · intro i v row F' Ha Hb D Nx hrow ex fd hacc hy hz
      obtain ⟨rfl, hv⟩ := hy
      have hi : i < B1.meets.length := by
        have := (List.getElem?_eq_some_iff.mp hrow).1
        omega
      obtain ⟨ra, ys, q1, q2, q3, q4⟩ := hrows i _ (List.getElem?_eq_getElem hi)
      rw [hv] at q1
      cases q1
      rw [hrow] at q2
      cases q2
      obtain ⟨acc, ha, hal⟩ := hacc
      walk_at "rd"
      refine ⟨rfl, ?_⟩
      walk_at "rd"
      refine .inl ⟨ra, rfl, ⟨_, sqL_mono ex.hh q3⟩, ?_⟩
      refine in_map (walk_list (xs := row)) (F := F') ex.fh (fun H' s' => sqL_mono (ex.ff.trans s') q3) fd ha row rfl (by omega) ?_ ?_
      · intro j v2 y Hc Hd Z hrj _ _ hy2 hz2
        obtain ⟨rfl, hv2⟩ := hy2
        rw [hrj] at hv2
        cases hv2
        walk_at "rd"
        refine ⟨rfl, ?_⟩
        walk_at "rd"
        exact hz2 _ (Same.refl _)
      · intro H'' f1 f2 f3
        exact hz acc ha H'' f1 f2 f3
    · intro D F' H' nD ex fD
      exact q H' D rows.flatten ex.hh nD (ex.fh _ _ fD) fall
def spLeast (K : PySem.W.Frag) (C : Addr) : Sp := fun vs H Q _ => ∃ b B, vs = [.ref b] ∧ BOk B ∧ BenchAt K C H b B ∧ ∀ H' m, Same H H' → IsLeast B m → Q (.int m) H'
def spBound (K : PySem.W.Frag) (C : Addr) : Sp := fun vs H Q _ => ∃ b B s hs, vs = [.ref b, .ref s] ∧ GB K C H b s B hs ∧ Sm B hs ∧ ∀ H' m, Same H H' → IsLeast B m → Q (.int (wt B.heavy hs / m)) H'
def spLHeavy (K : PySem.W.Frag) : Sp := fun vs H Q _ => ∃ b B s hs, vs = [.ref b, .ref s] ∧ LB K H b s B hs ∧ Sm B hs ∧ ∀ H', Same H H' → Q (.int (wt B.heavy hs)) H'
theorem sum_take {l : List Int} {i : Nat} (h : i < l.length) : (l.take (i + 1)).sum = (l.take i).sum + l[i] := by
  rw [List.take_add_one, List.getElem?_eq_getElem h, List.sum_append]
  simp only [Option.toList, List.sum_cons, List.sum_nil, Int.add_zero]
def spLFall (K : PySem.W.Frag) : Sp := fun vs H Q _ => ∃ m B s hs r k, vs = [.ref m, .ref s, .int (k : Nat)] ∧ LA K H m s B hs r k ∧ Sm B hs ∧ ∀ H', Same H H' → Q (.int (fallR B.heavy hs r)) H'
def spLLeast (K : PySem.W.Frag) : Sp := fun vs H Q _ => ∃ m B, vs = [.ref m] ∧ BOk B ∧ ModelAt K H m B ∧ ∀ H' n, Same H H' → IsLeast B n → Q (.int n) H'
theorem flat_takeM {l : List (List (Nat × Nat))} {i : Nat} {r : List (Nat × Nat)} (h : l[i]? = some r) : (l.take (i + 1)).flatten = (l.take i).flatten ++ r := by
  rw [List.take_add_one, h, List.flatten_append]
  simp only [Option.toList, List.flatten_cons, List.flatten_nil, List.append_nil]
end
end G

namespace G
open PySem PySem.Spec PyProof.Rows L2
local macro_rules | `(tactic| walk_at "lk") => `(tactic| first | assumption | exact rT_at | exact rL_at | exact upd_same | (refine sqT_mono ?_ (by assumption); assumption) | (refine sqL_mono ?_ (by assumption); assumption) | (refine rT_new (by assumption) ?_; walk_at "lk") | (refine rL_new (by assumption) ?_; walk_at "lk") | (refine rH_new (by assumption) ?_; walk_at "lk") | (refine rD_new (by assumption) ?_; walk_at "lk") | (refine dp_mono ?_ (by assumption); assumption))
local macro_rules | `(tactic| walk_at "r1") => `(tactic| first | ((with_reducible show tVar _ _ _ _); refine s_var rfl ?_) | with_reducible refine s_c ?_ | with_reducible refine s_op ?_ | with_reducible refine s_un ?_ | with_reducible refine s_neg ?_ | with_reducible refine s_test ?_ | with_reducible refine s_B ?_ | with_reducible refine s_bl ?_ | with_reducible refine s_not ?_ | with_reducible refine s_yes ?_ | with_reducible refine s_and ?_ | with_reducible refine s_or ?_ | with_reducible refine s_notV ?_ | with_reducible refine s_andV ?_ | with_reducible refine s_orV ?_ | with_reducible refine s_if ?_ | with_reducible refine s_cT ?_ | with_reducible refine s_cF ?_ | with_reducible refine s_nT ?_ | with_reducible refine s_nF ?_ | with_reducible refine s_addI ?_ | with_reducible refine s_eqI ?_ | with_reducible refine s_neI ?_ | with_reducible refine s_eqB ?_ | with_reducible refine s_neB ?_ | with_reducible refine s_I0 ?_ | with_reducible refine s_non ?_ | with_reducible refine s_int ?_ | with_reducible refine s_chain ?_ | with_reducible refine s_cons ?_ | with_reducible refine s_nil ?_ | with_reducible refine s_call ?_ | with_reducible refine s_cb ?_ | with_reducible refine s_meth ?_ | with_reducible refine s_make ?_ | with_reducible refine s_tup ?_ | with_reducible refine s_lst ?_ | with_reducible refine s_bm ?_ | with_reducible refine s_bm0 ?_ | with_reducible refine s_bmT ?_ | with_reducible refine s_fld ?_ | with_reducible refine s_dget ?_ | with_reducible refine s_sl ?_ | with_reducible refine s_part ?_ | with_reducible refine s_nopart ?_ | with_reducible refine s_seq ?_ | with_reducible refine s_next ?_ | with_reducible refine s_asg ?_ | with_reducible refine s_gn ?_ | with_reducible refine s_gc ?_ | with_reducible refine s_g0 ?_ | with_reducible refine s_gs ?_ | with_reducible refine s_ret ?_ | with_reducible refine s_ifS ?_ | with_reducible refine s_drop ?_ | with_reducible refine s_augS ?_ | ((with_reducible show tAug _ _ _ _ _ _); refine s_aug rfl ?_) | with_reducible refine s_ipI ?_ | with_reducible refine s_for ?_ | with_reducible refine s_iseq ?_ | with_reducible refine s_rng1 ?_ | with_reducible refine s_izip ?_ | with_reducible refine s_lc ?_ | with_reducible refine s_lc2 ?_ | with_reducible refine s_lstRg ?_ | with_reducible refine s_rg1 ?_ | with_reducible refine s_sfld ?_ | with_reducible refine s_ienum ?_ | with_reducible refine s_disp ?_ | with_reducible refine s_pc ?_ | with_reducible refine s_pn ?_)
local macro_rules | `(tactic| walk_at "rd") => `(tactic| repeat walk_at "r1")

structure EqTxt (K : PySem.W.Frag) (C : Addr) : Prop where
  ha : PySem.W.findIn K (.ref C) "__class__" = some (some (.builtin "object.__class__"))
  hn : PySem.W.specialIn K (.builtin "object.__class__") "__get__" = some (some (.builtin "getset_descriptor.__get__"))
  ht : PySem.W.takesIn K (.builtin "object.__class__") = some true
  hm : PySem.W.mroIn K C (.type "object") = some true
  kl : PySem.W.kitOne K (.type "list") (.ref C) = some false
  nl : PySem.W.notFirst K C (.type "list") = true
  ne : PySem.W.findIn K (.ref C) "__ne__" = some (some (.builtin "object.__ne__"))
theorem kit_self {K : PySem.W.Frag} {C : Addr} : PySem.W.kitOne K (.ref C) (.ref C) = some true := by
  unfold PySem.W.kitOne
  rw [if_pos (beq_self_eq_true _)]
theorem nf_self {K : PySem.W.Frag} {C : Addr} : PySem.W.notFirst K C (.ref C) = true := by simp [PySem.W.notFirst]
def benchD (B : BD) : PyData := .tuple [.list (B.hard.map PyData.int), .int B.places, .list (B.told.map gD)]
theorem sh_gD (g : Nat × Nat × List Nat) : Sh 2 (gD g) := sh_tuple fun d hd => by
  rcases List.mem_cons.mp hd with rfl | hd
  · exact sh_mono (sh_int _) (by decide)
  rcases List.mem_cons.mp hd with rfl | hd
  · exact sh_mono (sh_int _) (by decide)
  rw [List.mem_singleton.mp hd]
  refine sh_tuple fun d hd => ?_
  obtain ⟨x, _, rfl⟩ := List.mem_map.mp hd
  exact sh_int _
theorem sh_told (B : BD) : Sh 3 (.list (B.told.map gD)) := sh_list fun d hd => by
  obtain ⟨x, _, rfl⟩ := List.mem_map.mp hd
  exact sh_gD x
theorem sh_bench (B : BD) : Sh 4 (benchD B) := sh_tuple fun d hd => by
  rcases List.mem_cons.mp hd with rfl | hd
  · exact sh_mono (sh_listI _) (by decide)
  rcases List.mem_cons.mp hd with rfl | hd
  · exact sh_mono (sh_int _) (by decide)
  rw [List.mem_singleton.mp hd]
  exact sh_told B
def eqB (B B' : BD) : Bool := PyData.eqv (benchD B) (benchD B')
theorem eqvAll_nats : ∀ ns ms : List Nat, PyData.eqvAll (ns.map fun (x : Nat) => PyData.int (x : Int)) (ms.map fun (x : Nat) => PyData.int (x : Int)) = true → ns = ms
  | [], [], _ => rfl
  | [], _ :: _, h => by cases h
  | _ :: _, [], h => by cases h
  | n :: ns, m :: ms, h => by
    have h : (((n : Int) == (m : Int)) && PyData.eqvAll (ns.map fun (x : Nat) => PyData.int (x : Int)) (ms.map fun (x : Nat) => PyData.int (x : Int))) = true := h
    rw [Bool.and_eq_true] at h
    have h1 : (n : Int) = (m : Int) := by simpa using h.1
    rw [eqvAll_nats ns ms h.2, show n = m by omega]
theorem eqv_gD {g g' : Nat × Nat × List Nat} (h : PyData.eqv (gD g) (gD g') = true) : g = g' := by
  obtain ⟨a, b, c⟩ := g
  obtain ⟨a', b', c'⟩ := g'
  have h : (((a : Int) == (a' : Int)) && (((b : Int) == (b' : Int)) && (PyData.eqvAll (c.map fun (x : Nat) => PyData.int (x : Int)) (c'.map fun (x : Nat) => PyData.int (x : Int)) && true))) = true := h
  simp only [Bool.and_eq_true, beq_iff_eq] at h
  rw [eqvAll_nats _ _ h.2.2.1, show a = a' by omega, show b = b' by omega]
theorem eqvAll_gD : ∀ {gs gs' : List (Nat × Nat × List Nat)}, PyData.eqvAll (gs.map gD) (gs'.map gD) = true → gs = gs'
  | [], [], _ => rfl
  | [], _ :: _, h => by cases h
  | _ :: _, [], h => by cases h
  | g :: gs, g' :: gs', h => by
    have h : (PyData.eqv (gD g) (gD g') && PyData.eqvAll (gs.map gD) (gs'.map gD)) = true := h
    rw [Bool.and_eq_true] at h
    rw [eqv_gD h.1, eqvAll_gD h.2]
theorem eqB_iff {B B' : BD} (h : eqB B B' = true) : B = B' := by
  obtain ⟨a, b, c⟩ := B
  obtain ⟨a', b', c'⟩ := B'
  have h : (PyData.eqvAll (a.map PyData.int) (a'.map PyData.int) && (((b : Int) == (b' : Int)) && (PyData.eqvAll (c.map gD) (c'.map gD) && true))) = true := h
  simp only [Bool.and_eq_true, beq_iff_eq] at h
  rw [eqvAll_ints] at h
  rw [of_decide_eq_true h.1, show b = b' by omega, eqvAll_gD h.2.2.1]
theorem eqB_self (B : BD) : eqB B B = true := eqv_self (sh_bench B)
section
variable {P : Program} {w : World} {K : PySem.W.Frag} {mg : Str → Option Value} {base : Heap} {C : Addr}
abbrev s_Bench_hardness : Stmt := inClass (topS 15) 4
abbrev n_Bench_hardness : List Str := ["self"]
theorem sc_Bench_hardness : FnScope ["self"] ["self"] (defScope s_Bench_hardness) := ⟨rfl, rfl, rfl, by decide +kernel, rfl, by decide +kernel, by decide +kernel⟩
abbrev s_Bench_weights : Stmt := inClass (topS 15) 7
abbrev n_Bench_weights : List Str := ["self"]
theorem sc_Bench_weights : FnScope ["self"] ["self"] (defScope s_Bench_weights) := ⟨rfl, rfl, rfl, by decide +kernel, rfl, by decide +kernel, by decide +kernel⟩
abbrev s_Bench_grindings : Stmt := inClass (topS 15) 5
abbrev n_Bench_grindings : List Str := ["self"]
theorem sc_Bench_grindings : FnScope ["self"] ["self"] (defScope s_Bench_grindings) := ⟨rfl, rfl, rfl, by decide +kernel, rfl, by decide +kernel, by decide +kernel⟩
abbrev s_Bench_plates : Stmt := inClass (topS 15) 6
abbrev n_Bench_plates : List Str := ["self"]
theorem sc_Bench_plates : FnScope ["self"] ["self"] (defScope s_Bench_plates) := ⟨rfl, rfl, rfl, by decide +kernel, rfl, by decide +kernel, by decide +kernel⟩
abbrev s_Bench___len__ : Stmt := inClass (topS 15) 3
abbrev n_Bench___len__ : List Str := ["self"]
theorem sc_Bench___len__ : FnScope ["self"] ["self"] (defScope s_Bench___len__) := ⟨rfl, rfl, rfl, by decide +kernel, rfl, by decide +kernel, by decide +kernel⟩
abbrev s_Bench___eq__ : Stmt := inClass (topS 15) 2
abbrev n_Bench___eq__ : List Str := ["self", "thing"]
theorem sc_Bench___eq__ : FnScope ["self", "thing"] ["self", "thing"] (defScope s_Bench___eq__) := ⟨rfl, rfl, rfl, by decide +kernel, rfl, by decide +kernel, by decide +kernel⟩
def spHardness (K : PySem.W.Frag) (C : Addr) : Sp := fun vs H Q _ => ∃ b B, vs = [.ref b] ∧ BenchAt K C H b B ∧ ∀ p, H p = none → Q (.ref p) (upd H p (.lst (B.hard.map V.int)))
def spWeights (K : PySem.W.Frag) (C : Addr) : Sp := fun vs H Q _ => ∃ b B, vs = [.ref b] ∧ BenchAt K C H b B ∧ ∀ p, H p = none → Q (.ref p) (upd H p (.lst (B.heavy.map V.int)))
def spGrindings (K : PySem.W.Frag) (C : Addr) : Sp := fun vs H Q _ => ∃ b B, vs = [.ref b] ∧ BenchAt K C H b B ∧ ∀ p xs, H p = none → DpAll K H xs (B.told.map gD) → Q (.ref p) (upd H p (.lst xs))
def spPlates (K : PySem.W.Frag) (C : Addr) : Sp := fun vs H Q _ => ∃ b B, vs = [.ref b] ∧ BenchAt K C H b B ∧ Q (.int B.hard.length) H
def spLen (K : PySem.W.Frag) (C : Addr) : Sp := fun vs H Q _ => ∃ b B, vs = [.ref b] ∧ BenchAt K C H b B ∧ Q (.int B.heavy.length) H
def spEq (K : PySem.W.Frag) (C : Addr) : Sp := fun vs H Q _ => ∃ b B c, vs = [.ref b, .ref c] ∧ BenchAt K C H b B ∧ ((∃ B', BenchAt K C H c B' ∧ ∀ H', Same H H' → Q (.bl (eqB B B')) H') ∨ ∃ xs, SqL K H c xs ∧ Q (.bl false) H)
theorem ok_hardness (B0 : Blt mg) (T : Txt K mg C) (F : MethAt K C "hardness" "Bench.hardness" s_Bench_hardness ["self"]) : DefM P w K mg base 1 C "hardness" ["self"] (spHardness K C) := by
  refine F.def (k := 0) sc_Bench_hardness (fun vs H Q E h => ?_) (fun f cdv A outer s H vs Q E hr h => ?_)
  · obtain ⟨b, B, rfl, _⟩ := h
    rfl
  · obtain ⟨b, B1, rfl, hB, q⟩ := h
    obtain ⟨dx, l1, l2, l3, l4, hb, h1, h2, h3, h4⟩ := hB.ex
    have B := B0
    refine ⟨_, (pss_one (ps_ret (pe_callTy (k_list (K := K) rfl) (by rfl) B.list bb_list (pa_cons (k_fld (K := K) rfl (pv 0) rfl) pa_nil)))), ?_⟩; refine start_eq (σ' := [some (.ref b)]) rfl ?_
    walk_at "rd"
    refine ⟨_, _, _, _, _, rfl, hb, T.cl, T.n_hard, fl_hard, ?_⟩
    walk_at "rd"
    exact s_listL h1 q
theorem ok_weights (B0 : Blt mg) (T : Txt K mg C) (F : MethAt K C "weights" "Bench.weights" s_Bench_weights ["self"]) : DefM P w K mg base 1 C "weights" ["self"] (spWeights K C) := by
  refine F.def (k := 0) sc_Bench_weights (fun vs H Q E h => ?_) (fun f cdv A outer s H vs Q E hr h => ?_)
  · obtain ⟨b, B, rfl, _⟩ := h
    rfl
  · obtain ⟨b, B1, rfl, hB, q⟩ := h
    obtain ⟨dx, l1, l2, l3, l4, hb, h1, h2, h3, h4⟩ := hB.ex
    have B := B0
    refine ⟨_, (pss_one (ps_ret (pe_callTy (k_list (K := K) rfl) (by rfl) B.list bb_list (pa_cons (k_fld (K := K) rfl (pv 0) rfl) pa_nil)))), ?_⟩; refine start_eq (σ' := [some (.ref b)]) rfl ?_
    walk_at "rd"
    refine ⟨_, _, _, _, _, rfl, hb, T.cl, T.n_heavy, fl_heavy, ?_⟩
    walk_at "rd"
    exact s_listL h3 q
theorem ok_grindings (B0 : Blt mg) (T : Txt K mg C) (F : MethAt K C "grindings" "Bench.grindings" s_Bench_grindings ["self"]) : DefM P w K mg base 1 C "grindings" ["self"] (spGrindings K C) := by
  refine F.def (k := 0) sc_Bench_grindings (fun vs H Q E h => ?_) (fun f cdv A outer s H vs Q E hr h => ?_)
  · obtain ⟨b, B, rfl, _⟩ := h
    rfl
  · obtain ⟨b, B1, rfl, hB, q⟩ := h
    obtain ⟨dx, l1, l2, l3, l4, hb, h1, h2, h3, h4⟩ := hB.ex
    obtain ⟨gx, hgx, hga⟩ := dp_list h2
    have B := B0
    refine ⟨_, (pss_one (ps_ret (pe_callTy (k_list (K := K) rfl) (by rfl) B.list bb_list (pa_cons (k_fld (K := K) rfl (pv 0) rfl) pa_nil)))), ?_⟩; refine start_eq (σ' := [some (.ref b)]) rfl ?_
    walk_at "rd"
    refine ⟨_, _, _, _, _, rfl, hb, T.cl, T.n_told, fl_told, ?_⟩
    walk_at "rd"
    exact s_listL hgx fun p np => q p gx np hga
theorem ok_plates (B0 : Blt mg) (T : Txt K mg C) (F : MethAt K C "plates" "Bench.plates" s_Bench_plates ["self"]) : DefM P w K mg base 1 C "plates" ["self"] (spPlates K C) := by
  refine F.def (k := 0) sc_Bench_plates (fun vs H Q E h => ?_) (fun f cdv A outer s H vs Q E hr h => ?_)
  · obtain ⟨b, B, rfl, _⟩ := h
    rfl
  · obtain ⟨b, B1, rfl, hB, q⟩ := h
    obtain ⟨dx, l1, l2, l3, l4, hb, h1, h2, h3, h4⟩ := hB.ex
    have B := B0
    refine ⟨_, (pss_one (ps_ret (pe_callB (k_len (K := K) rfl) (by rfl) B.len bb_len (pa_cons (k_fld (K := K) rfl (pv 0) rfl) pa_nil)))), ?_⟩; refine start_eq (σ' := [some (.ref b)]) rfl ?_
    walk_at "rd"
    refine ⟨_, _, _, _, _, rfl, hb, T.cl, T.n_hard, fl_hard, ?_⟩
    walk_at "rd"
    refine s_lenL h1 ?_
    rw [List.length_map]
    exact q
theorem ok_len (B0 : Blt mg) (T : Txt K mg C) (F : MethAt K C "__len__" "Bench.__len__" s_Bench___len__ ["self"]) : DefM P w K mg base 1 C "__len__" ["self"] (spLen K C) := by
  refine F.def (k := 0) sc_Bench___len__ (fun vs H Q E h => ?_) (fun f cdv A outer s H vs Q E hr h => ?_)
  · obtain ⟨b, B, rfl, _⟩ := h
    rfl
  · obtain ⟨b, B1, rfl, hB, q⟩ := h
    obtain ⟨dx, l1, l2, l3, l4, hb, h1, h2, h3, h4⟩ := hB.ex
    have B := B0
    refine ⟨_, (pss_one (ps_ret (pe_callB (k_len (K := K) rfl) (by rfl) B.len bb_len (pa_cons (k_fld (K := K) rfl (pv 0) rfl) pa_nil)))), ?_⟩; refine start_eq (σ' := [some (.ref b)]) rfl ?_
    walk_at "rd"
    refine ⟨_, _, _, _, _, rfl, hb, T.cl, T.n_heavy, fl_heavy, ?_⟩
    walk_at "rd"
    refine s_lenL h3 ?_
    rw [List.length_map]
    exact q
theorem ok_eq (B0 : Blt mg) (T : Txt K mg C) (TE : EqTxt K C) (F : MethAt K C "__eq__" "Bench.__eq__" s_Bench___eq__ ["self", "thing"]) : DefM P w K mg base 1 C "__eq__" ["self", "thing"] (spEq K C) := by
  refine F.def (k := 0) sc_Bench___eq__ (fun vs H Q E h => ?_) (fun f cdv A outer s H vs Q E hr h => ?_)
  · obtain ⟨b, B, c, rfl, _⟩ := h
    rfl
  · obtain ⟨b, B1, c, rfl, hB, h⟩ := h
    obtain ⟨dx, l1, l2, l3, l4, hb, h1, h2, h3, h4⟩ := hB.ex
    have B := B0
    refine ⟨_, (pss_cons (ps_if (pt_not (pt_val (pe_callB (k_isi (K := K) rfl) (by rfl) B.isinstance bb_isinstance (pa_cons (pv 1) (pa_cons (pe_glob (v := .ref C) (by rfl) T.m_Bench rfl) pa_nil))))) (pss_one (ps_ret pe_bl)) pss_nil) (pss_one (ps_ret (pe_cmpR (k_eq (K := K) rfl hr.units) (pe_tup (pa_cons (k_fld (K := K) rfl (pv 0) rfl) (pa_cons (k_fld (K := K) rfl (pv 0) rfl) (pa_cons (k_fld (K := K) rfl (pv 0) rfl) pa_nil)))) (pe_tup (pa_cons (k_fld (K := K) rfl (pv 1) rfl) (pa_cons (k_fld (K := K) rfl (pv 1) rfl) (pa_cons (k_fld (K := K) rfl (pv 1) rfl) pa_nil)))) (nomark _))))), ?_⟩; refine start_eq (σ' := [some (.ref b), some (.ref c)]) rfl ?_
    walk_at "rd"
    rcases h with ⟨B2, hC, q⟩ | ⟨xs, hx, q⟩
    · obtain ⟨dy, k1, k2, k3, k4, hc, j1, j2, j3, j4⟩ := hC.ex
      refine s_isi (.own C) (.base (.ins hc T.cl TE.ha TE.hn TE.ht TE.hm)) kit_self ?_
      walk_at "rd"
      refine ⟨_, _, _, _, _, rfl, hb, T.cl, T.n_hard, fl_hard, ?_⟩
      walk_at "rd"
      refine ⟨_, _, _, _, _, rfl, hb, T.cl, T.n_places, fl_places, ?_⟩
      walk_at "rd"
      refine ⟨_, _, _, _, _, rfl, hb, T.cl, T.n_told, fl_told, ?_⟩
      walk_at "rd"
      refine ⟨by show 3 ≤ sizeLine; decide, fun t1 n1 => ?_⟩
      have s1 : Same H (upd H t1 (.tup [.ref l1, .int B1.places, .ref l2])) := same_upd n1
      have e1 : (upd H t1 (.tup [.ref l1, .int B1.places, .ref l2])) t1 = some (.tup [.ref l1, .int B1.places, .ref l2]) := upd_same
      generalize upd H t1 (.tup [.ref l1, .int B1.places, .ref l2]) = H1 at *
      walk_at "rd"
      refine ⟨_, _, _, _, _, rfl, s1 _ _ hc, T.cl, T.n_hard, fl_hard, ?_⟩
      walk_at "rd"
      refine ⟨_, _, _, _, _, rfl, s1 _ _ hc, T.cl, T.n_places, fl_places, ?_⟩
      walk_at "rd"
      refine ⟨_, _, _, _, _, rfl, s1 _ _ hc, T.cl, T.n_told, fl_told, ?_⟩
      walk_at "rd"
      refine ⟨by show 3 ≤ sizeLine; decide, fun t2 n2 => ?_⟩
      have s2 : Same H1 (upd H1 t2 (.tup [.ref k1, .int B2.places, .ref k2])) := same_upd n2
      have e2 : (upd H1 t2 (.tup [.ref k1, .int B2.places, .ref k2])) t2 = some (.tup [.ref k1, .int B2.places, .ref k2]) := upd_same
      generalize upd H1 t2 (.tup [.ref k1, .int B2.places, .ref k2]) = H2 at *
      have s12 := s1.trans s2
      refine s_eqD (d := benchD B1) (e := benchD B2) (.tup (.inl (.inl (s2 _ _ e1))) (.cons (dp_lstI (sqL_mono s12 h1)) (.cons (.int _) (.cons (dp_mono s12 h2) .nil)))) (.tup (.inl (.inl e2)) (.cons (dp_lstI (sqL_mono s12 j1)) (.cons (.int _) (.cons (dp_mono s12 j2) .nil)))) (sh_shaped (sh_bench _)) (sh_shaped (sh_bench _)) ?_
      exact q _ s12
    · refine s_isi (.own C) (ty_lst hx) TE.kl ?_
      walk_at "rd"
      exact q
end
end G

namespace G.Q
open PySem PySem.Spec PyProof.Rows L2
/-! ## == and != of benches, of models; two lists at once; benches of lists of one's own -/
theorem hu66 {A : Around} {k : Nat} (h : Room k A) : A.units + 66 < cLine := by have := h.un; omega
abbrev rEqX (K : PySem.W.Frag) (C : Addr) : R2 := fun x y H Q => rOwnEq K C (spEq K C) id x y H Q ∨ rEqDK K x y H Q
abbrev rNeX (K : PySem.W.Frag) (C : Addr) : R2 := fun x y H Q => rNeU K x y H Q ∨ rOwnEq K C (spEq K C) not x y H Q
theorem k_eqX {X : Cx} {K : PySem.W.Frag} {C : Addr} (h : X.K = K) (D : DefM X.prog X.w X.K X.mg X.base 1 C "__eq__" ["self", "thing"] (spEq X.K C)) (hr : Room 3 X.A) : OpR X (compareOp .Eq) (rEqX K C) := by
  subst h
  exact op_or (op_ownEq D (hr.mono (by decide))) (op_eqDK (hu66 hr))
theorem k_neX {X : Cx} {K : PySem.W.Frag} {C : Addr} (h : X.K = K) (D : DefM X.prog X.w X.K X.mg X.base 1 C "__eq__" ["self", "thing"] (spEq X.K C)) (TE : EqTxt X.K C) (hr : Room 3 X.A) : OpR X (compareOp .NotEq) (rNeX K C) := by
  subst h
  exact op_or (k_ne rfl hr.units) (op_ownNe D hr TE.ne TE.hm)
def mvals (B : BD) : List PyData := [.list (B.hard.map PyData.int), .int B.places, .list (B.told.map gD), .list (B.heavy.map PyData.int), .list (B.meets.map fun r => .list (r.map pD))]
theorem mv_shaped (B : BD) : ∀ d ∈ mvals B, SeqAt.shaped d = true := fun d hd => by
  simp only [mvals, List.mem_cons, List.not_mem_nil, or_false] at hd
  rcases hd with rfl | rfl | rfl | rfl | rfl
  · exact sh_shaped (sh_listI _)
  · exact sh_shaped (sh_int _)
  · exact sh_shaped (sh_told B)
  · exact sh_shaped (sh_listI _)
  · have := (pl_meets B).sh
    rw [py_meets] at this
    exact sh_shaped this
def eqM (B B' : BD) : Bool := PyData.eqvAll (mvals B) (mvals B')
theorem eqM_iff {B B' : BD} (h : eqM B B' = true) : B = B' := by
  obtain ⟨a, b, c⟩ := B
  obtain ⟨a', b', c'⟩ := B'
  have h : (PyData.eqvAll (a.map PyData.int) (a'.map PyData.int) && (((b : Int) == (b' : Int)) && (PyData.eqvAll (c.map gD) (c'.map gD) && PyData.eqvAll _ _))) = true := h
  simp only [Bool.and_eq_true, beq_iff_eq] at h
  rw [eqvAll_ints] at h
  rw [of_decide_eq_true h.1, show b = b' by omega, eqvAll_gD h.2.2.1]
theorem eqM_self (B : BD) : eqM B B = true := by
  have : ∀ l : List PyData, (∀ d ∈ l, PyData.eqv d d = true) → PyData.eqvAll l l = true := fun l => by
    induction l with
    | nil => intro _; rfl
    | cons d l ih =>
      intro h
      show (PyData.eqv d d && PyData.eqvAll l l) = true
      rw [h d List.mem_cons_self, ih fun x hx => h x (List.mem_cons_of_mem _ hx)]
      rfl
  refine this _ fun d hd => ?_
  simp only [mvals, List.mem_cons, List.not_mem_nil, or_false] at hd
  rcases hd with rfl | rfl | rfl | rfl | rfl
  · exact eqv_self (sh_listI _)
  · exact eqv_self (sh_int _)
  · exact eqv_self (sh_told B)
  · exact eqv_self (sh_listI _)
  · have := (pl_meets B).sh
    rw [py_meets] at this
    exact eqv_self this
theorem eqB_eqM (B B' : BD) : eqB B B' = eqM B B' := Bool.eq_iff_iff.mpr ⟨fun h => by rw [eqB_iff h]; exact eqM_self _, fun h => by rw [eqM_iff h]; exact eqB_self _⟩
section
variable {mg : Str → Option Value} {M : Cm} {ρ : Rho} {k : D → Prop} {nx bk ct : Rho → Prop} {rt : Sl → Rho → Prop} {tr : TA} {te te2 : TE} {i j : Nat}
theorem op_eqXb {B1 B2 : BD} (T : Txt M.K mg M.C) (TE : EqTxt M.K M.C) (q : k (.bl (eqB B1 B2))) : OP M (rEqX M.K M.C) (.bench B1) (.bench B2) k := fun F H x y Q g0 rx ry f => by
  obtain ⟨b, rfl, h1⟩ := rx.bench
  obtain ⟨c, rfl, h2⟩ := ry.bench
  have h1 := h1.mono g0.sub
  have h2 := h2.mono g0.sub
  obtain ⟨dx, l1, l2, l3, l4, hb, _⟩ := h1.ex
  obtain ⟨dy, k1, k2, k3, k4, hc, _⟩ := h2.ex
  exact .inl ⟨b, dx, _, _, rfl, hb, .base (.ins hc T.cl TE.ha TE.hn TE.ht TE.hm), nf_self, b, B1, c, rfl, h1, .inl ⟨B2, h2, fun H' e => ⟨_, rfl, f _ _ F H' (XE.same g0 e) (.bl _) q⟩⟩⟩
theorem op_neXb {B1 B2 : BD} (T : Txt M.K mg M.C) (TE : EqTxt M.K M.C) (q : k (.bl (!eqB B1 B2))) : OP M (rNeX M.K M.C) (.bench B1) (.bench B2) k := fun F H x y Q g0 rx ry f => by
  obtain ⟨b, rfl, h1⟩ := rx.bench
  obtain ⟨c, rfl, h2⟩ := ry.bench
  have h1 := h1.mono g0.sub
  have h2 := h2.mono g0.sub
  obtain ⟨dx, l1, l2, l3, l4, hb, _⟩ := h1.ex
  obtain ⟨dy, k1, k2, k3, k4, hc, _⟩ := h2.ex
  exact .inr ⟨b, dx, _, _, rfl, hb, .base (.ins hc T.cl TE.ha TE.hn TE.ht TE.hm), nf_self, b, B1, c, rfl, h1, .inl ⟨B2, h2, fun H' e => ⟨_, rfl, f _ _ F H' (XE.same g0 e) (.bl _) q⟩⟩⟩
theorem op_eqXl {B1 : BD} {l : List D} (TE : EqTxt M.K M.C) (q : k (.bl false)) : OP M (rEqX M.K M.C) (.bench B1) (.lst l) k := fun F H x y Q g0 rx ry f => by
  obtain ⟨b, rfl, h1⟩ := rx.bench
  obtain ⟨p, vs, rfl, h2, _⟩ := ry.lst g0
  have h1 := h1.mono g0.sub
  obtain ⟨dx, l1, l2, l3, l4, hb, _⟩ := h1.ex
  exact .inl ⟨b, dx, _, _, rfl, hb, ty_lst h2, TE.nl, b, B1, p, rfl, h1, .inr ⟨vs, h2, _, rfl, f _ _ F H (XE.refl g0) (.bl _) q⟩⟩
theorem op_eqXd {B1 B2 : BD} (q : k (.bl (eqM B1 B2))) : OP M (rEqX M.K M.C) (modelD B1) (modelD B2) k := fun F H x y Q g0 rx ry f => by
  have key : ∀ {v : V} {B : BD}, RB M F H v (modelD B) → ∃ m, v = .ref m ∧ ModelAt M.K H m B := fun {v B} r => by
    obtain ⟨m, e, h⟩ := R_model (r.rv g0)
    exact ⟨m, e, h.mono Dl_sub⟩
  obtain ⟨a, rfl, h1⟩ := key rx
  obtain ⟨b, rfl, h2⟩ := key ry
  obtain ⟨l1, l2, l3, l4, ha, a1, a2, a3, a4⟩ := h1.ex
  obtain ⟨m1, m2, m3, m4, hb, b1, b2, b3, b4⟩ := h2.ex
  refine .inr ⟨a, b, _, _, mvals B1, mvals B2, rfl, rfl, ha, hb, rfl, (by show ([Sum.inr "hard", Sum.inr "places", Sum.inr "told", Sum.inr "heavy", Sum.inr "meets"] : List Key).Nodup; decide), ?_, ?_, mv_shaped B1, mv_shaped B2, f _ _ F H (XE.refl g0) (.bl _) q⟩
  · exact .cons (dp_lstI a1) (.cons (.int _) (.cons a2 (.cons (dp_lstI a3) (.cons a4 .nil))))
  · exact .cons (dp_lstI b1) (.cons (.int _) (.cons b2 (.cons (dp_lstI b3) (.cons b4 .nil))))
theorem ws_parO (ij : i ≠ j) (h : WO M te ρ fun l => WO M te2 ρ fun m => nx ((ρ.set i (some (.own l))).set j (some (.own m)))) : WS M (tPar i j (tCons te (tCons te2 tNil))) ρ nx rt bk ct := fun σ F H E e f1 f2 f3 f4 => h σ F H _ e fun p vs l F1 H1 x1 a1 a2 a3 a4 h2 => h2 σ F1 H1 _ (e.step x1) fun q us m F2 H2 x2 b1 b2 b3 b4 hq => by
  have e1 := e.step x1
  have e2 := e1.step x2
  have pq : p ≠ q := fun z => by rw [z, b3] at a1; cases a1
  have np : Dl M.st M.H0 p = none := by
    cases z : Dl M.st M.H0 p with
    | none => rfl
    | some o => have := e.x.ext.hh _ _ z; rw [a3] at this; cases this
  have nq : Dl M.st M.H0 q = none := by
    cases z : Dl M.st M.H0 q with
    | none => rfl
    | some o => have := e1.x.ext.hh _ _ z; rw [b3] at this; cases this
  have off : ∀ {H' F' : Hp} {y : Addr}, Fr M ρ σ F' H' → Dl M.st H' y = none → ∀ (c : Nat) s, ρ[c]? = some (some s) → s.mine = true → σ[c]? ≠ some (some (.ref y)) := fun {H' F' y} e' n c s hc m z => by
    obtain ⟨v, h1, h2⟩ := e'.each c s hc
    obtain ⟨y', o, rfl, c1, _⟩ := h2.mine_at m
    rw [z] at h1
    cases h1
    rw [n] at c1
    cases c1
  have g1 : Fr M (ρ.set i (some (.own l))) (σ.set i (some (.ref p))) F2 H2 := e2.putO ⟨p, vs, rfl, x2.ext.hh _ _ a1, x2.ext.fr _ _ a1 rfl a2, np, a4.mono x2.ff⟩ fun c s _ hc m => off e a3 c s hc m
  refine ⟨_, _, rfl, f1 _ _ F2 H2 (x1.trans x2).ff (g1.putO (i := j) (v := .ref q) (s0 := .own m) ⟨q, us, rfl, b1, b2, nq, b4⟩ fun c s hcj hc m' => ?_) hq⟩
  by_cases z : i = c
  · subst z
    intro y
    have il := (List.getElem?_eq_some_iff.mp hc).1
    rw [List.length_set] at il
    rw [List.getElem?_set_self (by rw [e.len]; exact il)] at y
    cases y
    exact pq rfl
  · rw [List.getElem?_set_ne z] at hc ⊢
    exact off e1 b3 c s hc m'
/-- a bench is made of lists of one's own, too -/
theorem we_mkBD (h : WAB M tr ρ fun ds => ∃ B, ds = [lI B.hard, .int B.places, toldX B] ∧ BOk B ∧ k (.bench B)) : WE M (tMake M.C (spInit M.K M.C) [] E0 tr) ρ k := fun σ F H Q e f => h σ F H _ e fun vs ds F1 H1 x1 r1 ⟨B, z, ok, q⟩ => by
  subst z
  have g := x1.gd
  cases r1 with | cons r1 r => cases r with | cons r2 r => cases r with | cons r3 r =>
  cases r
  cases r2.int
  obtain ⟨l2, v2, rfl, a2, b2⟩ := r3.lst g
  obtain ⟨l1, v1, rfl, a1, b1⟩ := r1.lst g
  rw [b1.ints] at a1
  have hga : DpAll M.K F1 v2 (B.told.map gD) := by
    have := RA.dpAll (n := 0) (fun v d hd r => by
      obtain ⟨x, _, rfl⟩ := List.mem_map.mp hd
      exact (pl_gDX x).dp r) b2
    rw [pys_map, List.map_map] at this
    rw [show B.told.map gD = B.told.map (D.py ∘ gDX) from List.map_congr_left fun x _ => (py_gDX x).symm]
    exact this
  intro x dx nx ndx nex
  refine ⟨x, dx, l1, l2, B, H1, F1, v2, rfl, rfl, nx, ndx, nex, g.sub, ok, a1, a2, hga, fun F' H' e' hb => ⟨rfl, ?_⟩⟩
  exact f _ _ F' H' (x1.pure e') (.bench hb) q
theorem we_neDX {ta tb : TE} (h : WD M ta ρ fun d => WD M tb ρ fun e => Pl 20 d ∧ Pl 20 e ∧ k (.bl (!eqD d e))) : WE M (tOp (rNeX M.K M.C) ta tb) ρ k := fun σ F H Q e f =>
  h σ F H _ e fun x d F1 H1 x1 r1 h1 => h1 σ F1 H1 _ (e.step x1) fun y d2 F2 H2 x2 r2 ⟨p1, p2, q⟩ =>
    .inl (s_neD (dp_mono Dl_sub (p1.dp (r1.mono x2.ext.hh))) (dp_mono Dl_sub (p2.dp r2)) (sh_shaped p1.sh) (sh_shaped p2.sh) (f _ _ F2 H2 (x1.trans x2) (.bl _) q))
theorem op_neXu {d e : D} (h : OP M (rNeU M.K) d e k) : OP M (rNeX M.K M.C) d e k := op_or1 h
/-- is True, is False of truths -/
theorem op_isnBB {a b : Bool} (q : k (.bl (!decide (a = b)))) : OP M (fun x y H Q => ∃ a b, x = V.bl a ∧ y = V.bl b ∧ Q (.bl (!decide (a = b))) H) (.bl a) (.bl b) k := fun F H x y Q g rx ry f => by
  cases rx.bl
  cases ry.bl
  exact ⟨a, b, rfl, rfl, f _ _ F H (XE.refl g) (.bl _) q⟩
end
end G.Q

namespace G
open PySem PySem.Spec PyProof.Rows L2
local macro_rules | `(tactic| walk_at "lk") => `(tactic| first | assumption | exact rT_at | exact rL_at | exact upd_same | (refine sqT_mono ?_ (by assumption); assumption) | (refine sqL_mono ?_ (by assumption); assumption) | (refine rT_new (by assumption) ?_; walk_at "lk") | (refine rL_new (by assumption) ?_; walk_at "lk") | (refine rH_new (by assumption) ?_; walk_at "lk") | (refine rD_new (by assumption) ?_; walk_at "lk") | (refine dp_mono ?_ (by assumption); assumption))
local macro_rules | `(tactic| walk_at "r1") => `(tactic| first | ((with_reducible show tVar _ _ _ _); refine s_var rfl ?_) | with_reducible refine s_c ?_ | with_reducible refine s_op ?_ | with_reducible refine s_un ?_ | with_reducible refine s_neg ?_ | with_reducible refine s_test ?_ | with_reducible refine s_B ?_ | with_reducible refine s_bl ?_ | with_reducible refine s_not ?_ | with_reducible refine s_yes ?_ | with_reducible refine s_and ?_ | with_reducible refine s_or ?_ | with_reducible refine s_notV ?_ | with_reducible refine s_andV ?_ | with_reducible refine s_orV ?_ | with_reducible refine s_if ?_ | with_reducible refine s_cT ?_ | with_reducible refine s_cF ?_ | with_reducible refine s_nT ?_ | with_reducible refine s_nF ?_ | with_reducible refine s_addI ?_ | with_reducible refine s_eqI ?_ | with_reducible refine s_neI ?_ | with_reducible refine s_eqB ?_ | with_reducible refine s_neB ?_ | with_reducible refine s_I0 ?_ | with_reducible refine s_non ?_ | with_reducible refine s_int ?_ | with_reducible refine s_chain ?_ | with_reducible refine s_cons ?_ | with_reducible refine s_nil ?_ | with_reducible refine s_call ?_ | with_reducible refine s_cb ?_ | with_reducible refine s_meth ?_ | with_reducible refine s_make ?_ | with_reducible refine s_tup ?_ | with_reducible refine s_lst ?_ | with_reducible refine s_bm ?_ | with_reducible refine s_bm0 ?_ | with_reducible refine s_bmT ?_ | with_reducible refine s_fld ?_ | with_reducible refine s_dget ?_ | with_reducible refine s_sl ?_ | with_reducible refine s_part ?_ | with_reducible refine s_nopart ?_ | with_reducible refine s_seq ?_ | with_reducible refine s_next ?_ | with_reducible refine s_asg ?_ | with_reducible refine s_gn ?_ | with_reducible refine s_gc ?_ | with_reducible refine s_g0 ?_ | with_reducible refine s_gs ?_ | with_reducible refine s_ret ?_ | with_reducible refine s_ifS ?_ | with_reducible refine s_drop ?_ | with_reducible refine s_augS ?_ | ((with_reducible show tAug _ _ _ _ _ _); refine s_aug rfl ?_) | with_reducible refine s_ipI ?_ | with_reducible refine s_for ?_ | with_reducible refine s_iseq ?_ | with_reducible refine s_rng1 ?_ | with_reducible refine s_izip ?_ | with_reducible refine s_lc ?_ | with_reducible refine s_lc2 ?_ | with_reducible refine s_lstRg ?_ | with_reducible refine s_rg1 ?_ | with_reducible refine s_sfld ?_ | with_reducible refine s_ienum ?_ | with_reducible refine s_disp ?_ | with_reducible refine s_pc ?_ | with_reducible refine s_pn ?_)
local macro_rules | `(tactic| walk_at "rd") => `(tactic| repeat walk_at "r1")

abbrev rLenU (K : PySem.W.Frag) (C : Addr) (sp : Sp) : List V → Hp → VK → Prop := fun vs H Q => rLen K vs H Q ∨ rOwnLen C sp vs H Q
theorem k_lenU {X : Cx} {K : PySem.W.Frag} {k : Nat} {C : Addr} {ps : List Str} {sp : Sp} (h : X.K = K) (D : DefM X.prog X.w X.K X.mg X.base k C "__len__" ps sp) (hr : Room (k + 1) X.A) : CallR X (.builtin "len") (rLenU K C sp) := cr_or (k_len h) (call_ownLen D hr)
def foundD (B : BD) : PyData := .list [.list (B.hard.map PyData.int), .int B.places, .list (B.told.map gD), .int B.hard.length, .int B.heavy.length, .list (B.heavy.map PyData.int)]
theorem sh_found (B : BD) : Sh 4 (foundD B) := sh_list fun d hd => by
  rcases List.mem_cons.mp hd with rfl | hd
  · exact sh_mono (sh_listI _) (by decide)
  rcases List.mem_cons.mp hd with rfl | hd
  · exact sh_mono (sh_int _) (by decide)
  rcases List.mem_cons.mp hd with rfl | hd
  · exact sh_told B
  rcases List.mem_cons.mp hd with rfl | hd
  · exact sh_mono (sh_int _) (by decide)
  rcases List.mem_cons.mp hd with rfl | hd
  · exact sh_mono (sh_int _) (by decide)
  rw [List.mem_singleton.mp hd]
  exact sh_mono (sh_listI _) (by decide)
theorem sh_pD (p : Nat × Nat) : Sh 1 (pD p) := sh_tuple fun d hd => by
  rcases List.mem_cons.mp hd with rfl | hd
  · exact sh_int _
  rw [List.mem_singleton.mp hd]
  exact sh_int _
theorem sh_pairs (ps : List (Nat × Nat)) : Sh 2 (.list (ps.map pD)) := sh_list fun d hd => by
  obtain ⟨x, _, rfl⟩ := List.mem_map.mp hd
  exact sh_pD x
section
variable {P : Program} {w : World} {K : PySem.W.Frag} {mg : Str → Option Value} {base : Heap} {C : Addr}
abbrev s__law_told : Stmt := topS 23
abbrev n__law_told : List Str := ["_law_bench_here", "_law_model", "_law_pairs", "_law_one", "_law_found", "_law_due", "_law_told_here"]
theorem sc__law_told : FnScope ["_law_bench_here", "_law_model", "_law_pairs", "_law_one", "_law_found", "_law_due", "_law_told_here"] ["_law_bench_here", "_law_model"] (defScope s__law_told) := ⟨rfl, rfl, rfl, by decide +kernel, rfl, by decide +kernel, by decide +kernel⟩
def spTold (K : PySem.W.Frag) (C : Addr) : Sp := fun vs H Q _ => ∃ b m B, vs = [.ref b, .ref m] ∧ BOk B ∧ BenchAt K C H b B ∧ ModelAt K H m B ∧ ∀ H', Same H H' → Q (.bl true) H'
theorem ok_told (B0 : Blt mg) (T : Txt K mg C) (d_Bench_hardness : DefM P w K mg base 1 C "hardness" ["self"] (spHardness K C)) (d_Bench_weights : DefM P w K mg base 1 C "weights" ["self"] (spWeights K C)) (d_Bench_grindings : DefM P w K mg base 1 C "grindings" ["self"] (spGrindings K C)) (d_Bench_plates : DefM P w K mg base 1 C "plates" ["self"] (spPlates K C))
    (d_Bench___len__ : DefM P w K mg base 1 C "__len__" ["self"] (spLen K C)) (d_Bench_meetings : DefM P w K mg base 1 C "meetings" ["self"] (spMeetings K C)) (F : FunAt K mg "_law_told" s__law_told ["_law_bench_here", "_law_model"]) : Def P w K mg base 3 "_law_told" ["_law_bench_here", "_law_model"] (spTold K C) := by
  refine F.def (k := 2) sc__law_told (fun vs H Q E h => ?_) (fun f cdv A outer s H vs Q E hr h => ?_)
  · obtain ⟨b, m, B, rfl, _⟩ := h
    rfl
  · obtain ⟨b, m, B1, rfl, ok, hB, hM, q⟩ := h
    obtain ⟨dx, l1, l2, l3, l4, hb, h1, h2, h3, h4⟩ := hB.ex
    obtain ⟨m1, m2, m3, m4, hm, j1, j2, j3, j4⟩ := hM.ex
    obtain ⟨mx, hmx, hma⟩ := dp_list j4
    have mlen : mx.length = B1.meets.length := by rw [dpAll_len hma, List.length_map]
    obtain ⟨rows, rlen, hrows⟩ := rows_of hma
    have B := B0
    have fall : DpAll K H rows.flatten (B1.meets.flatten.map pD) := by
      have := dpAll_flat (K := K) (H := H) (rows := rows) (ds := B1.meets.map fun r => r.map pD) (by simp [rlen]) fun i r d h1 h2 => by
        rw [List.getElem?_map] at h2
        cases hm : B1.meets[i]? with
        | none => rw [hm] at h2; cases h2
        | some m =>
          rw [hm] at h2
          cases h2
          obtain ⟨a, ys, _, q2, _, q4⟩ := hrows i m hm
          rw [h1] at q2
          cases q2
          exact q4
      rw [List.map_flatten]
      exact this
    have flen : rows.flatten.length ≤ 18 := by
      rw [dpAll_len fall, List.length_map]
      exact ok.flat_b.2
    have sz : ∀ i : Nat, (rows.take i).flatten.length ≤ rows.flatten.length := fun i => by
      conv => rhs; rw [← List.take_append_drop i rows, List.flatten_append, List.length_append]
      omega
    refine ⟨_, (pss_cons (ps_set (i := 2) sc__law_told.nd rfl (Or.inl rfl) (pe_lst pa_nil)) (pss_cons (ps_for PassesOwn.never rfl (k_seq (K := K) rfl (pe_dget (hu_of hr) (pv 1) pe_str (fun _ _ => rfl))) (pg_name (i := 3) sc__law_told.nd rfl (Or.inl rfl)) (pss_one (ps_expr (k_bm (K := K) rfl PySem.F.plainAttrs_list PySem.F.slot_list_extend PySem.F.type_list_extend (k_extendS (K := K) rfl) (pv 2) (pa_cons (pv 3) pa_nil))))) (pss_cons (ps_set (i := 4) sc__law_told.nd rfl (Or.inl rfl) (pe_lst (pa_cons (pe_dm0 d_Bench_hardness (hr.mono (by decide)) T.cl (pv 0)) (pa_cons (k_fld (K := K) rfl (pv 0) rfl) (pa_cons (pe_dm0 d_Bench_grindings (hr.mono (by decide)) T.cl (pv 0)) (pa_cons (pe_dm0 d_Bench_plates (hr.mono (by decide)) T.cl (pv 0)) (pa_cons (pe_callB (k_lenU (K := K) rfl d_Bench___len__ (hr.mono (by decide))) (by rfl) B.len bb_len (pa_cons (pv 0) pa_nil)) (pa_cons (pe_dm0 d_Bench_weights (hr.mono (by decide)) T.cl (pv 0)) pa_nil)))))))) (pss_cons (ps_set (i := 5) sc__law_told.nd rfl (Or.inl rfl) (pe_lst (pa_cons (pe_dget (hu_of hr) (pv 1) pe_str (fun _ _ => rfl)) (pa_cons (pe_dget (hu_of hr) (pv 1) pe_str (fun _ _ => rfl)) (pa_cons (pe_dget (hu_of hr) (pv 1) pe_str (fun _ _ => rfl)) (pa_cons (pe_callB (k_lenU (K := K) rfl d_Bench___len__ (hr.mono (by decide))) (by rfl) B.len bb_len (pa_cons (pe_dget (hu_of hr) (pv 1) pe_str (fun _ _ => rfl)) pa_nil)) (pa_cons (pe_callB (k_lenU (K := K) rfl d_Bench___len__ (hr.mono (by decide))) (by rfl) B.len bb_len (pa_cons (pe_dget (hu_of hr) (pv 1) pe_str (fun _ _ => rfl)) pa_nil)) (pa_cons (pe_dget (hu_of hr) (pv 1) pe_str (fun _ _ => rfl)) pa_nil)))))))) (pss_cons (ps_if (PW.pt (pw_or (pt_cmpR (k_ne (K := K) rfl hr.units) (pv 4) (pv 5) (nomark _)) (pw_or1 (pt_cmpR (k_ne (K := K) rfl hr.units) (pe_dm0 d_Bench_meetings (hr.mono (by decide)) T.cl (pv 0)) (pv 2) (nomark _))))) (pss_one (ps_ret pe_bl)) pss_nil) (pss_cons (ps_for PassesOwn.never rfl (k_seq (K := K) rfl (pe_lst (pa_cons (pe_dm0 d_Bench_hardness (hr.mono (by decide)) T.cl (pv 0)) (pa_cons (pe_dm0 d_Bench_grindings (hr.mono (by decide)) T.cl (pv 0)) (pa_cons (pe_dm0 d_Bench_weights (hr.mono (by decide)) T.cl (pv 0)) (pa_cons (pe_dm0 d_Bench_meetings (hr.mono (by decide)) T.cl (pv 0)) pa_nil)))))) (pg_name (i := 6) sc__law_told.nd rfl (Or.inl rfl)) (pss_one (ps_expr (k_bm (K := K) rfl PySem.F.plainAttrs_list PySem.F.slot_list_append PySem.F.type_list_append mt_append (pv 6) (pa_cons pe_non pa_nil))))) (pss_one (ps_ret (pe_and (pe_cmpR (k_eq (K := K) rfl hr.units) (pe_dm0 d_Bench_meetings (hr.mono (by decide)) T.cl (pv 0)) (pv 2) (nomark _)) (pe_and (pe_cmpR (k_eq (K := K) rfl hr.units) (pe_dm0 d_Bench_hardness (hr.mono (by decide)) T.cl (pv 0)) (pe_dget (hu_of hr) (pv 1) pe_str (fun _ _ => rfl)) (nomark _)) (pe_one (pe_cmpR (k_eq (K := K) rfl hr.units) (pe_dm0 d_Bench_weights (hr.mono (by decide)) T.cl (pv 0)) (pe_dget (hu_of hr) (pv 1) pe_str (fun _ _ => rfl)) (nomark _))))))))))))), ?_⟩; refine start_eq (σ' := [some (.ref b), some (.ref m), none, none, none, none, none]) rfl ?_
    walk_at "rd"
    refine ⟨Nat.zero_le _, fun lp nlp => ?_⟩
    have s1 : Same H (upd H lp (.lst [])) := same_upd nlp
    have hlp : (upd H lp (.lst [])) lp = some (.lst []) := upd_same
    generalize upd H lp (.lst []) = H1 at *
    walk_at "rd"
    refine s_dgk (s1 _ _ hm) mv_meets ?_
    refine .inl ⟨_, rfl, ⟨_, sqL_mono s1 hmx⟩, ?_⟩
    refine for_w (walk_list (xs := mx)) (fun i σ Hx => ∃ y3, σ = [some (.ref b), some (.ref m), some (.ref lp), y3, none, none, none] ∧ Same H Hx ∧ Hx lp = some (.lst (rows.take i).flatten)) ?_ ?_ ?_ ?_
    · exact ⟨_, rfl, s1, hlp⟩
    · rintro i σ Hx _ ⟨y3, _, e, _⟩
      exact sqL_mono e hmx
    · rintro i v σ Hx Hy hi ⟨y3, rfl, e, hx⟩ ⟨rfl, hv⟩
      have hi : i < B1.meets.length := by omega
      obtain ⟨ra, ys, q1, q2, q3, q4⟩ := hrows i _ (List.getElem?_eq_getElem hi)
      rw [hv] at q1
      cases q1
      have ht : (rows.take (i + 1)).flatten = (rows.take i).flatten ++ ys := by
        rw [List.take_add_one, q2, List.flatten_append]
        simp
      have z1 := sz (i + 1)
      rw [ht, List.length_append] at z1
      walk_at "rd"
      refine ⟨tyV_lst hx, ?_⟩
      walk_at "rd"
      refine s_extS hx (sqL_mono e q3) (by omega) ?_
      refine ⟨_, rfl, same_updR e nlp, ?_⟩
      rw [upd_same, ht]
    · rintro σ H2 ⟨y3, rfl, s2, hlp2⟩
      rw [List.take_of_length_le (by omega)] at hlp2
      have fH2 : DpAll K H2 rows.flatten (B1.meets.flatten.map pD) := dpAll_mono s2 fall
      walk_at "rd"
      refine ⟨b, dx, _, rfl, s2 _ _ hb, rfl, ?_⟩
      walk_at "rd"
      refine ⟨b, B1, rfl, hB.mono s2, fun p1 np1 => ?_⟩
      have s3 := s2.trans (same_upd (o := .lst (B1.hard.map V.int)) np1)
      have t3 : Same H2 (upd H2 p1 (.lst (B1.hard.map V.int))) := same_upd np1
      have e1 : SqL K (upd H2 p1 (.lst (B1.hard.map V.int))) p1 (B1.hard.map V.int) := rL_at
      generalize upd H2 p1 (.lst (B1.hard.map V.int)) = H3 at *
      walk_at "rd"
      refine ⟨_, _, _, _, _, rfl, s3 _ _ hb, T.cl, T.n_places, fl_places, ?_⟩
      walk_at "rd"
      refine ⟨b, dx, _, rfl, s3 _ _ hb, rfl, ?_⟩
      walk_at "rd"
      refine ⟨b, B1, rfl, hB.mono s3, fun p2 gx np2 hgx => ?_⟩
      have s4 := s3.trans (same_upd (o := .lst gx) np2)
      have t4 : Same H3 (upd H3 p2 (.lst gx)) := same_upd np2
      have e2 : SqL K (upd H3 p2 (.lst gx)) p2 gx := rL_at
      generalize upd H3 p2 (.lst gx) = H4 at *
      have e2 := Dp.lst e2 (dpAll_mono t4 hgx)
      walk_at "rd"
      refine ⟨b, dx, _, rfl, s4 _ _ hb, rfl, ?_⟩
      walk_at "rd"
      refine ⟨b, B1, rfl, hB.mono s4, ?_⟩
      walk_at "rd"
      refine .inr ⟨b, dx, _, rfl, s4 _ _ hb, b, B1, rfl, hB.mono s4, _, rfl, by have := ok.heavy_lt; omega, ?_⟩
      walk_at "rd"
      refine ⟨b, dx, _, rfl, s4 _ _ hb, rfl, ?_⟩
      walk_at "rd"
      refine ⟨b, B1, rfl, hB.mono s4, fun p3 np3 => ?_⟩
      have s5 := s4.trans (same_upd (o := .lst (B1.heavy.map V.int)) np3)
      have t5 : Same H4 (upd H4 p3 (.lst (B1.heavy.map V.int))) := same_upd np3
      have e3 : SqL K (upd H4 p3 (.lst (B1.heavy.map V.int))) p3 (B1.heavy.map V.int) := rL_at
      generalize upd H4 p3 (.lst (B1.heavy.map V.int)) = H5 at *
      walk_at "rd"
      refine ⟨by show 6 ≤ sizeLine; decide, fun pf npf => ?_⟩
      have s6 := s5.trans (same_upd (o := .lst [.ref p1, .int B1.places, .ref p2, .int B1.hard.length, .int B1.heavy.length, .ref p3]) npf)
      have t6 : Same H5 (upd H5 pf (.lst [.ref p1, .int B1.places, .ref p2, .int B1.hard.length, .int B1.heavy.length, .ref p3])) := same_upd npf
      have ef : SqL K (upd H5 pf (.lst [.ref p1, .int B1.places, .ref p2, .int B1.hard.length, .int B1.heavy.length, .ref p3])) pf [.ref p1, .int B1.places, .ref p2, .int B1.hard.length, .int B1.heavy.length, .ref p3] := rL_at
      generalize upd H5 pf (.lst [.ref p1, .int B1.places, .ref p2, .int B1.hard.length, .int B1.heavy.length, .ref p3]) = H6 at *
      have dF : Dp K H6 (.ref pf) (foundD B1) := .lst ef (.cons (dp_lstI (sqL_mono (t4.trans (t5.trans t6)) e1)) (.cons (.int _) (.cons (dp_mono (t5.trans t6) e2) (.cons (.int _) (.cons (.int _) (.cons (dp_lstI (sqL_mono t6 e3)) .nil))))))
      have t26 := t3.trans (t4.trans (t5.trans t6))
      walk_at "rd"
      refine s_dgk (s6 _ _ hm) mv_hard ?_
      walk_at "rd"
      refine s_dgk (s6 _ _ hm) mv_places ?_
      walk_at "rd"
      refine s_dgk (s6 _ _ hm) mv_told ?_
      walk_at "rd"
      refine s_dgk (s6 _ _ hm) mv_hard ?_
      walk_at "rd"
      refine .inl (s_lenL (sqL_mono s6 j1) ?_)
      walk_at "rd"
      refine s_dgk (s6 _ _ hm) mv_heavy ?_
      walk_at "rd"
      refine .inl (s_lenL (sqL_mono s6 j3) ?_)
      walk_at "rd"
      refine s_dgk (s6 _ _ hm) mv_heavy ?_
      walk_at "rd"
      rw [List.length_map, List.length_map]
      refine ⟨by show 6 ≤ sizeLine; decide, fun pd npd => ?_⟩
      have s7 := s6.trans (same_upd (o := .lst [.ref m1, .int B1.places, .ref m2, .int B1.hard.length, .int B1.heavy.length, .ref m3]) npd)
      have t7 : Same H6 (upd H6 pd (.lst [.ref m1, .int B1.places, .ref m2, .int B1.hard.length, .int B1.heavy.length, .ref m3])) := same_upd npd
      have ed : SqL K (upd H6 pd (.lst [.ref m1, .int B1.places, .ref m2, .int B1.hard.length, .int B1.heavy.length, .ref m3])) pd [.ref m1, .int B1.places, .ref m2, .int B1.hard.length, .int B1.heavy.length, .ref m3] := rL_at
      generalize upd H6 pd (.lst [.ref m1, .int B1.places, .ref m2, .int B1.hard.length, .int B1.heavy.length, .ref m3]) = H7 at *
      have dD : Dp K H7 (.ref pd) (foundD B1) := .lst ed (.cons (dp_lstI (sqL_mono s7 j1)) (.cons (.int _) (.cons (dp_mono s7 j2) (.cons (.int _) (.cons (.int _) (.cons (dp_lstI (sqL_mono s7 j3)) .nil))))))
      have t27 := t26.trans t7
      walk_at "rd"
      refine s_neD (dp_mono t7 dF) dD (sh_shaped (sh_found _)) (sh_shaped (sh_found _)) ?_
      rw [eqv_self (sh_found _)]
      walk_at "rd"
      refine ⟨b, dx, _, rfl, s7 _ _ hb, rfl, ?_⟩
      walk_at "rd"
      refine ⟨b, B1, rfl, ok, hB.mono s7, fun H8 p8 xs8 t8 n8 hp8 d8 => ?_⟩
      have s8 := s7.trans t8
      have t28 := t27.trans t8
      walk_at "rd"
      refine s_neD (.lst (.inl (.inl hp8)) (dpAll_mono t8 d8)) (.lst (.inl (.inl (t28 _ _ hlp2))) (dpAll_mono t28 fH2)) (sh_shaped (sh_pairs _)) (sh_shaped (sh_pairs _)) ?_
      rw [eqv_self (sh_pairs _)]
      walk_at "rd"
      refine ⟨b, dx, _, rfl, s8 _ _ hb, rfl, ?_⟩
      walk_at "rd"
      refine ⟨b, B1, rfl, hB.mono s8, fun c1 nc1 => ?_⟩
      have u1 : Same H8 (upd H8 c1 (.lst (B1.hard.map V.int))) := same_upd nc1
      have k1 : (upd H8 c1 (.lst (B1.hard.map V.int))) c1 = some (.lst (B1.hard.map V.int)) := upd_same
      generalize upd H8 c1 (.lst (B1.hard.map V.int)) = G1 at *
      walk_at "rd"
      refine ⟨b, dx, _, rfl, (s8.trans u1) _ _ hb, rfl, ?_⟩
      walk_at "rd"
      refine ⟨b, B1, rfl, hB.mono (s8.trans u1), fun c2 gy nc2 hgy => ?_⟩
      have u2 : Same G1 (upd G1 c2 (.lst gy)) := same_upd nc2
      have k2 : (upd G1 c2 (.lst gy)) c2 = some (.lst gy) := upd_same
      have gyl : gy.length ≤ 6 := by rw [dpAll_len hgy, List.length_map]; exact ok.told.2
      generalize upd G1 c2 (.lst gy) = G2 at *
      have u12 := u1.trans u2
      walk_at "rd"
      refine ⟨b, dx, _, rfl, (s8.trans u12) _ _ hb, rfl, ?_⟩
      walk_at "rd"
      refine ⟨b, B1, rfl, hB.mono (s8.trans u12), fun c3 nc3 => ?_⟩
      have u3 : Same G2 (upd G2 c3 (.lst (B1.heavy.map V.int))) := same_upd nc3
      have k3 : (upd G2 c3 (.lst (B1.heavy.map V.int))) c3 = some (.lst (B1.heavy.map V.int)) := upd_same
      generalize upd G2 c3 (.lst (B1.heavy.map V.int)) = G3 at *
      have u13 := u12.trans u3
      walk_at "rd"
      refine ⟨b, dx, _, rfl, (s8.trans u13) _ _ hb, rfl, ?_⟩
      walk_at "rd"
      refine ⟨b, B1, rfl, ok, hB.mono (s8.trans u13), fun G4 c4 gz u4 nc4 k4 hgz => ?_⟩
      have gzl : gz.length ≤ 18 := by rw [dpAll_len hgz, List.length_map]; exact ok.flat_b.2
      have u14 := u13.trans u4
      walk_at "rd"
      refine ⟨by show 4 ≤ sizeLine; decide, fun c5 nc5 => ?_⟩
      have u5 : Same G4 (upd G4 c5 (.lst [.ref c1, .ref c2, .ref c3, .ref c4])) := same_upd nc5
      have k5 : (upd G4 c5 (.lst [.ref c1, .ref c2, .ref c3, .ref c4])) c5 = some (.lst [.ref c1, .ref c2, .ref c3, .ref c4]) := upd_same
      generalize upd G4 c5 (.lst [.ref c1, .ref c2, .ref c3, .ref c4]) = G5 at *
      have u15 := u14.trans u5
      have nc2' := u1.free nc2
      have nc3' := u12.free nc3
      have nc4' := u13.free nc4
      have ne1 : c1 ≠ c5 := fun z => by rw [← z, (u2.trans (u3.trans u4)) _ _ k1] at nc5; cases nc5
      have ne2 : c2 ≠ c5 := fun z => by rw [← z, (u3.trans u4) _ _ k2] at nc5; cases nc5
      have ne3 : c3 ≠ c5 := fun z => by rw [← z, u4 _ _ k3] at nc5; cases nc5
      have ne4 : c4 ≠ c5 := fun z => by rw [← z, k4] at nc5; cases nc5
      have pl := ok.plates
      have hvl := ok.heavy_lt
      refine .inl ⟨c5, rfl, ⟨_, .inl (.inl k5)⟩, ?_⟩
      refine for_w (walk_list (xs := [.ref c1, .ref c2, .ref c3, .ref c4])) (fun i σ Hx => ∃ y6, σ = [some (.ref b), some (.ref m), some (.ref lp), y3, some (.ref pf), some (.ref pd), y6] ∧ Same H8 Hx ∧ Hx c5 = some (.lst [.ref c1, .ref c2, .ref c3, .ref c4]) ∧ ∀ p ∈ [c1, c2, c3, c4], ∃ ys, Hx p = some (.lst ys) ∧ ys.length ≤ 1000 + i) ?_ ?_ ?_ ?_
      · refine ⟨_, rfl, u15, k5, fun p hp => ?_⟩
        simp only [List.mem_cons, List.not_mem_nil, or_false] at hp
        rcases hp with rfl | rfl | rfl | rfl
        · exact ⟨_, (u2.trans (u3.trans (u4.trans u5))) _ _ k1, by simp; omega⟩
        · exact ⟨_, (u3.trans (u4.trans u5)) _ _ k2, by omega⟩
        · exact ⟨_, (u4.trans u5) _ _ k3, by simp; omega⟩
        · exact ⟨_, u5 _ _ k4, by omega⟩
      · rintro i σ Hx _ ⟨_, _, _, e, _⟩
        exact .inl (.inl e)
      · rintro i v σ Hx Hy hi ⟨y6, rfl, e, hc5, hp⟩ ⟨rfl, hv⟩
        have hi4 : i < 4 := hi
        obtain ⟨p, hpm, rfl, np, npc⟩ : ∃ p ∈ [c1, c2, c3, c4], v = .ref p ∧ H8 p = none ∧ p ≠ c5 := by
          have : i = 0 ∨ i = 1 ∨ i = 2 ∨ i = 3 := by omega
          rcases this with rfl | rfl | rfl | rfl <;> simp at hv <;> subst hv
          · exact ⟨c1, by simp, rfl, nc1, ne1⟩
          · exact ⟨c2, by simp, rfl, nc2', ne2⟩
          · exact ⟨c3, by simp, rfl, nc3', ne3⟩
          · exact ⟨c4, by simp, rfl, nc4', ne4⟩
        obtain ⟨ys, hys, yl⟩ := hp p hpm
        walk_at "rd"
        refine ⟨tyV_lst hys, ?_⟩
        walk_at "rd"
        refine s_app hys (by omega) ?_
        refine ⟨_, rfl, same_updR e np, by rw [upd_ne (Ne.symm npc)]; exact hc5, fun p' hp' => ?_⟩
        by_cases z : p' = p
        · subst z
          exact ⟨_, upd_same, by simp; omega⟩
        · obtain ⟨ys', h1, h2⟩ := hp p' hp'
          exact ⟨ys', by rw [upd_ne z]; exact h1, by omega⟩
      · rintro σ H9 ⟨y6, rfl, t9, _⟩
        have s9 := s8.trans t9
        have t29 := t28.trans t9
        walk_at "rd"
        refine ⟨b, dx, _, rfl, s9 _ _ hb, rfl, ?_⟩
        walk_at "rd"
        refine ⟨b, B1, rfl, ok, hB.mono s9, fun H10 pa xa ta na ha da => ?_⟩
        walk_at "rd"
        refine s_eqD (.lst (.inl (.inl ha)) (dpAll_mono ta da)) (.lst (.inl (.inl ((t29.trans ta) _ _ hlp2))) (dpAll_mono (t29.trans ta) fH2)) (sh_shaped (sh_pairs _)) (sh_shaped (sh_pairs _)) ?_
        rw [eqv_self (sh_pairs _)]
        have s10 := s9.trans ta
        walk_at "rd"
        refine ⟨b, dx, _, rfl, s10 _ _ hb, rfl, ?_⟩
        walk_at "rd"
        refine ⟨b, B1, rfl, hB.mono s10, fun pb npb => ?_⟩
        have s11 := s10.trans (same_upd (o := .lst (B1.hard.map V.int)) npb)
        have eb : SqL K (upd H10 pb (.lst (B1.hard.map V.int))) pb (B1.hard.map V.int) := rL_at
        generalize upd H10 pb (.lst (B1.hard.map V.int)) = H11 at *
        walk_at "rd"
        refine s_dgk (s11 _ _ hm) mv_hard ?_
        walk_at "rd"
        refine s_eqD (dp_lstI eb) (dp_lstI (sqL_mono s11 j1)) (sh_shaped (sh_listI _)) (sh_shaped (sh_listI _)) ?_
        rw [eqv_self (sh_listI _)]
        walk_at "rd"
        refine ⟨b, dx, _, rfl, s11 _ _ hb, rfl, ?_⟩
        walk_at "rd"
        refine ⟨b, B1, rfl, hB.mono s11, fun pc npc => ?_⟩
        have s12 := s11.trans (same_upd (o := .lst (B1.heavy.map V.int)) npc)
        have ec : SqL K (upd H11 pc (.lst (B1.heavy.map V.int))) pc (B1.heavy.map V.int) := rL_at
        generalize upd H11 pc (.lst (B1.heavy.map V.int)) = H12 at *
        walk_at "rd"
        refine s_dgk (s12 _ _ hm) mv_heavy ?_
        walk_at "rd"
        refine s_eqD (dp_lstI ec) (dp_lstI (sqL_mono s12 j3)) (sh_shaped (sh_listI _)) (sh_shaped (sh_listI _)) ?_
        rw [eqv_self (sh_listI _)]
        walk_at "rd"
        exact q _ s12
end
end G

namespace G.Q
open PySem PySem.Spec PyProof.Rows L2
local macro_rules | `(tactic| walk_at "d1") => `(tactic| first | with_reducible refine ws_seq ?_ | with_reducible refine ws_next ?_ | with_reducible refine ws_ret ?_ | with_reducible refine ws_retN ?_ | with_reducible refine ws_if ?_ | ((with_reducible show WS _ (tDrop (tBM _ "list" _ (tVar _) _)) _ _ _ _ _); refine ws_mt rfl ?_) | ((with_reducible show WS _ (tDrop (tBM0 _ "list" _ (tVar _))) _ _ _ _ _); refine ws_mt0 rfl ?_) | ((with_reducible show WS _ (tAsg (tBM _ "list" _ (tVar _) _) (gName _)) _ _ _ _ _); refine ws_mtS rfl ?_) | ((with_reducible show WS _ (tAsg (tBM0 _ "list" _ (tVar _)) (gName _)) _ _ _ _ _); refine ws_mt0S rfl ?_) | ((with_reducible show WS _ (tAsgO (tDisp _) _) _ _ _ _ _); refine ws_setOwnK ?_) | ((with_reducible show WS _ (tAsgO tDNewK _) _ _ _ _ _); refine ws_setOwnK ?_) | ((with_reducible show WS _ (tAsgO (tDc _ _ _ _ _ _) _) _ _ _ _ _); refine ws_setOwnK ?_) | ((with_reducible show WS _ (tAsgO tDNewT _) _ _ _ _ _); refine ws_setOwnT ?_) | ((with_reducible show WS _ (tAsgO (tDispT1 _ _) _) _ _ _ _ _); refine ws_setOwnT ?_) | with_reducible refine ws_setOwn ?_ | ((with_reducible show WS _ (tAsg _ (gSub (tVar _) _ rSetL)) _ _ _ _ _); first | refine ws_setItem rfl ?_ | refine ws_setWl rfl ?_) | ((with_reducible show WS _ (tAugS (tVar _) _ _ _ _ _) _ _ _ _ _); refine ws_augItem rfl ?_) | ((with_reducible show WS _ (sDPut (tVar _) _ _) _ _ _ _ _); first | refine ws_dput rfl ?_ | refine ws_dputT rfl ?_) | ((with_reducible show WS _ (tDrop (tBM _ "dict" rUpd (tVar _) _)) _ _ _ _ _); refine ws_upd rfl ?_) | ((with_reducible show WS _ (tAsg (tCall (spDS _ _ _) _ _ _) (gName _)) _ _ _ _ _); refine ws_asgS ?_) | with_reducible refine ws_asg ?_ | with_reducible refine ws_drop ?_ | ((with_reducible show WS _ (tAug _ _ _) _ _ _ _ _); refine ws_aug rfl ?_) | with_reducible refine ws_par ?_ | with_reducible refine ws_break ?_ | with_reducible refine ws_cont ?_ | with_reducible refine wg_name (by first | trivial | decide) ?_ | with_reducible refine wg_tup rfl ?_ | with_reducible refine wg_stn rfl ?_ | with_reducible refine wg_lst rfl ?_ | with_reducible refine wgs_cons ?_ | with_reducible refine wgs_nil ?_ | with_reducible refine wgs_consM ?_ | with_reducible refine wgs_nilM ?_ | ((with_reducible show WE _ (tVar _) _ _); refine we_var rfl ?_) | with_reducible refine we_int ?_ | with_reducible refine we_str ?_ | with_reducible refine we_bl ?_ | with_reducible refine we_non ?_ | with_reducible refine wt_test ?_ | with_reducible refine wt_B ?_ | with_reducible refine wt_not ?_ | with_reducible refine wt_and ?_ | with_reducible refine wt_or ?_ | with_reducible refine wt_yes ?_ | with_reducible refine we_isi ?_ | with_reducible refine we_notV ?_ | with_reducible refine we_andV ?_ | with_reducible refine we_orV ?_ | with_reducible refine we_if ?_ | with_reducible refine we_chain ?_ | with_reducible refine we_un ?_ | with_reducible refine ou_neg ?_ | with_reducible refine we_call ?_ | with_reducible refine we_meth (by decide) ?_ | with_reducible refine we_tupK2 ?_ | with_reducible refine we_tup ?_ | with_reducible refine wa_cons ?_ | with_reducible refine wa_nil ?_ | with_reducible refine wab_cons ?_ | with_reducible refine wab_nil ?_ | with_reducible refine WO.we (wo_lst ?_) | with_reducible refine wo_lst ?_ | with_reducible refine we_op ?_ | ((with_reducible show WO _ (tOp rMulS (tLst _) _) _ _); refine wo_rep ?_) | with_reducible refine wo_op ?_ | with_reducible refine we_cb ?_ | with_reducible refine wo_cb ?_ | ((with_reducible show WE _ (tFld _ _ "hard") _ _); refine we_hard (by assumption) ?_) | ((with_reducible show WE _ (tFld _ _ "heavy") _ _); refine we_heavy (by assumption) ?_) | ((with_reducible show WE _ (tFld _ _ "places") _ _); refine we_places (by assumption) ?_) | ((with_reducible show WE _ (tFld _ _ "told") _ _); refine we_told (by assumption) ?_) | ((with_reducible show WE _ (tFld _ _ "meets") _ _); refine we_meets (by assumption) ?_) | ((with_reducible show WB _ (tVar _) _ _); first | refine wb_own rfl ?_ | refine wb_ownK rfl ?_ | refine wb_ownT rfl ?_ | refine wb_lkT rfl (by assumption) ?_ | refine wb_wl rfl ?_) | with_reducible refine WE.wb ?_ | with_reducible refine op_addSI ?_ | with_reducible refine op_I0i ?_ | with_reducible refine op_I0b ?_ | with_reducible refine op_eqII ?_ | with_reducible refine op_neII ?_ | with_reducible refine op_eqBB ?_ | with_reducible refine op_neBB ?_ | with_reducible refine op_eqSS ?_ | with_reducible refine op_neSS ?_ | with_reducible refine op_isNn ?_ | with_reducible refine op_notNn ?_ | with_reducible refine op_ip ?_ | ((with_reducible show OP _ (rIx _) (D.tup _) (D.int _) _); refine op_ixT (by rfl) ?_) | ((with_reducible show OP _ (rIx _) (D.lst _) (D.int _) _); refine op_ixL (by rfl) ?_) | with_reducible refine cr_lenDK ?_ | with_reducible refine cr_lenDT ?_ | with_reducible refine cr_lenL ?_ | with_reducible refine cr_lenT ?_ | with_reducible refine cr_lenS ?_ | with_reducible refine cr_lenX ?_ | with_reducible refine cr_tupX ?_ | with_reducible refine cr_sumS ?_ | with_reducible refine cr_sumLi ?_ | with_reducible refine cr_sumTi ?_ | with_reducible refine cr_allB ?_ | with_reducible refine cr_anyB ?_ | with_reducible refine cr_absI ?_ | with_reducible refine cr_int_i ?_ | with_reducible refine cr_int_b ?_ | with_reducible refine CRO.cr (cr_listL ?_) | with_reducible refine CRO.cr (cr_listT ?_) | with_reducible refine CRO.cr (cr_listS ?_) | with_reducible refine cr_listL ?_ | with_reducible refine cr_listT ?_ | with_reducible refine cr_listS ?_ | with_reducible refine cr_tupLi ?_ | with_reducible refine cr_tupS ?_ | with_reducible refine cr_tupL ?_ | with_reducible refine cr_tupT ?_ | with_reducible refine wok_new ?_ | with_reducible refine wot_new ?_ | with_reducible refine wok_disp1 ?_ | with_reducible refine wps_cons ?_ | with_reducible refine wps_nil ?_ | with_reducible refine key_str ?_ | with_reducible refine wot_disp1 ?_ | with_reducible refine we_din ?_ | with_reducible refine we_dnotin ?_ | with_reducible refine din_I ?_ | with_reducible refine din_S ?_ | with_reducible refine din_T ?_ | ((with_reducible show WE _ (tDGet (tVar _) _) _ _); refine we_dgetL (by assumption) rfl ?_) | with_reducible refine we_dget ?_ | with_reducible refine we_idx ?_ | with_reducible refine wo_rev ?_ | with_reducible refine WO.we (wo_rev ?_) | with_reducible refine dgp_hard ?_ | with_reducible refine dgp_wide ?_ | with_reducible refine dgp_rows ?_ | with_reducible refine dgp_pairs ?_ | with_reducible refine dgp_many ?_ | with_reducible refine dg_hard ?_ | with_reducible refine dg_places ?_ | with_reducible refine dg_told ?_ | with_reducible refine dg_heavy ?_ | with_reducible refine dg_meets ?_ | with_reducible refine wp_no ?_ | with_reducible refine wp_some ?_ | with_reducible refine WI.wv ?_ | with_reducible refine wi_rng1 ?_ | with_reducible refine wad_cons ?_ | with_reducible refine wad_nil ?_ | with_reducible refine wd_tup ?_ | with_reducible refine wd_lst ?_ | with_reducible refine ⟨_, rfl, ?_⟩ | with_reducible refine ⟨_, _, rfl, ?_⟩ | ((with_reducible show List.length _ ≤ 1000 ∧ _); refine len_ok (by rfl) ?_) | ((with_reducible show if D.isN _ = true then _ else _); first | refine s_nnT (by rfl) ?_ | refine s_nnF (by rfl) ?_) | ((with_reducible show if (!D.isN _) = true then _ else _); first | refine s_mnT (by rfl) ?_ | refine s_mnF (by rfl) ?_) | with_reducible refine s_cT ?_ | with_reducible refine s_cF ?_ | with_reducible refine s_nT ?_ | with_reducible refine s_nF ?_)
local macro_rules | `(tactic| walk_at "dw") => `(tactic| ((try dsimp only [List.set, wipeR, snd_cons, snd_nil]); repeat (walk_at "d1"; try dsimp only [List.set, wipeR, snd_cons, snd_nil])))
local macro_rules | `(tactic| walk_at "c1") => `(tactic| first | with_reducible refine c_call rfl ?_ | with_reducible refine c_op ?_ | ((with_reducible show CE _ _ _ (tVar _) _ _); refine CE.of rfl (by assumption) ?_) | ((with_reducible show CE _ _ _ (tC _) _ _); refine CE.of rfl (by assumption) ?_) | with_reducible refine ca_cons ?_ | with_reducible refine ca_nil rfl (by assumption) ?_ | with_reducible refine c_lst ?_ | with_reducible refine c_tup ?_ | with_reducible refine c_test ?_ | with_reducible refine c_rng1 ?_ | ((with_reducible show Wl _ _ → _); intro _) | ((with_reducible show ∀ _ : HO, Wl _ _ → _); intro _ _))
local macro_rules | `(tactic| walk_at "cw") => `(tactic| ((try dsimp only [List.set, wipeR, snd_cons, snd_nil]); repeat (first | walk_at "c1" | walk_at "d1"; try dsimp only [List.set, wipeR, snd_cons, snd_nil])))

section
variable {P : Program} {w : World} {K : PySem.W.Frag} {mg : Str → Option Value} {base : Heap} {C : Addr}
def cTold : Ct := fun ds k => ∃ B, ds = [.bench B, modelD B] ∧ BOk B ∧ k (.bl true)
theorem told_to {x : Str} {ps : List Str} {n : Nat} (D : Def P w K mg base n x ps (spTold K C)) : Def P w K mg base n x ps (spD K C cTold) := by
  refine D.to fun vs H Q E h => ?_
  obtain ⟨st, F, ds, k, g, r, ⟨B, rfl, h1, hk⟩, q⟩ := h
  cases r with | cons r1 r => cases r with | cons r2 r =>
  cases r
  obtain ⟨m, rfl, mo⟩ := R_model r2
  cases r1 with | bench hb =>
  exact ⟨_, m, B, rfl, h1, hb.mono g.sub, mo.mono g.sub, fun H' e => q _ _ F H' (XE.same g e) (.bl true) hk⟩
def NSD (n : Nat) (x : D) : Prop := (∃ j l, isSq x = some (j, l) ∧ x.ty = some "tuple" ∧ l.length ≤ 1000 ∧ (∀ d ∈ l, d.ty.isSome = true) ∧ (decide (l.length = n) && l.all isIntD) = false) ∨ (x.ty.isSome = true ∧ x.ty ≠ some "tuple")
def cNoStand : Ct := fun ds k => ∃ hs : List Int, ds = [.st, tI hs] ∧ 2 ≤ hs.length ∧ hs.length ≤ 12 ∧ ∀ d, NSD hs.length d → k d
theorem cIs_no {B : BD} {d : D} {hs : List Int} {k : D → Prop} (ok : BOk B) (hl : hs.length = B.heavy.length) (hd : NSD hs.length d) (q : k (.bl false)) : cIsStand [.bench B, d] k := by
  refine ⟨B, d, rfl, ok, ?_⟩
  rcases hd with ⟨j, l, e1, e2, e3, e4, e5⟩ | ⟨e1, e2⟩
  · refine .inl ⟨j, l, e1, e2, e3, e4, ?_⟩
    rw [← hl, e5]
    exact q
  · exact .inr ⟨e1, e2, q⟩
abbrev s__law_no_stand : Stmt := topS 24
abbrev n__law_no_stand : List Str := ["_law_state", "_law_heights", "_law_some"]
theorem sc__law_no_stand : FnScope ["_law_state", "_law_heights", "_law_some"] ["_law_state", "_law_heights"] (defScope s__law_no_stand) := ⟨rfl, rfl, rfl, by decide +kernel, rfl, by decide +kernel, by decide +kernel⟩
theorem ok_no_standD (B0 : Blt mg) (d__law_digit : Def P w K mg base 1 "_law_digit" ["_law_state", "_law_base"] (spD K C cDigit)) (F : FunAt K mg "_law_no_stand" s__law_no_stand ["_law_state", "_law_heights"]) : Def P w K mg base 2 "_law_no_stand" ["_law_state", "_law_heights"] (spD K C cNoStand) := by
  refine F.defD (n := 1) sc__law_no_stand (fun ds k h => by obtain ⟨_, rfl, _⟩ := h; rfl) fun f cdv A outer s H E sa F ds k hr h => ?_
  obtain ⟨hs, rfl, h1, h12, q⟩ := h
  have B := B0
  refine ⟨_, (pss_cons (ps_set (i := 2) sc__law_no_stand.nd rfl (Or.inl rfl) (pe_lst (pa_cons (pe_callTy (k_list (K := K) rfl) (by rfl) B.list bb_list (pa_cons (pv 1) pa_nil)) (pa_cons (pe_slice (k_sl (K := K) rfl) (pv 1) (po_some pe_int) po_none) (pa_cons (pe_op (k_addS (K := K) rfl) (pv 1) (pe_tup (pa_cons pe_int pa_nil))) (pa_cons (pe_op (k_addS (K := K) rfl) (pe_slice (k_sl (K := K) rfl) (pv 1) (po_some pe_int) po_none) (pe_tup (pa_cons pe_bl pa_nil))) (pa_cons (pe_op (k_addS (K := K) rfl) (pe_slice (k_sl (K := K) rfl) (pv 1) (po_some pe_int) po_none) (pe_tup (pa_cons pe_non pa_nil))) (pa_cons pe_non (pa_cons pe_int (pa_cons pe_str (pa_cons (pe_tup pa_nil) pa_nil))))))))))) (pss_one (ps_ret (pe_ix (k_ix (K := K) rfl) (pv 2) (pe_d d__law_digit (hr.mono (by decide)) (by rfl) (pa_cons (pv 0) (pa_cons pe_int pa_nil))) (fun _ _ => rfl))))), ?_⟩; refine start_eqR (ρ' := [some (.d (.st)), some (.d (tI hs)), none]) rfl ?_
  walk_at "dw"
  have nw : ¬ wholeSl hs.length (some 1) none := fun h => by
    have := h.1
    have e : HT.sIx hs.length 0 (some ((1 : Nat) : Int)) = min 1 hs.length := HT.sIx_nat _ _ 1
    have e2 : HT.sIx hs.length 0 (some 1) = min 1 hs.length := e
    rw [e2] at this
    omega
  have cl : (cutI hs (some 1) none).length = hs.length - 1 := by
    have e2 : HT.sIx hs.length 0 (some 1) = min 1 hs.length := HT.sIx_nat _ _ 1
    unfold cutI
    rw [e2, HT.sIx_none, List.length_take, List.length_drop]
    omega
  refine we_slS ?_
  walk_at "dw"
  refine ⟨nw, ?_⟩
  walk_at "dw"
  refine op_stnL (op_catT (by rw [List.length_map]; show hs.length + 1 ≤ 1000; omega) ?_)
  walk_at "dw"
  refine we_slS ?_
  walk_at "dw"
  refine ⟨nw, ?_⟩
  walk_at "dw"
  refine op_stnL (op_catT (by rw [List.length_map, cl]; show _ + 1 ≤ 1000; omega) ?_)
  walk_at "dw"
  refine we_slS ?_
  walk_at "dw"
  refine ⟨nw, ?_⟩
  walk_at "dw"
  refine op_stnL (op_catT (by rw [List.length_map, cl]; show _ + 1 ≤ 1000; omega) ?_)
  walk_at "dw"
  refine ⟨_, rfl, small_d (by decide) (by decide), fun r r0 r1 => ?_⟩
  have allI : ∀ (l : List Int), ∀ d ∈ l.map D.int, d.ty.isSome = true := fun l d hd => by
    obtain ⟨x, _, rfl⟩ := List.mem_map.mp hd
    rfl
  have appI : ∀ (l : List Int) (e : D), e.ty.isSome = true → ∀ d ∈ l.map D.int ++ [e], d.ty.isSome = true := fun l e he d hd => by
    rcases List.mem_append.mp hd with h | h
    · exact allI _ d h
    · rw [List.mem_singleton.mp h]; exact he
  have r8 : r = 0 ∨ r = 1 ∨ r = 2 ∨ r = 3 ∨ r = 4 ∨ r = 5 ∨ r = 6 ∨ r = 7 ∨ r = 8 := by omega
  rcases r8 with rfl | rfl | rfl | rfl | rfl | rfl | rfl | rfl | rfl
  · exact op_ixL (by rfl) (q _ (.inr ⟨rfl, by show some "list" ≠ some "tuple"; decide⟩))
  · refine op_ixL (by rfl) (q _ (.inl ⟨_, _, rfl, rfl, by rw [List.length_map]; omega, allI _, ?_⟩))
    rw [List.length_map, decide_eq_false (by omega), Bool.false_and]
  · refine op_ixL (by rfl) (q _ (.inl ⟨_, _, rfl, rfl, ?_, appI _ _ rfl, ?_⟩))
    · rw [List.length_append, List.length_map]; show hs.length + 1 ≤ 1000; omega
    · rw [List.length_append, List.length_map, decide_eq_false (by show ¬ (hs.length + 1 = _); omega), Bool.false_and]
  · refine op_ixL (by rfl) (q _ (.inl ⟨_, _, rfl, rfl, ?_, appI _ _ rfl, ?_⟩))
    · rw [List.length_append, List.length_map, cl]; show _ + 1 ≤ 1000; omega
    · rw [List.all_append]; show (_ && (_ && (false && _))) = false; simp
  · refine op_ixL (by rfl) (q _ (.inl ⟨_, _, rfl, rfl, ?_, appI _ _ rfl, ?_⟩))
    · rw [List.length_append, List.length_map, cl]; show _ + 1 ≤ 1000; omega
    · rw [List.all_append]; show (_ && (_ && (false && _))) = false; simp
  · exact op_ixL (by rfl) (q _ (.inr ⟨rfl, by show some "NoneType" ≠ some "tuple"; decide⟩))
  · exact op_ixL (by rfl) (q _ (.inr ⟨rfl, by show some "int" ≠ some "tuple"; decide⟩))
  · exact op_ixL (by rfl) (q _ (.inr ⟨rfl, by show some "str" ≠ some "tuple"; decide⟩))
  · refine op_ixL (by rfl) (q _ (.inl ⟨_, _, rfl, rfl, Nat.zero_le _, fun d hd => absurd hd List.not_mem_nil, ?_⟩))
    rw [decide_eq_false (by show ¬ (0 = _); omega), Bool.false_and]
end
end G.Q

namespace G.Q
open PySem PySem.Spec PyProof.Rows L2
local macro_rules | `(tactic| walk_at "d1") => `(tactic| first | with_reducible refine ws_seq ?_ | with_reducible refine ws_next ?_ | with_reducible refine ws_ret ?_ | with_reducible refine ws_retN ?_ | with_reducible refine ws_if ?_ | ((with_reducible show WS _ (tDrop (tBM _ "list" _ (tVar _) _)) _ _ _ _ _); refine ws_mt rfl ?_) | ((with_reducible show WS _ (tDrop (tBM0 _ "list" _ (tVar _))) _ _ _ _ _); refine ws_mt0 rfl ?_) | ((with_reducible show WS _ (tAsg (tBM _ "list" _ (tVar _) _) (gName _)) _ _ _ _ _); refine ws_mtS rfl ?_) | ((with_reducible show WS _ (tAsg (tBM0 _ "list" _ (tVar _)) (gName _)) _ _ _ _ _); refine ws_mt0S rfl ?_) | ((with_reducible show WS _ (tAsgO (tDisp _) _) _ _ _ _ _); refine ws_setOwnK ?_) | ((with_reducible show WS _ (tAsgO tDNewK _) _ _ _ _ _); refine ws_setOwnK ?_) | ((with_reducible show WS _ (tAsgO (tDc _ _ _ _ _ _) _) _ _ _ _ _); refine ws_setOwnK ?_) | ((with_reducible show WS _ (tAsgO tDNewT _) _ _ _ _ _); refine ws_setOwnT ?_) | ((with_reducible show WS _ (tAsgO (tDispT1 _ _) _) _ _ _ _ _); refine ws_setOwnT ?_) | with_reducible refine ws_setOwn ?_ | ((with_reducible show WS _ (tAsg _ (gSub (tVar _) _ rSetL)) _ _ _ _ _); first | refine ws_setItem rfl ?_ | refine ws_setWl rfl ?_) | ((with_reducible show WS _ (tAugS (tVar _) _ _ _ _ _) _ _ _ _ _); refine ws_augItem rfl ?_) | ((with_reducible show WS _ (sDPut (tVar _) _ _) _ _ _ _ _); first | refine ws_dput rfl ?_ | refine ws_dputT rfl ?_) | ((with_reducible show WS _ (tDrop (tBM _ "dict" rUpd (tVar _) _)) _ _ _ _ _); refine ws_upd rfl ?_) | ((with_reducible show WS _ (tAsg (tCall (spDS _ _ _) _ _ _) (gName _)) _ _ _ _ _); refine ws_asgS ?_) | with_reducible refine ws_asg ?_ | with_reducible refine ws_drop ?_ | ((with_reducible show WS _ (tAug _ _ _) _ _ _ _ _); refine ws_aug rfl ?_) | with_reducible refine ws_par ?_ | with_reducible refine ws_break ?_ | with_reducible refine ws_cont ?_ | with_reducible refine wg_name (by first | trivial | decide) ?_ | with_reducible refine wg_tup rfl ?_ | with_reducible refine wg_stn rfl ?_ | with_reducible refine wg_lst rfl ?_ | with_reducible refine wgs_cons ?_ | with_reducible refine wgs_nil ?_ | with_reducible refine wgs_consM ?_ | with_reducible refine wgs_nilM ?_ | ((with_reducible show WE _ (tVar _) _ _); refine we_var rfl ?_) | with_reducible refine we_int ?_ | with_reducible refine we_str ?_ | with_reducible refine we_bl ?_ | with_reducible refine we_non ?_ | with_reducible refine wt_test ?_ | with_reducible refine wt_B ?_ | with_reducible refine wt_not ?_ | with_reducible refine wt_and ?_ | with_reducible refine wt_or ?_ | with_reducible refine wt_yes ?_ | with_reducible refine we_isi ?_ | with_reducible refine we_notV ?_ | with_reducible refine we_andV ?_ | with_reducible refine we_orV ?_ | with_reducible refine we_if ?_ | with_reducible refine we_chain ?_ | with_reducible refine we_un ?_ | with_reducible refine ou_neg ?_ | with_reducible refine we_call ?_ | with_reducible refine we_meth (by decide) ?_ | with_reducible refine we_tupK2 ?_ | with_reducible refine we_tup ?_ | with_reducible refine wa_cons ?_ | with_reducible refine wa_nil ?_ | with_reducible refine wab_cons ?_ | with_reducible refine wab_nil ?_ | with_reducible refine WO.we (wo_lst ?_) | with_reducible refine wo_lst ?_ | with_reducible refine we_op ?_ | ((with_reducible show WO _ (tOp rMulS (tLst _) _) _ _); refine wo_rep ?_) | with_reducible refine wo_op ?_ | with_reducible refine we_cb ?_ | with_reducible refine wo_cb ?_ | ((with_reducible show WE _ (tFld _ _ "hard") _ _); refine we_hard (by assumption) ?_) | ((with_reducible show WE _ (tFld _ _ "heavy") _ _); refine we_heavy (by assumption) ?_) | ((with_reducible show WE _ (tFld _ _ "places") _ _); refine we_places (by assumption) ?_) | ((with_reducible show WE _ (tFld _ _ "told") _ _); refine we_told (by assumption) ?_) | ((with_reducible show WE _ (tFld _ _ "meets") _ _); refine we_meets (by assumption) ?_) | ((with_reducible show WB _ (tVar _) _ _); first | refine wb_own rfl ?_ | refine wb_ownK rfl ?_ | refine wb_ownT rfl ?_ | refine wb_lkT rfl (by assumption) ?_ | refine wb_wl rfl ?_) | with_reducible refine WE.wb ?_ | with_reducible refine op_addSI ?_ | with_reducible refine op_I0i ?_ | with_reducible refine op_I0b ?_ | with_reducible refine op_eqII ?_ | with_reducible refine op_neII ?_ | with_reducible refine op_eqBB ?_ | with_reducible refine op_neBB ?_ | with_reducible refine op_eqSS ?_ | with_reducible refine op_neSS ?_ | with_reducible refine op_isNn ?_ | with_reducible refine op_notNn ?_ | with_reducible refine op_ip ?_ | ((with_reducible show OP _ (rIx _) (D.tup _) (D.int _) _); refine op_ixT (by rfl) ?_) | ((with_reducible show OP _ (rIx _) (D.lst _) (D.int _) _); refine op_ixL (by rfl) ?_) | with_reducible refine cr_lenDK ?_ | with_reducible refine cr_lenDT ?_ | with_reducible refine cr_lenL ?_ | with_reducible refine cr_lenT ?_ | with_reducible refine cr_lenS ?_ | with_reducible refine cr_lenX ?_ | with_reducible refine cr_tupX ?_ | with_reducible refine cr_sumS ?_ | with_reducible refine cr_sumLi ?_ | with_reducible refine cr_sumTi ?_ | with_reducible refine cr_allB ?_ | with_reducible refine cr_anyB ?_ | with_reducible refine cr_absI ?_ | with_reducible refine cr_int_i ?_ | with_reducible refine cr_int_b ?_ | with_reducible refine CRO.cr (cr_listL ?_) | with_reducible refine CRO.cr (cr_listT ?_) | with_reducible refine CRO.cr (cr_listS ?_) | with_reducible refine cr_listL ?_ | with_reducible refine cr_listT ?_ | with_reducible refine cr_listS ?_ | with_reducible refine cr_tupLi ?_ | with_reducible refine cr_tupS ?_ | with_reducible refine cr_tupL ?_ | with_reducible refine cr_tupT ?_ | with_reducible refine wok_new ?_ | with_reducible refine wot_new ?_ | with_reducible refine wok_disp1 ?_ | with_reducible refine wps_cons ?_ | with_reducible refine wps_nil ?_ | with_reducible refine key_str ?_ | with_reducible refine wot_disp1 ?_ | with_reducible refine we_din ?_ | with_reducible refine we_dnotin ?_ | with_reducible refine din_I ?_ | with_reducible refine din_S ?_ | with_reducible refine din_T ?_ | ((with_reducible show WE _ (tDGet (tVar _) _) _ _); refine we_dgetL (by assumption) rfl ?_) | with_reducible refine we_dget ?_ | with_reducible refine we_idx ?_ | with_reducible refine wo_rev ?_ | with_reducible refine WO.we (wo_rev ?_) | with_reducible refine dgp_hard ?_ | with_reducible refine dgp_wide ?_ | with_reducible refine dgp_rows ?_ | with_reducible refine dgp_pairs ?_ | with_reducible refine dgp_many ?_ | with_reducible refine dg_hard ?_ | with_reducible refine dg_places ?_ | with_reducible refine dg_told ?_ | with_reducible refine dg_heavy ?_ | with_reducible refine dg_meets ?_ | with_reducible refine wp_no ?_ | with_reducible refine wp_some ?_ | with_reducible refine WI.wv ?_ | with_reducible refine wi_rng1 ?_ | with_reducible refine wad_cons ?_ | with_reducible refine wad_nil ?_ | with_reducible refine wd_tup ?_ | with_reducible refine wd_lst ?_ | with_reducible refine ⟨_, rfl, ?_⟩ | with_reducible refine ⟨_, _, rfl, ?_⟩ | ((with_reducible show List.length _ ≤ 1000 ∧ _); refine len_ok (by rfl) ?_) | ((with_reducible show if D.isN _ = true then _ else _); first | refine s_nnT (by rfl) ?_ | refine s_nnF (by rfl) ?_) | ((with_reducible show if (!D.isN _) = true then _ else _); first | refine s_mnT (by rfl) ?_ | refine s_mnF (by rfl) ?_) | with_reducible refine s_cT ?_ | with_reducible refine s_cF ?_ | with_reducible refine s_nT ?_ | with_reducible refine s_nF ?_)
local macro_rules | `(tactic| walk_at "dw") => `(tactic| ((try dsimp only [List.set, wipeR, snd_cons, snd_nil]); repeat (walk_at "d1"; try dsimp only [List.set, wipeR, snd_cons, snd_nil])))
local macro_rules | `(tactic| walk_at "c1") => `(tactic| first | with_reducible refine c_call rfl ?_ | with_reducible refine c_op ?_ | ((with_reducible show CE _ _ _ (tVar _) _ _); refine CE.of rfl (by assumption) ?_) | ((with_reducible show CE _ _ _ (tC _) _ _); refine CE.of rfl (by assumption) ?_) | with_reducible refine ca_cons ?_ | with_reducible refine ca_nil rfl (by assumption) ?_ | with_reducible refine c_lst ?_ | with_reducible refine c_tup ?_ | with_reducible refine c_test ?_ | with_reducible refine c_rng1 ?_ | ((with_reducible show Wl _ _ → _); intro _) | ((with_reducible show ∀ _ : HO, Wl _ _ → _); intro _ _))
local macro_rules | `(tactic| walk_at "cw") => `(tactic| ((try dsimp only [List.set, wipeR, snd_cons, snd_nil]); repeat (first | walk_at "c1" | walk_at "d1"; try dsimp only [List.set, wipeR, snd_cons, snd_nil])))

section
variable {P : Program} {w : World} {K : PySem.W.Frag} {mg : Str → Option Value} {base : Heap} {C : Addr}
abbrev s_law : Stmt := topS 25
abbrev n_law : List Str := ["_law_script", "_law_made_here", "_law_cell", "_law_state", "_law_model", "_law_hard", "_law_told_here", "_law_bench_here", "_law_again", "_law_heights", "_law_other", "_law_its"]
theorem sc_law : FnScope ["_law_script", "_law_made_here", "_law_cell", "_law_state", "_law_model", "_law_hard", "_law_told_here", "_law_bench_here", "_law_again", "_law_heights", "_law_other", "_law_its"] ["_law_script"] (defScope s_law) := ⟨rfl, rfl, rfl, by decide +kernel, rfl, by decide +kernel, by decide +kernel⟩
theorem ok_law (B0 : Blt mg) (T : Txt K mg C) (TE : EqTxt K C) (d__law_bench : Def P w K mg base 2 "_law_bench" ["_law_state", "_law_plates", "_law_places"] (spD K C cBench)) (d__law_program : Def P w K mg base 7 "_law_program" ["_law_model"] (spD K C cProgram)) (c_Bench : DefC P w K mg base 5 C "Bench" ["self", "hardness", "places", "grindings"] (spInit K C))
    (d__law_stand : Def P w K mg base 2 "_law_stand" ["_law_state", "_law_model", "_law_most"] (spD K C cStand)) (d__law_told : Def P w K mg base 3 "_law_told" ["_law_bench_here", "_law_model"] (spD K C cTold)) (d__law_no_stand : Def P w K mg base 2 "_law_no_stand" ["_law_state", "_law_heights"] (spD K C cNoStand))
    (d_Bench_is_stand : DefM P w K mg base 3 C "is_stand" ["self", "thing"] (spD K C cIsStand)) (m_Bench___eq__ : DefM P w K mg base 1 C "__eq__" ["self", "thing"] (spEq K C))
    {f : Addr} {fd : FuncData} (F : Fun K "law" "law" s_law f fd) : FnOk P w K mg base CX0 10 f fd ["_law_script"] (spLaw K) := by
  refine law_okD (C := C) (m := 9) F sc_law fun cdv A outer s H E ns hr hlen => ?_
  have B := B0
  refine ⟨_, (pss_cons (ps_own (ps_set (i := 1) sc_law.nd rfl (Or.inl rfl) (pe_lst pa_nil))) (pss_cons (ps_for PassesOwn.never rfl (k_seq (K := K) rfl (pe_op (k_addS (K := K) rfl) (pe_lst (pa_cons pe_int (pa_cons pe_int (pa_cons pe_int pa_nil)))) (pe_slice (k_sl (K := K) rfl) (pv 0) po_none (po_some pe_int)))) (pg_name (i := 2) sc_law.nd rfl (Or.inl rfl)) (pss_cons (ps_set (i := 3) sc_law.nd rfl (Or.inl rfl) (pe_lst (pa_cons (pv 2) pa_nil))) (pss_cons (ps_set (i := 4) sc_law.nd rfl (Or.inr rfl) (pe_d d__law_bench (hr.mono (by decide)) (by rfl) (pa_cons (pv 3) (pa_cons pe_int (pa_cons pe_int pa_nil))))) (pss_cons (ps_par (by rfl) sc_law.nd (i := 5) (j := 6) rfl rfl (by decide) rfl rfl (pa_cons (pe_callTy (k_list (K := K) rfl) (by rfl) B.list bb_list (pa_cons (pe_dget (hu_of hr) (pv 4) pe_str (fun _ _ => rfl)) pa_nil)) (pa_cons (pe_callTy (k_list (K := K) rfl) (by rfl) B.list bb_list (pa_cons (pe_dget (hu_of hr) (pv 4) pe_str (fun _ _ => rfl)) pa_nil)) pa_nil)) (by rfl)) (pss_cons (ps_set (i := 7) sc_law.nd rfl (Or.inr rfl) (pe_mk c_Bench (hr.mono (by decide)) (by rfl) (pa_cons (pv 5) (pa_cons (pe_dget (hu_of hr) (pv 4) pe_str (fun _ _ => rfl)) (pa_cons (pv 6) pa_nil))))) (pss_cons (ps_set (i := 8) sc_law.nd rfl (Or.inl rfl) (pe_mk c_Bench (hr.mono (by decide)) (by rfl) (pa_cons (pv 5) (pa_cons (pe_dget (hu_of hr) (pv 4) pe_str (fun _ _ => rfl)) (pa_cons (pv 6) pa_nil))))) (pss_cons (ps_if (PW.pt (pw_or (pt_cmpR (k_neX (K := K) (C := C) rfl m_Bench___eq__ TE (hr.mono (show 3 ≤ 9 by decide))) (pe_tup (pa_cons (pv 5) (pa_cons (pv 6) pa_nil))) (pe_tup (pa_cons (pe_dget (hu_of hr) (pv 4) pe_str (fun _ _ => rfl)) (pa_cons (pe_dget (hu_of hr) (pv 4) pe_str (fun _ _ => rfl)) pa_nil))) (nomark _)) (pw_or1 (pt_not (pt_cmpR (k_eqX (K := K) (C := C) rfl m_Bench___eq__ (hr.mono (show 3 ≤ 9 by decide))) (pv 7) (pv 8) (nomark _)))))) (pss_one (ps_ret pe_bl)) pss_nil) (pss_cons (ps_expr (k_bm0 (K := K) rfl PySem.F.plainAttrs_list PySem.F.slot_list_clear PySem.F.type_list_clear mt_clear (pv 5))) (pss_cons (ps_expr (k_bm (K := K) rfl PySem.F.plainAttrs_list PySem.F.slot_list_append PySem.F.type_list_append mt_append (pv 6) (pa_cons pe_non pa_nil))) (pss_cons (ps_if (PW.pt (pw_or (pt_not (pt_val (pe_d d__law_told (hr.mono (by decide)) (by rfl) (pa_cons (pv 7) (pa_cons (pv 4) pa_nil))))) (pw_or (pt_not (pt_val (pe_d d__law_told (hr.mono (by decide)) (by rfl) (pa_cons (pv 7) (pa_cons (pv 4) pa_nil))))) (pw_or1 (pt_not (pt_val (pe_d d__law_told (hr.mono (by decide)) (by rfl) (pa_cons (pv 8) (pa_cons (pv 4) pa_nil))))))))) (pss_one (ps_ret pe_bl)) pss_nil) (pss_cons (ps_set (i := 9) sc_law.nd rfl (Or.inl rfl) (pe_d d__law_stand (hr.mono (by decide)) (by rfl) (pa_cons (pv 3) (pa_cons (pv 4) (pa_cons (pe_op op_pow pe_int pe_int) pa_nil))))) (pss_cons (ps_if (PW.pt (pw_or (pt_cmpR op_isnot_bl (pe_dm d_Bench_is_stand (hr.mono (by decide)) T.cl (pv 7) (pa_cons (pv 9) pa_nil)) pe_bl (nomark _)) (pw_or1 (pt_cmpR op_isnot_bl (pe_dm d_Bench_is_stand (hr.mono (by decide)) T.cl (pv 7) (pa_cons (pe_d d__law_no_stand (hr.mono (by decide)) (by rfl) (pa_cons (pv 3) (pa_cons (pv 9) pa_nil))) pa_nil)) pe_bl (nomark _))))) (pss_one (ps_ret pe_bl)) pss_nil) (pss_cons (ps_if (PW.pt (pw_or (pt_cmpR (k_eqX (K := K) (C := C) rfl m_Bench___eq__ (hr.mono (show 3 ≤ 9 by decide))) (pv 7) (pe_dget (hu_of hr) (pv 4) pe_str (fun _ _ => rfl)) (nomark _)) (pw_or (pt_not (pt_cmpR (k_eqX (K := K) (C := C) rfl m_Bench___eq__ (hr.mono (show 3 ≤ 9 by decide))) (pv 7) (pe_d d__law_program (hr.mono (by decide)) (by rfl) (pa_cons (pv 4) pa_nil)) (nomark _))) (pw_or1 (pt_cmpR (k_neX (K := K) (C := C) rfl m_Bench___eq__ TE (hr.mono (show 3 ≤ 9 by decide))) (pv 7) (pe_d d__law_program (hr.mono (by decide)) (by rfl) (pa_cons (pv 4) pa_nil)) (nomark _)))))) (pss_one (ps_ret pe_bl)) pss_nil) (pss_cons (ps_if (pt_cmpR (k_neX (K := K) (C := C) rfl m_Bench___eq__ TE (hr.mono (show 3 ≤ 9 by decide))) (pe_lc (own := [("_law_other", 10), ("_law_its", 11)]) rfl sc_law.nd (k_seq (K := K) rfl (pv 1)) (blkOk_by (own := [("_law_other", 10), ("_law_its", 11)]) (N := n_law) (sc := defScope s_law) (by decide +kernel)) (fun _ _ _ _ _ => (k_tup (K := K) (n := 2) rfl rfl (pgs_cons (pg_name (i := 10) sc_law.nd rfl (Or.inl rfl)) (pgs_cons (pg_name (i := 11) sc_law.nd rfl (Or.inl rfl)) pgs_nil)))) (fun _ _ _ _ _ => (pts_one (pt_cmpR (k_neX (K := K) (C := C) rfl m_Bench___eq__ TE (hr.mono (show 3 ≤ 9 by decide))) (pe_cmpR (k_eqX (K := K) (C := C) rfl m_Bench___eq__ (hr.mono (show 3 ≤ 9 by decide))) (pv 10) (pv 7) (nomark _)) (pe_cmpR (k_eqX (K := K) (C := C) rfl m_Bench___eq__ (hr.mono (show 3 ≤ 9 by decide))) (pv 11) (pv 4) (nomark _)) (nomark _)))) (fun _ _ _ _ _ => pe_int)) (pe_lst pa_nil) (nomark _)) (pss_one (ps_ret pe_bl)) pss_nil) (pss_one (ps_expr (k_bm (K := K) rfl PySem.F.plainAttrs_list PySem.F.slot_list_append PySem.F.type_list_append mt_append (pv 1) (pa_cons (pe_tup (pa_cons (pv 7) (pa_cons (pv 4) pa_nil))) pa_nil)))))))))))))))))) (pss_one (ps_ret pe_bl)))), ?_⟩; refine start_eqR (ρ' := [some (.d (lI ns)), none, none, none, none, none, none, none, none, none, none, none]) rfl ?_
  walk_at "dw"
  refine ws_for (wi_seqL ?_)
  walk_at "dw"
  refine WO.we (wo_slL ?_)
  walk_at "dw"
  rw [show cutD (ns.map D.int) none (some 10) = (ns.take 10).map D.int from by unfold cutD; rw [HT.sIx_none, show (10 : Int) = ((10 : Nat) : Int) from rfl, HT.sIx_nat]; simp]
  refine op_cat (by simp; omega) ?_
  walk_at "dw"
  refine ⟨fun i ρ => ρ.length = 12 ∧ ∃ Bs : List BD, Bs.length ≤ i ∧ ρ[1]? = some (some (.own (Bs.map bmD))), ⟨rfl, [], Nat.le_refl _, rfl⟩, ?_, fun ρ hρ => ?_⟩
  · rintro i d ρ hd ⟨hρ, Bs, hB, hm⟩
    have hi13 : i < 13 := by
      have := (List.getElem?_eq_some_iff.mp hd).1
      simp at this
      omega
    obtain ⟨c, rfl⟩ : ∃ c : Int, d = .int c := by
      have := List.mem_of_getElem? hd
      rcases List.mem_append.mp this with h | h
      · simp only [List.mem_cons, List.not_mem_nil, or_false] at h
        rcases h with rfl | rfl | rfl <;> exact ⟨_, rfl⟩
      · obtain ⟨n, _, rfl⟩ := List.mem_map.mp h
        exact ⟨n, rfl⟩
    refine wg_name (by trivial) ?_
    refine ws_stateK (mi := 1) (i := 3) (j := 2) (Bs := Bs) rfl (by rw [List.getElem?_set_ne (by decide)]; exact hm) (List.getElem?_set_self (by rw [hρ]; decide)) (by rw [List.length_set, hρ]; decide) (by decide) fun p F0 H0 => ?_
    rw [List.length_set, hρ]
    refine start_eqR (ρ' := [none, some (.own (Bs.map bmD)), none, some (.d .st), none, none, none, none, none, none, none, none]) rfl ?_
    walk_at "dw"
    refine ⟨4, 3, rfl, by decide, by decide, by decide, by decide, fun B1 ok _ _ => ?_⟩
    refine wg_name trivial ?_
    dsimp only [List.set]
    refine ws_seq (ws_parO (by decide) ?_)
    walk_at "dw"
    refine we_mkBD ?_
    walk_at "dw"
    refine ⟨ok, ?_⟩
    walk_at "dw"
    refine we_mkBD ?_
    walk_at "dw"
    refine ⟨ok, ?_⟩
    refine wg_name trivial ?_
    dsimp only [List.set]
    refine ws_seq (ws_if (wt_or (wt_test (WE.wb (we_neDX ?_)))))
    refine wd_tup (wad_cons (WB.wd ?_))
    refine wb_own rfl ?_
    refine wad_cons (WB.wd ?_)
    refine wb_own rfl ?_
    refine wad_nil ⟨(show 2 ≤ 1000 by decide), ?_⟩
    refine WB.wd (WE.wb ?_)
    walk_at "dw"
    have plm : Pl 20 (D.tup [D.lst (B1.hard.map D.int), D.lst (B1.told.map gDX)]) := .tup (pl_cons (.lst (pl_map fun _ _ => .int)) (pl_cons (.lst (pl_map fun g _ => (pl_gDX g).mono (by decide))) pl_nil))
    refine ⟨plm, plm, ?_⟩
    rw [eqD_self plm]
    walk_at "dw"
    refine op_eqXb T TE ?_
    rw [eqB_self]
    walk_at "dw"
    refine mo_clear ?_
    walk_at "dw"
    refine mo_app (by rw [List.length_map]; have := ok.told; omega) ?_
    walk_at "dw"
    refine ⟨B1, rfl, ok, ?_⟩
    walk_at "dw"
    refine ⟨B1, rfl, ok, ?_⟩
    walk_at "dw"
    refine ⟨B1, rfl, ok, ?_⟩
    walk_at "dw"
    refine op_Ii (cc := CPow) (g := fun i j => i ^ j.toNat) ⟨by decide, by decide, by omega⟩ ?_
    walk_at "dw"
    refine ⟨B1, 10 ^ 9, rfl, by decide, by decide, ok, fun hs hl hb => ?_⟩
    walk_at "dw"
    have h12 := ok.heavy_lt
    have h2 : 2 ≤ B1.heavy.length := by
      have a := ok.plates
      have b := ok.places
      have c := B1.heavy_len
      have : 2 * 1 ≤ B1.hard.length * B1.places := Nat.mul_le_mul a.1 b.1
      omega
    refine ⟨B1, tI hs, rfl, ok, .inl ⟨_, _, rfl, rfl, by rw [List.length_map]; omega, fun d hd => by obtain ⟨n, _, rfl⟩ := List.mem_map.mp hd; rfl, ?_⟩⟩
    rw [List.length_map, hl, decide_eq_true rfl, Bool.true_and, show (hs.map D.int).all isIntD = true from List.all_eq_true.mpr fun d hd => by obtain ⟨n, _, rfl⟩ := List.mem_map.mp hd; rfl]
    walk_at "dw"
    refine op_isnBB ?_
    walk_at "dw"
    rw [show decide (true = true) = true from rfl]
    walk_at "dw"
    refine ⟨hs, rfl, by omega, by omega, fun d hd => ?_⟩
    walk_at "dw"
    refine cIs_no ok hl hd ?_
    walk_at "dw"
    refine op_isnBB ?_
    rw [show decide (false = false) = true from rfl]
    walk_at "dw"
    refine op_eqXl TE ?_
    walk_at "dw"
    refine ⟨B1, rfl, ok, ?_⟩
    walk_at "dw"
    refine op_eqXb T TE ?_
    rw [eqB_self]
    walk_at "dw"
    refine ⟨B1, rfl, ok, ?_⟩
    walk_at "dw"
    refine op_neXb T TE ?_
    rw [eqB_self]
    walk_at "dw"
    refine WO.we (wo_lcf (α := BD) (wv_seqB (wb_own rfl ⟨_, rfl, ?_⟩)))
    refine ⟨by rw [List.length_map]; omega, Bs, bmD, fun _ => .int 1, fun _ => false, rfl, fun B2 hB2 => ?_, ?_⟩
    · unfold bmD
      walk_at "dw"
      refine op_eqXb T TE ?_
      walk_at "dw"
      refine op_eqXd ?_
      refine op_neXu (op_neBB ?_)
      rw [eqB_eqM, decide_eq_true rfl]
      walk_at "dw"
      exact ⟨rfl, fun e => nomatch e⟩
    · rw [show Bs.filter (fun _ => false) = [] from List.filter_eq_nil_iff.mpr fun _ _ => Bool.false_ne_true]
      walk_at "dw"
      refine op_neXu (op_neDD (.lst pl_nil) (.lst pl_nil) ?_)
      rw [show eqD (D.lst (([] : List BD).map fun _ => D.int 1)) (D.lst []) = true from eqD_self (n := 20) (.lst pl_nil)]
      walk_at "dw"
      refine mo_app (by rw [List.length_map]; omega) ?_
      walk_at "dw"
      exact ⟨rfl, Bs ++ [B1], by rw [List.map_append]; rfl, rfl, Bs ++ [B1], by rw [List.length_append]; exact Nat.succ_le_succ hB, rfl⟩
  · obtain ⟨hρ, Bs, hB, hm⟩ := hρ
    walk_at "dw"
    exact rfl
end
end G.Q

namespace G.Q
open PySem PySem.Spec PyProof.Rows L2
theorem all_mk {l : PySem.W.OpenLaw} {w : World} {K : PySem.W.Frag} {h : Heap} {mg : Str → Option Value} {fa C : Addr} (X : K.In h) (G0 : h.Ns mainGlobals mg) (hfa : mg "law" = some (.ref fa))
    {f1 : Addr} {od1 an1 : Option Addr} {sl1 : Array (Option Value)} {oc1 kV1 dc1 pm1 cd1 ct1 : Value} (a1 : PySem.W.nsIn K mainGlobals "_law_digit" = some (some (.ref f1))) (l1 : K.lookup f1 = some ⟨oc1, od1, .func (PySem.W.fnOf "_law_digit" "_law_digit" (defArgs s__law_digit) (defBody s__law_digit) (defScope s__law_digit) .none kV1 dc1 pm1 an1 cd1 ct1), sl1⟩) (c1 : PySem.W.codeIn K cd1 "_law_digit" = true) (k1 : PySem.W.keepIn K (.ref f1) = true)
    {f2 : Addr} {od2 an2 : Option Addr} {sl2 : Array (Option Value)} {oc2 kV2 dc2 pm2 cd2 ct2 : Value} (a2 : PySem.W.nsIn K mainGlobals "_law_made" = some (some (.ref f2))) (l2 : K.lookup f2 = some ⟨oc2, od2, .func (PySem.W.fnOf "_law_made" "_law_made" (defArgs s__law_made) (defBody s__law_made) (defScope s__law_made) .none kV2 dc2 pm2 an2 cd2 ct2), sl2⟩) (c2 : PySem.W.codeIn K cd2 "_law_made" = true) (k2 : PySem.W.keepIn K (.ref f2) = true)
    {f3 : Addr} {od3 an3 : Option Addr} {sl3 : Array (Option Value)} {oc3 kV3 dc3 pm3 cd3 ct3 : Value} (a3 : PySem.W.nsIn K mainGlobals "_law_bench" = some (some (.ref f3))) (l3 : K.lookup f3 = some ⟨oc3, od3, .func (PySem.W.fnOf "_law_bench" "_law_bench" (defArgs s__law_bench) (defBody s__law_bench) (defScope s__law_bench) .none kV3 dc3 pm3 an3 cd3 ct3), sl3⟩) (c3 : PySem.W.codeIn K cd3 "_law_bench" = true) (k3 : PySem.W.keepIn K (.ref f3) = true)
    {f4 : Addr} {od4 an4 : Option Addr} {sl4 : Array (Option Value)} {oc4 kV4 dc4 pm4 cd4 ct4 : Value} (a4 : PySem.W.nsIn K mainGlobals "is_whole" = some (some (.ref f4))) (l4 : K.lookup f4 = some ⟨oc4, od4, .func (PySem.W.fnOf "is_whole" "is_whole" (defArgs s_is_whole) (defBody s_is_whole) (defScope s_is_whole) .none kV4 dc4 pm4 an4 cd4 ct4), sl4⟩) (c4 : PySem.W.codeIn K cd4 "is_whole" = true) (k4 : PySem.W.keepIn K (.ref f4) = true)
    {f5 : Addr} {od5 an5 : Option Addr} {sl5 : Array (Option Value)} {oc5 kV5 dc5 pm5 cd5 ct5 : Value} (a5 : PySem.W.nsIn K mainGlobals "is_hardness" = some (some (.ref f5))) (l5 : K.lookup f5 = some ⟨oc5, od5, .func (PySem.W.fnOf "is_hardness" "is_hardness" (defArgs s_is_hardness) (defBody s_is_hardness) (defScope s_is_hardness) .none kV5 dc5 pm5 an5 cd5 ct5), sl5⟩) (c5 : PySem.W.codeIn K cd5 "is_hardness" = true) (k5 : PySem.W.keepIn K (.ref f5) = true)
    {f6 : Addr} {od6 an6 : Option Addr} {sl6 : Array (Option Value)} {oc6 kV6 dc6 pm6 cd6 ct6 : Value} (a6 : PySem.W.nsIn K mainGlobals "are_wholes" = some (some (.ref f6))) (l6 : K.lookup f6 = some ⟨oc6, od6, .func (PySem.W.fnOf "are_wholes" "are_wholes" (defArgs s_are_wholes) (defBody s_are_wholes) (defScope s_are_wholes) .none kV6 dc6 pm6 an6 cd6 ct6), sl6⟩) (c6 : PySem.W.codeIn K cd6 "are_wholes" = true) (k6 : PySem.W.keepIn K (.ref f6) = true)
    {f7 : Addr} {od7 an7 : Option Addr} {sl7 : Array (Option Value)} {oc7 kV7 dc7 pm7 cd7 ct7 : Value} (a7 : PySem.W.nsIn K mainGlobals "is_turn" = some (some (.ref f7))) (l7 : K.lookup f7 = some ⟨oc7, od7, .func (PySem.W.fnOf "is_turn" "is_turn" (defArgs s_is_turn) (defBody s_is_turn) (defScope s_is_turn) .none kV7 dc7 pm7 an7 cd7 ct7), sl7⟩) (c7 : PySem.W.codeIn K cd7 "is_turn" = true) (k7 : PySem.W.keepIn K (.ref f7) = true)
    {f8 : Addr} {od8 an8 : Option Addr} {sl8 : Array (Option Value)} {oc8 kV8 dc8 pm8 cd8 ct8 : Value} (a8 : PySem.W.nsIn K mainGlobals "is_grinding" = some (some (.ref f8))) (l8 : K.lookup f8 = some ⟨oc8, od8, .func (PySem.W.fnOf "is_grinding" "is_grinding" (defArgs s_is_grinding) (defBody s_is_grinding) (defScope s_is_grinding) .none kV8 dc8 pm8 an8 cd8 ct8), sl8⟩) (c8 : PySem.W.codeIn K cd8 "is_grinding" = true) (k8 : PySem.W.keepIn K (.ref f8) = true)
    {f9 : Addr} {od9 an9 : Option Addr} {sl9 : Array (Option Value)} {oc9 kV9 dc9 pm9 cd9 ct9 : Value} (a9 : PySem.W.nsIn K mainGlobals "_law_program" = some (some (.ref f9))) (l9 : K.lookup f9 = some ⟨oc9, od9, .func (PySem.W.fnOf "_law_program" "_law_program" (defArgs s__law_program) (defBody s__law_program) (defScope s__law_program) .none kV9 dc9 pm9 an9 cd9 ct9), sl9⟩) (c9 : PySem.W.codeIn K cd9 "_law_program" = true) (k9 : PySem.W.keepIn K (.ref f9) = true)
    {f10 : Addr} {od10 an10 : Option Addr} {sl10 : Array (Option Value)} {oc10 kV10 dc10 pm10 cd10 ct10 : Value} (a10 : PySem.W.nsIn K mainGlobals "_law_stand" = some (some (.ref f10))) (l10 : K.lookup f10 = some ⟨oc10, od10, .func (PySem.W.fnOf "_law_stand" "_law_stand" (defArgs s__law_stand) (defBody s__law_stand) (defScope s__law_stand) .none kV10 dc10 pm10 an10 cd10 ct10), sl10⟩) (c10 : PySem.W.codeIn K cd10 "_law_stand" = true) (k10 : PySem.W.keepIn K (.ref f10) = true)
    {f11 : Addr} {od11 an11 : Option Addr} {sl11 : Array (Option Value)} {oc11 kV11 dc11 pm11 cd11 ct11 : Value} (a11 : PySem.W.nsIn K mainGlobals "_law_told" = some (some (.ref f11))) (l11 : K.lookup f11 = some ⟨oc11, od11, .func (PySem.W.fnOf "_law_told" "_law_told" (defArgs s__law_told) (defBody s__law_told) (defScope s__law_told) .none kV11 dc11 pm11 an11 cd11 ct11), sl11⟩) (c11 : PySem.W.codeIn K cd11 "_law_told" = true) (k11 : PySem.W.keepIn K (.ref f11) = true)
    {f12 : Addr} {od12 an12 : Option Addr} {sl12 : Array (Option Value)} {oc12 kV12 dc12 pm12 cd12 ct12 : Value} (a12 : PySem.W.nsIn K mainGlobals "_law_no_stand" = some (some (.ref f12))) (l12 : K.lookup f12 = some ⟨oc12, od12, .func (PySem.W.fnOf "_law_no_stand" "_law_no_stand" (defArgs s__law_no_stand) (defBody s__law_no_stand) (defScope s__law_no_stand) .none kV12 dc12 pm12 an12 cd12 ct12), sl12⟩) (c12 : PySem.W.codeIn K cd12 "_law_no_stand" = true) (k12 : PySem.W.keepIn K (.ref f12) = true)
    {f13 : Addr} {od13 an13 : Option Addr} {sl13 : Array (Option Value)} {oc13 kV13 dc13 pm13 cd13 ct13 : Value} (a13 : PySem.W.findIn K (.ref C) "__init__" = some (some (.ref f13))) (i13 : PySem.W.isFn K (.ref f13) = true) (l13 : K.lookup f13 = some ⟨oc13, od13, .func (PySem.W.fnOf "__init__" "Bench.__init__" (defArgs s_Bench___init__) (defBody s_Bench___init__) (defScope s_Bench___init__) .none kV13 dc13 pm13 an13 cd13 ct13), sl13⟩) (c13 : PySem.W.codeIn K cd13 "Bench.__init__" = true) (k13 : PySem.W.keepIn K (.ref f13) = true)
    {f14 : Addr} {od14 an14 : Option Addr} {sl14 : Array (Option Value)} {oc14 kV14 dc14 pm14 cd14 ct14 : Value} (a14 : PySem.W.findIn K (.ref C) "pairs_of" = some (some (.ref f14))) (i14 : PySem.W.isFn K (.ref f14) = true) (l14 : K.lookup f14 = some ⟨oc14, od14, .func (PySem.W.fnOf "pairs_of" "Bench.pairs_of" (defArgs s_Bench_pairs_of) (defBody s_Bench_pairs_of) (defScope s_Bench_pairs_of) .none kV14 dc14 pm14 an14 cd14 ct14), sl14⟩) (c14 : PySem.W.codeIn K cd14 "Bench.pairs_of" = true) (k14 : PySem.W.keepIn K (.ref f14) = true)
    {f15 : Addr} {od15 an15 : Option Addr} {sl15 : Array (Option Value)} {oc15 kV15 dc15 pm15 cd15 ct15 : Value} (a15 : PySem.W.findIn K (.ref C) "hardness" = some (some (.ref f15))) (i15 : PySem.W.isFn K (.ref f15) = true) (l15 : K.lookup f15 = some ⟨oc15, od15, .func (PySem.W.fnOf "hardness" "Bench.hardness" (defArgs s_Bench_hardness) (defBody s_Bench_hardness) (defScope s_Bench_hardness) .none kV15 dc15 pm15 an15 cd15 ct15), sl15⟩) (c15 : PySem.W.codeIn K cd15 "Bench.hardness" = true) (k15 : PySem.W.keepIn K (.ref f15) = true)
    {f16 : Addr} {od16 an16 : Option Addr} {sl16 : Array (Option Value)} {oc16 kV16 dc16 pm16 cd16 ct16 : Value} (a16 : PySem.W.findIn K (.ref C) "weights" = some (some (.ref f16))) (i16 : PySem.W.isFn K (.ref f16) = true) (l16 : K.lookup f16 = some ⟨oc16, od16, .func (PySem.W.fnOf "weights" "Bench.weights" (defArgs s_Bench_weights) (defBody s_Bench_weights) (defScope s_Bench_weights) .none kV16 dc16 pm16 an16 cd16 ct16), sl16⟩) (c16 : PySem.W.codeIn K cd16 "Bench.weights" = true) (k16 : PySem.W.keepIn K (.ref f16) = true)
    {f17 : Addr} {od17 an17 : Option Addr} {sl17 : Array (Option Value)} {oc17 kV17 dc17 pm17 cd17 ct17 : Value} (a17 : PySem.W.findIn K (.ref C) "grindings" = some (some (.ref f17))) (i17 : PySem.W.isFn K (.ref f17) = true) (l17 : K.lookup f17 = some ⟨oc17, od17, .func (PySem.W.fnOf "grindings" "Bench.grindings" (defArgs s_Bench_grindings) (defBody s_Bench_grindings) (defScope s_Bench_grindings) .none kV17 dc17 pm17 an17 cd17 ct17), sl17⟩) (c17 : PySem.W.codeIn K cd17 "Bench.grindings" = true) (k17 : PySem.W.keepIn K (.ref f17) = true)
    {f18 : Addr} {od18 an18 : Option Addr} {sl18 : Array (Option Value)} {oc18 kV18 dc18 pm18 cd18 ct18 : Value} (a18 : PySem.W.findIn K (.ref C) "plates" = some (some (.ref f18))) (i18 : PySem.W.isFn K (.ref f18) = true) (l18 : K.lookup f18 = some ⟨oc18, od18, .func (PySem.W.fnOf "plates" "Bench.plates" (defArgs s_Bench_plates) (defBody s_Bench_plates) (defScope s_Bench_plates) .none kV18 dc18 pm18 an18 cd18 ct18), sl18⟩) (c18 : PySem.W.codeIn K cd18 "Bench.plates" = true) (k18 : PySem.W.keepIn K (.ref f18) = true)
    {f19 : Addr} {od19 an19 : Option Addr} {sl19 : Array (Option Value)} {oc19 kV19 dc19 pm19 cd19 ct19 : Value} (a19 : PySem.W.findIn K (.ref C) "__len__" = some (some (.ref f19))) (i19 : PySem.W.isFn K (.ref f19) = true) (l19 : K.lookup f19 = some ⟨oc19, od19, .func (PySem.W.fnOf "__len__" "Bench.__len__" (defArgs s_Bench___len__) (defBody s_Bench___len__) (defScope s_Bench___len__) .none kV19 dc19 pm19 an19 cd19 ct19), sl19⟩) (c19 : PySem.W.codeIn K cd19 "Bench.__len__" = true) (k19 : PySem.W.keepIn K (.ref f19) = true)
    {f20 : Addr} {od20 an20 : Option Addr} {sl20 : Array (Option Value)} {oc20 kV20 dc20 pm20 cd20 ct20 : Value} (a20 : PySem.W.findIn K (.ref C) "meetings" = some (some (.ref f20))) (i20 : PySem.W.isFn K (.ref f20) = true) (l20 : K.lookup f20 = some ⟨oc20, od20, .func (PySem.W.fnOf "meetings" "Bench.meetings" (defArgs s_Bench_meetings) (defBody s_Bench_meetings) (defScope s_Bench_meetings) .none kV20 dc20 pm20 an20 cd20 ct20), sl20⟩) (c20 : PySem.W.codeIn K cd20 "Bench.meetings" = true) (k20 : PySem.W.keepIn K (.ref f20) = true)
    {f21 : Addr} {od21 an21 : Option Addr} {sl21 : Array (Option Value)} {oc21 kV21 dc21 pm21 cd21 ct21 : Value} (a21 : PySem.W.findIn K (.ref C) "is_stand" = some (some (.ref f21))) (i21 : PySem.W.isFn K (.ref f21) = true) (l21 : K.lookup f21 = some ⟨oc21, od21, .func (PySem.W.fnOf "is_stand" "Bench.is_stand" (defArgs s_Bench_is_stand) (defBody s_Bench_is_stand) (defScope s_Bench_is_stand) .none kV21 dc21 pm21 an21 cd21 ct21), sl21⟩) (c21 : PySem.W.codeIn K cd21 "Bench.is_stand" = true) (k21 : PySem.W.keepIn K (.ref f21) = true)
    {f22 : Addr} {od22 an22 : Option Addr} {sl22 : Array (Option Value)} {oc22 kV22 dc22 pm22 cd22 ct22 : Value} (a22 : PySem.W.findIn K (.ref C) "__eq__" = some (some (.ref f22))) (i22 : PySem.W.isFn K (.ref f22) = true) (l22 : K.lookup f22 = some ⟨oc22, od22, .func (PySem.W.fnOf "__eq__" "Bench.__eq__" (defArgs s_Bench___eq__) (defBody s_Bench___eq__) (defScope s_Bench___eq__) .none kV22 dc22 pm22 an22 cd22 ct22), sl22⟩) (c22 : PySem.W.codeIn K cd22 "Bench.__eq__" = true) (k22 : PySem.W.keepIn K (.ref f22) = true)
    {f23 : Addr} {od23 an23 : Option Addr} {sl23 : Array (Option Value)} {oc23 kV23 dc23 pm23 cd23 ct23 : Value} (a23 : PySem.W.nsIn K mainGlobals "law" = some (some (.ref f23))) (l23 : K.lookup f23 = some ⟨oc23, od23, .func (PySem.W.fnOf "law" "law" (defArgs s_law) (defBody s_law) (defScope s_law) .none kV23 dc23 pm23 an23 cd23 ct23), sl23⟩) (c23 : PySem.W.codeIn K cd23 "law" = true) (k23 : PySem.W.keepIn K (.ref f23) = true)
    (aC : PySem.W.nsIn K mainGlobals "Bench" = some (some (.ref C))) (pg : PySem.W.plainGet K C Str.empty = true) (hd : PySem.W.hasDictIn K C = true) (po : PySem.W.plainOver K C = true) (sa : PySem.W.findIn K (.ref C) "__setattr__" = some (some (.builtin "object.__setattr__"))) (mk : PySem.W.makesIn K C = true) (kc : PySem.W.keepIn K (.ref C) = true)
    (n_hard : PySem.W.findIn K (.ref C) "hard" = some none) (n_places : PySem.W.findIn K (.ref C) "places" = some none) (n_told : PySem.W.findIn K (.ref C) "told" = some none) (n_heavy : PySem.W.findIn K (.ref C) "heavy" = some none) (n_meets : PySem.W.findIn K (.ref C) "meets" = some none)
    {t_MOST_PLATES : Tok} (g_MOST_PLATES : PySem.W.nsIn K mainGlobals "MOST_PLATES" = some (some (.int 4 t_MOST_PLATES))) {t_MOST_HARDNESS : Tok} (g_MOST_HARDNESS : PySem.W.nsIn K mainGlobals "MOST_HARDNESS" = some (some (.int 9 t_MOST_HARDNESS))) {t_MOST_PLACES : Tok} (g_MOST_PLACES : PySem.W.nsIn K mainGlobals "MOST_PLACES" = some (some (.int 3 t_MOST_PLACES))) {t_MOST_GRINDINGS : Tok} (g_MOST_GRINDINGS : PySem.W.nsIn K mainGlobals "MOST_GRINDINGS" = some (some (.int 6 t_MOST_GRINDINGS)))
    (b_len : PySem.W.nsIn K mainGlobals "len" = some none) (b_sum : PySem.W.nsIn K mainGlobals "sum" = some none) (b_sorted : PySem.W.nsIn K mainGlobals "sorted" = some none) (b_all : PySem.W.nsIn K mainGlobals "all" = some none) (b_any : PySem.W.nsIn K mainGlobals "any" = some none) (b_abs : PySem.W.nsIn K mainGlobals "abs" = some none) (b_isinstance : PySem.W.nsIn K mainGlobals "isinstance" = some none) (b_list : PySem.W.nsIn K mainGlobals "list" = some none) (b_tuple : PySem.W.nsIn K mainGlobals "tuple" = some none) (b_int : PySem.W.nsIn K mainGlobals "int" = some none) (b_bool : PySem.W.nsIn K mainGlobals "bool" = some none) (b_range : PySem.W.nsIn K mainGlobals "range" = some none) (b_zip : PySem.W.nsIn K mainGlobals "zip" = some none) (b_enumerate : PySem.W.nsIn K mainGlobals "enumerate" = some none)
    (q1 : PySem.W.findIn K (.ref C) "__class__" = some (some (.builtin "object.__class__")))
    (q2 : PySem.W.specialIn K (.builtin "object.__class__") "__get__" = some (some (.builtin "getset_descriptor.__get__")))
    (q3 : PySem.W.takesIn K (.builtin "object.__class__") = some true)
    (q4 : PySem.W.mroIn K C (.type "object") = some true)
    (q5 : PySem.W.kitOne K (.type "list") (.ref C) = some false)
    (q6 : PySem.W.notFirst K C (.type "list") = true)
    (q7 : PySem.W.findIn K (.ref C) "__ne__" = some (some (.builtin "object.__ne__"))) :
    ∃ fd : FuncData, (∀ (s : Shared) (v : Value), BindsTo s fd ⟨[v], []⟩ [("_law_script", v)]) ∧ ∀ base : Heap, K.In base → base.Ns mainGlobals mg → FnOk l.prog w K mg base CX0 10 fa fd ["_law_script"] (spLaw K) := by
  have e := hfa.symm.trans (PySem.W.mg_of X G0 a23)
  cases e
  have B : Blt mg := ⟨PySem.W.mg_none_of X G0 b_len, PySem.W.mg_none_of X G0 b_sum, PySem.W.mg_none_of X G0 b_sorted, PySem.W.mg_none_of X G0 b_all, PySem.W.mg_none_of X G0 b_any, PySem.W.mg_none_of X G0 b_abs, PySem.W.mg_none_of X G0 b_isinstance, PySem.W.mg_none_of X G0 b_list, PySem.W.mg_none_of X G0 b_tuple, PySem.W.mg_none_of X G0 b_int, PySem.W.mg_none_of X G0 b_bool, PySem.W.mg_none_of X G0 b_range, PySem.W.mg_none_of X G0 b_zip, PySem.W.mg_none_of X G0 b_enumerate⟩
  have F__law_digit : FunAt K mg "_law_digit" s__law_digit ["_law_state", "_law_base"] := ⟨f1, _, fun_mk (st := s__law_digit) l1 c1 k1, PySem.W.mg_of X G0 a1, (fun_mk (st := s__law_digit) l1 c1 k1).binds (ps := ["_law_state", "_law_base"]) fun _ _ _ _ _ _ us hl => match us, hl with | [_, _], _ => rfl⟩
  have F__law_made : FunAt K mg "_law_made" s__law_made ["_law_hard", "_law_places", "_law_told_here"] := ⟨f2, _, fun_mk (st := s__law_made) l2 c2 k2, PySem.W.mg_of X G0 a2, (fun_mk (st := s__law_made) l2 c2 k2).binds (ps := ["_law_hard", "_law_places", "_law_told_here"]) fun _ _ _ _ _ _ us hl => match us, hl with | [_, _, _], _ => rfl⟩
  have F__law_bench : FunAt K mg "_law_bench" s__law_bench ["_law_state", "_law_plates", "_law_places"] := ⟨f3, _, fun_mk (st := s__law_bench) l3 c3 k3, PySem.W.mg_of X G0 a3, (fun_mk (st := s__law_bench) l3 c3 k3).binds (ps := ["_law_state", "_law_plates", "_law_places"]) fun _ _ _ _ _ _ us hl => match us, hl with | [_, _, _], _ => rfl⟩
  have F_is_whole : FunAt K mg "is_whole" s_is_whole ["thing", "low", "high"] := ⟨f4, _, fun_mk (st := s_is_whole) l4 c4 k4, PySem.W.mg_of X G0 a4, (fun_mk (st := s_is_whole) l4 c4 k4).binds (ps := ["thing", "low", "high"]) fun _ _ _ _ _ _ us hl => match us, hl with | [_, _, _], _ => rfl⟩
  have F_is_hardness : FunAt K mg "is_hardness" s_is_hardness ["thing"] := ⟨f5, _, fun_mk (st := s_is_hardness) l5 c5 k5, PySem.W.mg_of X G0 a5, (fun_mk (st := s_is_hardness) l5 c5 k5).binds (ps := ["thing"]) fun _ _ _ _ _ _ us hl => match us, hl with | [_], _ => rfl⟩
  have F_are_wholes : FunAt K mg "are_wholes" s_are_wholes ["thing", "many"] := ⟨f6, _, fun_mk (st := s_are_wholes) l6 c6 k6, PySem.W.mg_of X G0 a6, (fun_mk (st := s_are_wholes) l6 c6 k6).binds (ps := ["thing", "many"]) fun _ _ _ _ _ _ us hl => match us, hl with | [_, _], _ => rfl⟩
  have F_is_turn : FunAt K mg "is_turn" s_is_turn ["thing", "places"] := ⟨f7, _, fun_mk (st := s_is_turn) l7 c7 k7, PySem.W.mg_of X G0 a7, (fun_mk (st := s_is_turn) l7 c7 k7).binds (ps := ["thing", "places"]) fun _ _ _ _ _ _ us hl => match us, hl with | [_, _], _ => rfl⟩
  have F_is_grinding : FunAt K mg "is_grinding" s_is_grinding ["thing", "plates", "places"] := ⟨f8, _, fun_mk (st := s_is_grinding) l8 c8 k8, PySem.W.mg_of X G0 a8, (fun_mk (st := s_is_grinding) l8 c8 k8).binds (ps := ["thing", "plates", "places"]) fun _ _ _ _ _ _ us hl => match us, hl with | [_, _, _], _ => rfl⟩
  have F__law_program : FunAt K mg "_law_program" s__law_program ["_law_model"] := ⟨f9, _, fun_mk (st := s__law_program) l9 c9 k9, PySem.W.mg_of X G0 a9, (fun_mk (st := s__law_program) l9 c9 k9).binds (ps := ["_law_model"]) fun _ _ _ _ _ _ us hl => match us, hl with | [_], _ => rfl⟩
  have F__law_stand : FunAt K mg "_law_stand" s__law_stand ["_law_state", "_law_model", "_law_most"] := ⟨f10, _, fun_mk (st := s__law_stand) l10 c10 k10, PySem.W.mg_of X G0 a10, (fun_mk (st := s__law_stand) l10 c10 k10).binds (ps := ["_law_state", "_law_model", "_law_most"]) fun _ _ _ _ _ _ us hl => match us, hl with | [_, _, _], _ => rfl⟩
  have F__law_told : FunAt K mg "_law_told" s__law_told ["_law_bench_here", "_law_model"] := ⟨f11, _, fun_mk (st := s__law_told) l11 c11 k11, PySem.W.mg_of X G0 a11, (fun_mk (st := s__law_told) l11 c11 k11).binds (ps := ["_law_bench_here", "_law_model"]) fun _ _ _ _ _ _ us hl => match us, hl with | [_, _], _ => rfl⟩
  have F__law_no_stand : FunAt K mg "_law_no_stand" s__law_no_stand ["_law_state", "_law_heights"] := ⟨f12, _, fun_mk (st := s__law_no_stand) l12 c12 k12, PySem.W.mg_of X G0 a12, (fun_mk (st := s__law_no_stand) l12 c12 k12).binds (ps := ["_law_state", "_law_heights"]) fun _ _ _ _ _ _ us hl => match us, hl with | [_, _], _ => rfl⟩
  have Fi := fun_mk (st := s_Bench___init__) l13 c13 k13
  have bi := (fun_mk (st := s_Bench___init__) l13 c13 k13).binds (ps := ["self", "hardness", "places", "grindings"]) fun _ _ _ _ _ _ us hl => match us, hl with | [_, _, _, _], _ => rfl
  have M_pairs_of : MethAt K C "pairs_of" "Bench.pairs_of" s_Bench_pairs_of ["self", "grinding"] := ⟨f14, _, fun_mk (st := s_Bench_pairs_of) l14 c14 k14, ⟨a14, i14, k14⟩, (fun_mk (st := s_Bench_pairs_of) l14 c14 k14).binds (ps := ["self", "grinding"]) fun _ _ _ _ _ _ us hl => match us, hl with | [_, _], _ => rfl⟩
  have M_hardness : MethAt K C "hardness" "Bench.hardness" s_Bench_hardness ["self"] := ⟨f15, _, fun_mk (st := s_Bench_hardness) l15 c15 k15, ⟨a15, i15, k15⟩, (fun_mk (st := s_Bench_hardness) l15 c15 k15).binds (ps := ["self"]) fun _ _ _ _ _ _ us hl => match us, hl with | [_], _ => rfl⟩
  have M_weights : MethAt K C "weights" "Bench.weights" s_Bench_weights ["self"] := ⟨f16, _, fun_mk (st := s_Bench_weights) l16 c16 k16, ⟨a16, i16, k16⟩, (fun_mk (st := s_Bench_weights) l16 c16 k16).binds (ps := ["self"]) fun _ _ _ _ _ _ us hl => match us, hl with | [_], _ => rfl⟩
  have M_grindings : MethAt K C "grindings" "Bench.grindings" s_Bench_grindings ["self"] := ⟨f17, _, fun_mk (st := s_Bench_grindings) l17 c17 k17, ⟨a17, i17, k17⟩, (fun_mk (st := s_Bench_grindings) l17 c17 k17).binds (ps := ["self"]) fun _ _ _ _ _ _ us hl => match us, hl with | [_], _ => rfl⟩
  have M_plates : MethAt K C "plates" "Bench.plates" s_Bench_plates ["self"] := ⟨f18, _, fun_mk (st := s_Bench_plates) l18 c18 k18, ⟨a18, i18, k18⟩, (fun_mk (st := s_Bench_plates) l18 c18 k18).binds (ps := ["self"]) fun _ _ _ _ _ _ us hl => match us, hl with | [_], _ => rfl⟩
  have M___len__ : MethAt K C "__len__" "Bench.__len__" s_Bench___len__ ["self"] := ⟨f19, _, fun_mk (st := s_Bench___len__) l19 c19 k19, ⟨a19, i19, k19⟩, (fun_mk (st := s_Bench___len__) l19 c19 k19).binds (ps := ["self"]) fun _ _ _ _ _ _ us hl => match us, hl with | [_], _ => rfl⟩
  have M_meetings : MethAt K C "meetings" "Bench.meetings" s_Bench_meetings ["self"] := ⟨f20, _, fun_mk (st := s_Bench_meetings) l20 c20 k20, ⟨a20, i20, k20⟩, (fun_mk (st := s_Bench_meetings) l20 c20 k20).binds (ps := ["self"]) fun _ _ _ _ _ _ us hl => match us, hl with | [_], _ => rfl⟩
  have M_is_stand : MethAt K C "is_stand" "Bench.is_stand" s_Bench_is_stand ["self", "thing"] := ⟨f21, _, fun_mk (st := s_Bench_is_stand) l21 c21 k21, ⟨a21, i21, k21⟩, (fun_mk (st := s_Bench_is_stand) l21 c21 k21).binds (ps := ["self", "thing"]) fun _ _ _ _ _ _ us hl => match us, hl with | [_, _], _ => rfl⟩
  have M___eq__ : MethAt K C "__eq__" "Bench.__eq__" s_Bench___eq__ ["self", "thing"] := ⟨f22, _, fun_mk (st := s_Bench___eq__) l22 c22 k22, ⟨a22, i22, k22⟩, (fun_mk (st := s_Bench___eq__) l22 c22 k22).binds (ps := ["self", "thing"]) fun _ _ _ _ _ _ us hl => match us, hl with | [_, _], _ => rfl⟩
  have FL := fun_mk (st := s_law) l23 c23 k23
  refine ⟨_, fun s v => .of_eq (rfl : bindArgs (PySem.W.fnOf "law" "law" (defArgs s_law) (defBody s_law) (defScope s_law) .none kV23 dc23 pm23 an23 cd23 ct23) ⟨[v], []⟩ = _), fun base _ _ => ?_⟩
  have T : Txt K mg C := ⟨⟨pg, hd, po, sa⟩, n_hard, n_places, n_told, n_heavy, n_meets, PySem.W.mg_of X G0 aC, ⟨_, PySem.W.mg_of X G0 g_MOST_PLATES⟩, ⟨_, PySem.W.mg_of X G0 g_MOST_HARDNESS⟩, ⟨_, PySem.W.mg_of X G0 g_MOST_PLACES⟩, ⟨_, PySem.W.mg_of X G0 g_MOST_GRINDINGS⟩⟩
  have TE : EqTxt K C := ⟨q1, q2, q3, q4, q5, q6, q7⟩
  have e1 := G.ok_digit (P := l.prog) (w := w) (K := K) (mg := mg) (base := base) B F__law_digit
  have e2 := G.ok_made (P := l.prog) (w := w) (K := K) (mg := mg) (base := base) B F__law_made
  have e3 := G.ok_bench (P := l.prog) (w := w) (K := K) (mg := mg) (base := base) B e1 e2 F__law_bench
  have e4 := G.Q.bench_to (P := l.prog) (w := w) (K := K) (mg := mg) (base := base) (C := C) e3
  have e5 := G.ok_is_whole (P := l.prog) (w := w) (K := K) (mg := mg) (base := base) B F_is_whole
  have e6 := G.ok_is_hardness (P := l.prog) (w := w) (K := K) (mg := mg) (base := base) (C := C) B T e5 F_is_hardness
  have e7 := G.ok_are_wholes (P := l.prog) (w := w) (K := K) (mg := mg) (base := base) B e5 F_are_wholes
  have e8 := G.ok_is_turn (P := l.prog) (w := w) (K := K) (mg := mg) (base := base) B e7 F_is_turn
  have e9 := G.ok_is_grinding (P := l.prog) (w := w) (K := K) (mg := mg) (base := base) B e5 e8 F_is_grinding
  have e10 := G.ok_pairs_of (P := l.prog) (w := w) (K := K) (mg := mg) (base := base) (C := C) B T M_pairs_of
  have e11 : DefC l.prog w K mg base 5 C "Bench" ["self", "hardness", "places", "grindings"] (spInit K C) := ⟨_, _, G.ok_init B T e6 e5 e9 e10 Fi, bi, ⟨mk, a13, i13, kc⟩, PySem.W.mg_of X G0 aC⟩
  have e12 := G.ok_program (P := l.prog) (w := w) (K := K) (mg := mg) (base := base) (C := C) B e11 F__law_program
  have e13 := G.Q.program_to (P := l.prog) (w := w) (K := K) (mg := mg) (base := base) (C := C) e12
  have e14 := G.ok_stand (P := l.prog) (w := w) (K := K) (mg := mg) (base := base) B e1 F__law_stand
  have e15 := G.Q.stand_to (P := l.prog) (w := w) (K := K) (mg := mg) (base := base) (C := C) e14
  have e16 := G.ok_hardness (P := l.prog) (w := w) (K := K) (mg := mg) (base := base) (C := C) B T M_hardness
  have e17 := G.ok_weights (P := l.prog) (w := w) (K := K) (mg := mg) (base := base) (C := C) B T M_weights
  have e18 := G.ok_grindings (P := l.prog) (w := w) (K := K) (mg := mg) (base := base) (C := C) B T M_grindings
  have e19 := G.ok_plates (P := l.prog) (w := w) (K := K) (mg := mg) (base := base) (C := C) B T M_plates
  have e20 := G.ok_len (P := l.prog) (w := w) (K := K) (mg := mg) (base := base) (C := C) B T M___len__
  have e21 := G.ok_meetings (P := l.prog) (w := w) (K := K) (mg := mg) (base := base) (C := C) B T M_meetings
  have e22 := G.ok_told (P := l.prog) (w := w) (K := K) (mg := mg) (base := base) (C := C) B T e16 e17 e18 e19 e20 e21 F__law_told
  have e23 := G.Q.told_to (P := l.prog) (w := w) (K := K) (mg := mg) (base := base) (C := C) e22
  have e24 := G.Q.dig_to (P := l.prog) (w := w) (K := K) (mg := mg) (base := base) (C := C) e1
  have e25 := G.Q.ok_no_standD (P := l.prog) (w := w) (K := K) (mg := mg) (base := base) (C := C) B e24 F__law_no_stand
  have e26 := G.Q.ok_is_whole (P := l.prog) (w := w) (K := K) (mg := mg) (base := base) (C := C) B F_is_whole
  have e27 := G.Q.ok_are_wholes (P := l.prog) (w := w) (K := K) (mg := mg) (base := base) (C := C) B e26 F_are_wholes
  have e28 := G.Q.ok_is_stand (P := l.prog) (w := w) (K := K) (mg := mg) (base := base) (C := C) B T e27 M_is_stand
  have e29 := G.ok_eq (P := l.prog) (w := w) (K := K) (mg := mg) (base := base) (C := C) B T TE M___eq__
  exact G.Q.ok_law B T TE e4 e13 e11 e15 e23 e25 e28 e29 FL
end G.Q
open PySem PySem.W PyProof.Rows
set_option maxRecDepth 100000 in
set_option maxHeartbeats 0 in
theorem PySem.Challenge.cw_groundmatch_k01_benches_told_holds : PySem.Challenge.rw_groundmatch_k01_benches_told.Holds := by
  w_on; o_law; k_head; (case hw => w_witness2)
  k_fill
  refine L2.walk_of (l := PySem.Challenge.rw_groundmatch_k01_benches_told) (n := 63) (k := 10) (x := "_law_script") (CX := fun _ => L2.CX0) (sp := fun w => G.spLaw _) rfl (by decide) rfl ⟨rfl, by decide, by decide⟩ (fun w h Y => PySem.W.kIn_of Y) ?F (fun _ _ a ns hl _ hS => ⟨a, ns, rfl, hS, hl, fun _ => rfl⟩) (fun _ _ _ _ _ h => h)
  case F =>
    intro w mg fa h KX G0 hmg
    refine' G.Q.all_mk KX G0 hmg ?a1 ?l1 ?c1 ?k1 ?a2 ?l2 ?c2 ?k2 ?a3 ?l3 ?c3 ?k3 ?a4 ?l4 ?c4 ?k4 ?a5 ?l5 ?c5 ?k5 ?a6 ?l6 ?c6 ?k6 ?a7 ?l7 ?c7 ?k7 ?a8 ?l8 ?c8 ?k8 ?a9 ?l9 ?c9 ?k9 ?a10 ?l10 ?c10 ?k10 ?a11 ?l11 ?c11 ?k11 ?a12 ?l12 ?c12 ?k12 ?a13 ?i13 ?l13 ?c13 ?k13 ?a14 ?i14 ?l14 ?c14 ?k14 ?a15 ?i15 ?l15 ?c15 ?k15 ?a16 ?i16 ?l16 ?c16 ?k16 ?a17 ?i17 ?l17 ?c17 ?k17 ?a18 ?i18 ?l18 ?c18 ?k18 ?a19 ?i19 ?l19 ?c19 ?k19 ?a20 ?i20 ?l20 ?c20 ?k20 ?a21 ?i21 ?l21 ?c21 ?k21 ?a22 ?i22 ?l22 ?c22 ?k22 ?a23 ?l23 ?c23 ?k23 ?aC ?pg ?hd ?po ?sa ?mk ?kc ?n_hard ?n_places ?n_told ?n_heavy ?n_meets ?g_MOST_PLATES ?g_MOST_HARDNESS ?g_MOST_PLACES ?g_MOST_GRINDINGS ?b_len ?b_sum ?b_sorted ?b_all ?b_any ?b_abs ?b_isinstance ?b_list ?b_tuple ?b_int ?b_bool ?b_range ?b_zip ?b_enumerate ?q1 ?q2 ?q3 ?q4 ?q5 ?q6 ?q7
    (case aC => k_is); (case a1 => k_is); (case l1 => k_is); (case c1 => k_is); (case k1 => k_is); (case a2 => k_is); (case l2 => k_is); (case c2 => k_is)
    (case k2 => k_is); (case a3 => k_is); (case l3 => k_is); (case c3 => k_is); (case k3 => k_is); (case a4 => k_is); (case l4 => k_is); (case c4 => k_is)
    (case k4 => k_is); (case a5 => k_is); (case l5 => k_is); (case c5 => k_is); (case k5 => k_is); (case a6 => k_is); (case l6 => k_is); (case c6 => k_is)
    (case k6 => k_is); (case a7 => k_is); (case l7 => k_is); (case c7 => k_is); (case k7 => k_is); (case a8 => k_is); (case l8 => k_is); (case c8 => k_is)
    (case k8 => k_is); (case a9 => k_is); (case l9 => k_is); (case c9 => k_is); (case k9 => k_is); (case a10 => k_is); (case l10 => k_is); (case c10 => k_is)
    (case k10 => k_is); (case a11 => k_is); (case l11 => k_is); (case c11 => k_is); (case k11 => k_is); (case a12 => k_is); (case l12 => k_is); (case c12 => k_is)
    (case k12 => k_is); (case a13 => k_is); (case i13 => k_is); (case l13 => k_is); (case c13 => k_is); (case k13 => k_is); (case a14 => k_is); (case i14 => k_is)
    (case l14 => k_is); (case c14 => k_is); (case k14 => k_is); (case a15 => k_is); (case i15 => k_is); (case l15 => k_is); (case c15 => k_is); (case k15 => k_is)
    (case a16 => k_is); (case i16 => k_is); (case l16 => k_is); (case c16 => k_is); (case k16 => k_is); (case a17 => k_is); (case i17 => k_is); (case l17 => k_is)
    (case c17 => k_is); (case k17 => k_is); (case a18 => k_is); (case i18 => k_is); (case l18 => k_is); (case c18 => k_is); (case k18 => k_is); (case a19 => k_is)
    (case i19 => k_is); (case l19 => k_is); (case c19 => k_is); (case k19 => k_is); (case a20 => k_is); (case i20 => k_is); (case l20 => k_is); (case c20 => k_is)
    (case k20 => k_is); (case a21 => k_is); (case i21 => k_is); (case l21 => k_is); (case c21 => k_is); (case k21 => k_is); (case a22 => k_is); (case i22 => k_is)
    (case l22 => k_is); (case c22 => k_is); (case k22 => k_is); (case a23 => k_is); (case l23 => k_is); (case c23 => k_is); (case k23 => k_is); (case pg => k_is)
    (case hd => k_is); (case po => k_is); (case sa => k_is); (case mk => k_is); (case kc => k_is); (case n_hard => k_is); (case n_places => k_is); (case n_told => k_is)
    (case n_heavy => k_is); (case n_meets => k_is); (case g_MOST_PLATES => k_is); (case g_MOST_HARDNESS => k_is); (case g_MOST_PLACES => k_is); (case g_MOST_GRINDINGS => k_is); (case b_len => k_is); (case b_sum => k_is)
    (case b_sorted => k_is); (case b_all => k_is); (case b_any => k_is); (case b_abs => k_is); (case b_isinstance => k_is); (case b_list => k_is); (case b_tuple => k_is); (case b_int => k_is)
    (case b_bool => k_is); (case b_range => k_is); (case b_zip => k_is); (case b_enumerate => k_is); (case q1 => first | k_is | rfl | decide +kernel); (case q2 => first | k_is | rfl | decide +kernel); (case q3 => first | k_is | rfl | decide +kernel); (case q4 => first | k_is | rfl | decide +kernel)
    (case q5 => first | k_is | rfl | decide +kernel); (case q6 => first | k_is | rfl | decide +kernel); (case q7 => first | k_is | rfl | decide +kernel)

