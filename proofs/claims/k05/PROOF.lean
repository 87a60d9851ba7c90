import PyProof.Rows.All
import Wide.All
import OpenK.AllK
import Wide.FinOn
import HandS.ForMost
import HandS.Conv
import HandS.Zip
import HandS.IsInst
import HandS.Wide
import HandS.Walk
import KE.KIndexOf
import KE.GoesEnum
import HandS.WordsExc
import HandS.TryOnly
import HandS.ExcIs
import HandS.ExcField
import HandS.RaiseMore
import HandS.Small
import KE.KExcIs
import HandS.TupAny
import HandS.TupMul
import PySem.Challenge.RW_groundmatch_k05_what_is_no_dust
set_option Elab.async false
set_option linter.all false
set_option maxRecDepth 100000
set_option maxHeartbeats 4000000
namespace G
open PySem PySem.Spec PyProof.Rows L2

section
variable {X : Cx}
theorem op_or {f : Value → Value → Sem Value} {r1 r2 : R2} (h1 : OpR X f r1) (h2 : OpR X f r2) : OpR X f (fun x y H Q => r1 x y H Q ∨ r2 x y H Q) := by
  intro pins s σ H x y v u Q I rx ry h
  rcases h with h | h
  · exact h1 pins s σ H x y v u Q I rx ry h
  · exact h2 pins s σ H x y v u Q I rx ry h
theorem cr_or {f : Value} {r1 r2 : List V → Hp → VK → Prop} (h1 : CallR X f r1) (h2 : CallR X f r2) : CallR X f (fun vs H Q => r1 vs H Q ∨ r2 vs H Q) := by
  intro pins s σ H vs us Q I r h
  rcases h with h | h
  · exact h1 pins s σ H vs us Q I r h
  · exact h2 pins s σ H vs us Q I r h

/-- o[i] of a list, by values (for o[i] op= e) -/
theorem get_list : PGet X (rIxL X.K) := by
  intro pins s σ H x y v u Q I rx ry h
  obtain ⟨p, xs, i, z, rfl, rfl, hq, he, q⟩ := h
  cases rx
  obtain ⟨t, rfl⟩ := ry
  obtain ⟨its, r, pl, hz⟩ := I.list hq
  obtain ⟨j, h1, h2, h3, h4, h5⟩ := atI_get he
  obtain ⟨w, ew, rw'⟩ := r.get h2
  have hl := r.length
  have hn := line63
  have fin : EP X pins σ Q w s := ⟨z, H, I, rw', q⟩
  by_cases h0 : 0 ≤ i
  · have hj : i.toNat = j := by
      rw [seqIndex_of h0 h5] at h1
      exact Option.some.inj h1
    exact wpAny_getItem_list pl.isList h0 (by omega) (by rw [hj]; simpa using ew) fin
  · have hj : (i + (its.toArray.size : Int)).toNat = j := by
      rw [seqIndex_neg (by omega) h4] at h1
      rw [List.size_toArray, ← hl]
      exact Option.some.inj h1
    exact wpAny_getItem_list_neg pl.isList (by omega) (by rw [List.size_toArray] <;> omega) (by omega) (by rw [hj]; simpa using ew) fin

/-- sum(t) of a tuple of ints -/
def rSumT (K : PySem.W.Frag) : List V → Hp → VK → Prop := fun vs H Q => ∃ (a : Addr) (ns : List Int), vs = [V.ref a] ∧ SqT K H a (ns.map V.int) ∧ Q (.int ns.sum) H
theorem preSum_list (ns : List Int) : ∀ j, preSum (fun i => ns.getD i 0) j = (ns.take j).sum := by
  intro j
  induction j with
  | zero => rfl
  | succ j ih =>
    show preSum (fun i => ns.getD i 0) j + ns.getD j 0 = _
    rw [ih]
    by_cases h : j < ns.length
    · rw [List.take_add_one, List.getElem?_eq_getElem h, List.sum_append, List.getD_eq_getElem?_getD, List.getElem?_eq_getElem h]
      simp
    · rw [List.take_of_length_le (by omega), List.take_of_length_le (by omega), List.getD_eq_getElem?_getD, List.getElem?_eq_none (by omega)]
      simp
theorem cr_sumT (hc : X.calm = true) : CallR X (.builtin "sum") (rSumT X.K) := by
  intro pins s σ H vs us Q I r h
  obtain ⟨a, ns, rfl, hs, q⟩ := h
  obtain ⟨its, rv, ht, _⟩ := I.tuple hs
  rw [Vals.ref1 r]
  have hi := rv.ints
  have hlt : a < s.heap.objs.size := ht.lt
  refine call_sum_walkG (wpAny_pyIter_tuple (show s.heap.IsTuple a its.toArray from ht) ⟨_, _, _, _, _, _, fun i => ns.getD i 0, rfl, Walks.tuple (A := X.A.in1) (I.ok.hd hc) s.heap.objs.size a (Nat.ne_of_lt hlt) its.toArray, ⟨⟨_, Heap.get?_push_size _ rfl, rfl, rfl⟩, ?_⟩, ?_, ?_, ?_⟩)
  · obtain ⟨o, e, c⟩ := ht
    exact ⟨o, Heap.get?_push_of_some _ e, c⟩
  · intro b hb
    show b < (s.heap.push _).objs.size
    rw [Heap.size_push]
    rcases List.mem_cons.mp hb with e | hb
    · rw [e]; exact Nat.lt_succ_self _
    · rcases List.mem_cons.mp hb with e | hb
      · rw [e]; exact Nat.lt_succ_of_lt hlt
      · cases hb
  · intro i v hv
    have hv' : its[i]? = some v := by simpa using hv
    have hil : i < its.length := (List.getElem?_eq_some_iff.mp hv').1
    have hin : i < ns.length := by
      have := rv.length
      rw [List.length_map] at this
      omega
    obtain ⟨u, hu, t, rfl⟩ := rv.get (i := i) (x := .int ns[i]) (by simp [hin])
    rw [hv'] at hu
    cases hu
    refine ⟨t, ?_⟩
    show Value.int ns[i] t = Value.int (ns.getD i 0) t
    rw [List.getD_eq_getElem?_getD, List.getElem?_eq_getElem hin]
    rfl
  · intro h' tk t' hk
    have hlen : its.toArray.size = ns.length := by
      have := rv.length
      rw [List.length_map] at this
      rw [List.size_toArray]; exact this.symm
    refine ⟨.int ns.sum, H, I.kept (t' := tk) fun b o e => hk b o (fun hm => ?_) (Heap.get?_push_of_some _ e), ⟨t', ?_⟩, q⟩
    · rcases List.mem_cons.mp hm with e1 | hm
      · exact absurd (e1 ▸ Heap.lt_size e) (Nat.lt_irrefl _)
      · cases hm
    · rw [hlen, preSum_list, List.take_length]

theorem sorted_tup_ints {prog : Program} {w : World} {A : Around} {E : Value → Shared → Prop} {s : Shared} {t : Addr} {vs : List Value} {ns : List Int} {Q : Value → Shared → Prop} (ht : s.heap.IsTuple t vs.toArray) (hI : IntsAre vs ns) (h64 : vs.length < 64)
    (h : ∀ (h1 h' : Heap) (a : Addr) (out : List Value) (ns' : List Int) (ep : Nat), IntsAre out ns' → ns'.Perm ns → ns'.Pairwise (· ≤ ·) → h1.objs.size ≤ a → h'.get? a = some { cls := .type "list", data := .seq out.toArray ep } →
      (∀ b o, s.heap.get? b = some o → h1.get? b = some o) → (∀ b o, h1.get? b = some o → h'.get? b = some o) → Q (.ref a) { s with heap := h' }) :
    wpAny (model prog w) A (call (.builtin "sorted") [.ref t]) Q E s := by
  obtain ⟨o, ho, hc, n, hd⟩ := ht
  refine Calls.call_function_entry kind_sorted plain_sorted entry_sorted (args_sorted1 _) ?_
  unfold Builtin.«sorted»
  refine wpAny_bind (m := checkCount "sorted" 1 1 _) (wpAny_pure ?_)
  refine wpAny_bind (wpAny_collect_seq t (.inr rfl) ho hc hd (fun h1 hk => ?_) (by rw [List.size_toArray, sizeLine_eq]; omega))
  refine wpAny_bind (wpAny_newList ?_)
  have hoL : (h1.push (seqObj "list" vs.toArray 0)).get? h1.objs.size = some (seqObj "list" vs.toArray 0) := Heap.get?_push_size _ rfl
  refine wpAny_bind (wpAny_holding (wpAny_call_entry slot_list_sort ⟨_, hoL, rfl⟩ entry_list_sort (list_sort_tree hoL hI h64 fun out ns' a1 a2 a3 => ⟨_, rfl, ?_⟩) (args_list_sort _)))
  obtain ⟨ep, he⟩ := sortedHeap_at (vs := vs) (out := out) hoL
  refine wpAny_pure ⟨_, rfl, h h1 _ _ out.toList ns' ep a1 a2 a3 (Nat.le_refl _) he hk fun b ob hb => ?_⟩
  have hlt : b < h1.objs.size := Heap.lt_size hb
  rw [sortedHeap_old (Nat.ne_of_lt hlt) (by rw [Heap.size_push]; exact Nat.lt_succ_of_lt hlt)]
  exact Heap.get?_push_of_some _ hb
/-- sorted(t) of a tuple of ints, fewer than 64 -/
def rSortedT (K : PySem.W.Frag) : List V → Hp → VK → Prop := fun vs H Q => ∃ (a : Addr) (ns : List Int), vs = [V.ref a] ∧ SqT K H a (ns.map V.int) ∧ ns.length < 64 ∧
  ∀ (ns' : List Int) (p : Addr), ns'.Perm ns → ns'.Pairwise (· ≤ ·) → H p = none → Q (.ref p) (upd H p (.lst (ns'.map V.int)))
theorem cr_sortedT : CallR X (.builtin "sorted") (rSortedT X.K) := by
  intro pins s σ H vs us Q I r h
  obtain ⟨a, ns, rfl, hs, h64, q⟩ := h
  obtain ⟨its, rv, ht, _⟩ := I.tuple hs
  rw [Vals.ref1 r]
  have hi := rv.ints
  refine sorted_tup_ints (show s.heap.IsTuple a its.toArray from ht) hi (by rw [hi.length]; exact h64) fun h1 h' p out ns' ep e1 e2 e3 e4 e5 e6 e7 => ?_
  have I1 : Inv X pins σ H { s with heap := h1 } := I.kept (t' := s.toks) e6
  have hlen : (ns'.map V.int).length ≤ sizeLine := by rw [List.length_map, e2.length_eq]; exact small64 h64
  exact ⟨.ref _, upd H p (.lst (ns'.map V.int)), I1.laid (t' := s.toks) e7 e4 ⟨hlen, out, ep, vals_of_ints e1, e5⟩, rfl, q ns' _ e2 e3 (I1.hok.fresh e4)⟩

/-- t.index(k) of a tuple of ints, k there -/
theorem mt_tupIndexI : MtR X "tuple.index" (fun x xs H Q => ∃ p, ∃ ns : List Int, ∃ k : Int, x = .ref p ∧ xs = [.int k] ∧ SqT X.K H p (ns.map V.int) ∧ k ∈ ns ∧ Q (.int ((ns.idxOf k : Nat) : Int)) H) := by
  intro pins s σ H x xs v us Q I rx rs h
  obtain ⟨p, ns, k, rfl, rfl, hq, hk, q⟩ := h
  cases rx
  obtain ⟨u, rfl, t, rfl⟩ := vals1 rs
  obtain ⟨its, r, pl, hz⟩ := I.tuple hq
  exact PySem.SeqAt.tuple_index_ints (show s.heap.IsTuple p its.toArray from pl) r.ints hk ⟨.int _, H, I.tok _, ⟨_, rfl⟩, q⟩

/-- tuple(xs) of a list: the new tuple known by its object (it has no dict) -/
def rTupleF (K : PySem.W.Frag) : List V → Hp → VK → Prop := fun xs H Q => ∃ p ys, xs = [.ref p] ∧ SqL K H p ys ∧ ∀ (l : Addr) (ob : Obj), ob.dict = none → H l = none → Q (.ref l) (upd H l (.frz ob (.tup ys)))
theorem cr_tupleF : CallR X (.type "tuple") (rTupleF X.K) := by
  intro pins s σ H xs us Q I r h
  obtain ⟨p, ys, rfl, hq, q⟩ := h
  obtain ⟨u, rfl, rx⟩ := vals1 r
  cases rx
  obtain ⟨its, r', pl, hz⟩ := I.list hq
  have hlen := r'.length
  refine call_tuple_list pl.isList (fun h' kp => ?_) (by simp only [List.size_toArray] <;> omega)
  have I1 : Inv X pins σ H { s with heap := h' } := I.kept (t' := s.toks) kp
  refine ⟨.ref h'.objs.size, _, I1.laid (t' := s.toks) (o := .frz { cls := .type "tuple", data := .seq its.toArray } (.tup ys)) (fun b o e => Heap.get?_push_of_some _ e) (Nat.le_refl _) ⟨Heap.get?_push_size _ rfl, hz, its, r', IsTup.new _ _⟩, rfl, q _ _ rfl (I1.hok.fresh (Nat.le_refl _))⟩
/-- t.m(e, ..), t such a tuple -/
def tBMT (r : V → List V → Hp → VK → Prop) (to : TE) (t : TA) : TE := fun σ H Q => to σ H fun x H1 => (∃ p ob ys, x = .ref p ∧ H1 p = some (.frz ob (.tup ys)) ∧ ob.dict = none) ∧ t σ H1 fun xs H2 => r x xs H2 Q
theorem pe_bmT {o e : Expr} {es : List Expr} {to : TE} {t : TA} {name : Str} {apos cpos : Pos} {id : String} {r : V → List V → Hp → VK → Prop} (slot : Slot "tuple" name id) (hty : typeOf (.builtin id) = pure (.type "method_descriptor")) (hm : MtR X id r) (ho : PE X o to) (ha : PA X (e :: es) t)
    (hbase : attributeBase o name X.env (eval o X.env) = eval o X.env := by rfl)
    (hfew : ((backTo cpos (starEach (e :: es) X.env)).all (fun x => !x.1) && (backToKw cpos (keywordEach [] X.env)).all (fun x => x.1.isSome) && decide ((e :: es).length + ([] : List Keyword).length + (if ([] : List Keyword).isEmpty then 0 else 1) < 30)) = true := by rfl)
    (hline : (apos.endLine == cpos.line) = true := by rfl) (hs : starEach (e :: es) X.env = (false, eval e X.env) :: starEach es X.env := by rfl) (hplain : (backTo cpos (starEach es X.env)).any (·.1) = false := by rfl) :
    PE X (.Call (.Attribute o name apos) (e :: es) [] cpos) (tBMT r to t) := by
  refine ⟨fun pins s σ H Q I h => ?_⟩
  refine wpAny_Call_method_late hbase hfew hline rfl (thn (ho.run pins s σ H _ I h) fun v s1 ⟨x, H1, I1, r1, ty, q1⟩ => ?_)
  obtain ⟨p, ob, ys, rfl, hp, hdn⟩ := ty
  cases r1
  obtain ⟨hob, hz, its, rv, ob', e', hc, _⟩ := I1.hok p _ hp
  rw [hob] at e'
  cases e'
  refine ⟨"tuple", id, PySem.F.plainAttrs_tuple, slot, hty, ⟨ob, hob, hc⟩, fun a ea => ?_, ?_⟩
  · cases ea
    exact ⟨ob, hob, hdn⟩
  have hA := ha.run cpos pins s1 σ H1 _ I1 q1
  rw [hs] at hA ⊢
  refine Calls.callWith_builtin (by show (false || (backTo cpos (starEach es X.env)).any (·.1)) = false; rw [hplain] <;> rfl) (Calls.evalArgs_plain ?_)
  exact thn hA fun us s2 ⟨vs, H2, I2, r2, q2⟩ => hm pins s2 σ H2 (.ref p) vs _ us Q I2 rfl r2 q2

/-! zip of two sequences, lists or tuples in any mix -/
end
def SqB (k : Bool) (K : PySem.W.Frag) (H : Hp) (a : Addr) (xs : List V) : Prop := match k with | true => SqL K H a xs | false => SqT K H a xs
def ItB (k : Bool) (h : Heap) (it l : Addr) (i : Nat) : Prop := match k with | true => h.IsListIter it l i | false => h.IsTupleIter it l i
def IsB (k : Bool) (h : Heap) (l : Addr) (xs : Array Value) : Prop := match k with | true => h.IsList l xs | false => h.IsTuple l xs
def itObj (k : Bool) (l : Addr) : Obj := { cls := .type (match k with | true => "list_iterator" | false => "tuple_iterator"), data := .fields #[.ref l, .int 0 0] }
theorem sqb_at {X : Cx} {pins : List (Addr × Obj)} {σ : L2.St} {H : Hp} {s : Shared} {k : Bool} {a : Addr} {xs : List V} (I : Inv X pins σ H s) (h : SqB k X.K H a xs) : ∃ its : List Value, Vals xs its ∧ IsB k s.heap a its.toArray ∧ a < s.heap.objs.size := by
  cases k with
  | true =>
    obtain ⟨its, rv, p, _⟩ := I.list h
    exact ⟨its, rv, p.isList, p.lt⟩
  | false =>
    obtain ⟨its, rv, p, _⟩ := I.tuple h
    exact ⟨its, rv, p, p.lt⟩
theorem sqb_inj {X : Cx} {pins : List (Addr × Obj)} {σ : L2.St} {H : Hp} {s : Shared} {k : Bool} {a : Addr} {xs ys : List V} (I : Inv X pins σ H s) (h : SqB k X.K H a xs) (h' : SqB k X.K H a ys) : xs = ys := by
  cases k with
  | true => exact I.list_inj h h'
  | false => exact I.tuple_inj h h'
theorem drawsB {prog : Program} {w : World} {A : Around} (k : Bool) (hh : A.handled = none) (it l : Addr) (hne : l ≠ it) (items : Array Value) :
    Draws prog w A it [it, l] items.size (fun i v => items[i]? = some v) (fun i h => ItB k h it l i ∧ IsB k h l items) := by
  cases k with
  | true => exact Draws.list hh it l hne items
  | false => exact Draws.tuple hh it l hne items
theorem beginsB (k : Bool) (l : Addr) (items : Array Value) : Begins (.ref l) (itObj k l) fun h => IsB k h l items := by
  cases k with
  | true => exact begins_list l items
  | false => exact begins_tuple l items
theorem ItB.at {k : Bool} {h h' : Heap} {it l : Addr} {i : Nat} (x : ItB k h it l i) (e : ∀ o, h.get? it = some o → h'.get? it = some o) : ItB k h' it l i := by
  cases k with
  | true => exact Heap.IsListIter.at x e
  | false => exact Heap.IsTupleIter.at x e
theorem ItB.obj {k : Bool} {h : Heap} {it l : Addr} {i : Nat} (x : ItB k h it l i) : ∃ o, h.get? it = some o ∧ ∀ v, o.data ≠ .cell v := by
  cases k with
  | true =>
    obtain ⟨o, e, _, d⟩ := x
    exact ⟨o, e, fun v q => by rw [d] at q; cases q⟩
  | false =>
    obtain ⟨o, e, _, d⟩ := x
    exact ⟨o, e, fun v q => by rw [d] at q; cases q⟩
/-- one of five, by a property that all five have -/
theorem in5 {P : Addr → Prop} {c a b d e f : Addr} (h : c ∈ [a, b, d, e, f]) (ha : P a) (hb : P b) (hd : P d) (he : P e) (hf : P f) : P c := by
  simp only [List.mem_cons, List.not_mem_nil, or_false] at h
  rcases h with rfl | rfl | rfl | rfl | rfl <;> assumption
theorem out5 {c a b d e f : Addr} (h : c ∉ [a, b, d, e, f]) : c ≠ a ∧ c ≠ b ∧ c ≠ d ∧ c ≠ e ∧ c ≠ f := by
  simp only [List.mem_cons, List.not_mem_nil, or_false, not_or] at h
  exact h
/-- what a zip's turn yields: a new pair of the two items at hand -/
def ItzM (j k : Bool) (K : PySem.W.Frag) (a b : Addr) : It :=
  ⟨fun i H => ∃ (xs ys : List V) (x y : V), SqB j K H a xs ∧ SqB k K H b ys ∧ xs[i]? = some x ∧ ys[i]? = some y,
    fun i H v H' => ∃ T x y, v = .ref T ∧ H T = none ∧ H' = upd H T (.tup [x, y]) ∧ (∀ xs, SqB j K H a xs → xs[i]? = some x) ∧ ∀ ys, SqB k K H b ys → ys[i]? = some y,
    fun i H => ∃ xs ys : List V, SqB j K H a xs ∧ SqB k K H b ys ∧ i ≤ xs.length ∧ i ≤ ys.length ∧ (i = xs.length ∨ i = ys.length)⟩
theorem turn_zipM {P : Program} {w : World} {K : PySem.W.Frag} {j k : Bool} {elts : List Expr} {kk : Nat} {tpos : Pos} {a b z TI TO i1 i2 : Addr} (D : ZipSep2 z TI TO i1 i2 [i1, a] [i2, b]) (n1 : a ≠ i1) (n2 : b ≠ i2) :
    Turn P w K (.Tuple elts kk tpos) (ItzM j k K a b) [z, TI, TO, i1, i2] z (fun i h => IsZip h z TI TO .none ∧ IsTupOf2 h TI (.ref i1) (.ref i2) ∧ (∃ x y, IsTupOf2 h TO x y) ∧ ItB j h i1 a i ∧ ItB k h i2 b i) where
  mem := by simp
  obj := fun i h st c hc => by
    obtain ⟨hz, hTI, ⟨x, y, hTO⟩, h1, h2⟩ := st
    exact in5 (P := fun c => ∃ o, h.get? c = some o ∧ ∀ v, o.data ≠ .cell v) hc ⟨_, hz, fun v q => nomatch q⟩ ⟨_, hTI, fun v q => nomatch q⟩ ⟨_, hTO, fun v q => nomatch q⟩ h1.obj h2.obj
  keep := fun i h h' st k => by
    obtain ⟨hz, hTI, ⟨x, y, hTO⟩, h1, h2⟩ := st
    exact ⟨k z (by simp) _ hz, k TI (by simp) _ hTI, ⟨x, y, k TO (by simp) _ hTO⟩, h1.at fun o q => k i1 (by simp) o q, h2.at fun o q => k i2 (by simp) o q⟩
  item := by
    intro X hP hw hK hc i pins s σ H E I hf st hg
    subst hP hw hK
    obtain ⟨hz, hTI, ⟨x0, y0, hTO⟩, h1, h2⟩ := st
    obtain ⟨xs, ys, x, y, hqx, hqy, hx, hy⟩ := hg
    obtain ⟨its, rv, p, _⟩ := sqb_at I hqx
    obtain ⟨its2, rv2, p2, _⟩ := sqb_at I hqy
    obtain ⟨u, hu, ru⟩ := rv.get hx
    obtain ⟨u2, hu2, ru2⟩ := rv2.get hy
    have hzl : z < s.heap.objs.size := Heap.lt_size hz
    have l1 : i < its.toArray.size := by rw [List.size_toArray]; exact (List.getElem?_eq_some_iff.mp hu).1
    have l2 : i < its2.toArray.size := by rw [List.size_toArray]; exact (List.getElem?_eq_some_iff.mp hu2).1
    refine wpAny_pyNext_zipD2_item D (drawsB (A := X.A.in1) j (I.ok.hd hc) i1 a n1 its.toArray) (drawsB (A := X.A.in1) k (I.ok.hd hc) i2 b n2 its2.toArray) hz hTI hTO ⟨h1, p⟩ ⟨h2, p2⟩ l1 l2 fun w1 w2 h' tk e1 e2 z' TO' st1 st2 hT hsz hk => ?_
    have ew1 : w1 = u := by
      have : its[i]? = some w1 := by simpa using e1
      rw [hu] at this; exact (Option.some.inj this).symm
    have ew2 : w2 = u2 := by
      have : its2[i]? = some w2 := by simpa using e2
      rw [hu2] at this; exact (Option.some.inj this).symm
    subst ew1 ew2
    refine ⟨_, rfl, wpAny_letOwnedTupleGo_zip (s := { s with heap := h', toks := tk }) z' fun h'' z'' sb => ?_⟩
    have hT2 : h''.get? s.heap.objs.size = some { cls := .type "tuple", data := .seq #[w1, w2] } := (sb.2 _ (Nat.ne_of_gt hzl)).trans hT
    have new : ObjOk X.prog X.w (upd H s.heap.objs.size (.tup [x, y])) h'' s.heap.objs.size (.tup [x, y]) :=
      ⟨by show 2 ≤ sizeLine; decide, [w1, w2], .cons ru (.cons ru2 .nil), ⟨_, hT2, rfl, _, rfl⟩⟩
    have I1 : Inv X pins σ (upd H s.heap.objs.size (.tup [x, y])) { s with heap := h'', toks := tk } :=
      I.turnedNew (t' := tk) (ch := [z, TI, TO, i1, i2]) (fun c o hb q => have ⟨c1, _, c3, c4, c5⟩ := out5 hb; (sb.2 c c1).trans (hk c o c1 c3 c4 c5 q)) hf (Nat.le_refl _) new
    refine ⟨.ref s.heap.objs.size, _, I1, rfl, ⟨_, x, y, rfl, I.hok.fresh (Nat.le_refl _), rfl, fun l hl => by rw [sqb_inj I hl hqx]; exact hx, fun l hl => by rw [sqb_inj I hl hqy]; exact hy⟩, ⟨z'', ?_, ⟨w1, w2, ?_⟩, ?_, ?_⟩, fun c hcm => ?_⟩
    · exact (sb.2 _ D.TIz).trans (hk _ _ D.TIz D.TITO D.TIi1 D.TIi2 hTI)
    · exact (sb.2 _ D.TOz).trans TO'
    · exact st1.1.at fun o q => (sb.2 _ D.zi1.symm).trans q
    · exact st2.1.at fun o q => (sb.2 _ D.zi2.symm).trans q
    · have hlt : c < s.heap.objs.size := by
        obtain ⟨_, g1, _⟩ := h1.obj
        obtain ⟨_, g2, _⟩ := h2.obj
        exact in5 (P := fun c => c < s.heap.objs.size) hcm hzl (Heap.lt_size hTI) (Heap.lt_size hTO) (Heap.lt_size g1) (Heap.lt_size g2)
      rw [upd_ne (Nat.ne_of_lt hlt)]
      exact (hf c hcm).1
  done := by
    intro X hP hw hK hc i pins s σ H E I hf st hg
    subst hP hw hK
    obtain ⟨hz, hTI, ⟨x0, y0, hTO⟩, h1, h2⟩ := st
    obtain ⟨xs, ys, hqx, hqy, le1, le2, hend⟩ := hg
    obtain ⟨its, rv, p, _⟩ := sqb_at I hqx
    obtain ⟨its2, rv2, p2, _⟩ := sqb_at I hqy
    have l1 : its.toArray.size = xs.length := by rw [List.size_toArray]; exact rv.length.symm
    have l2 : its2.toArray.size = ys.length := by rw [List.size_toArray]; exact rv2.length.symm
    exact wpAny_pyNext_zipD2_end D (drawsB (A := X.A.in1) j (I.ok.hd hc) i1 a n1 its.toArray) (drawsB (A := X.A.in1) k (I.ok.hd hc) i2 b n2 its2.toArray) hz hTI hTO ⟨h1, p⟩ ⟨h2, p2⟩ (by omega) (by omega) (by omega) fun h' tk hk => ⟨rfl, I.turnedL (t' := tk) (ch := [z, TI, TO, i1, i2]) (fun c o hb q => have ⟨c1, _, c3, c4, c5⟩ := out5 hb; hk c o c1 c3 c4 c5 q) hf⟩
  self := fun A i s Q E st h => wpAny_pyIter_zip st.1 h

def iZipM (K : PySem.W.Frag) (ta : TA) : TI := fun σ H R => ta σ H fun vs H1 => ∃ j k a b xs ys, vs = [.ref a, .ref b] ∧ SqB j K H1 a xs ∧ SqB k K H1 b ys ∧ R (ItzM j k K a b) H1
theorem pi_zipM {X : Cx} {e e2 : Expr} {ta : TA} {p pos tpos : Pos} {elts : List Expr} {kk : Nat} (hg : Gl X "zip") (hm : X.mg "zip" = none) (ha : PA X [e, e2] ta)
    (hs : starEach [e, e2] X.env = (false, eval e X.env) :: starEach [e2] X.env := by rfl) (hpl : (backTo pos (starEach [e2] X.env)).any (·.1) = false := by rfl) :
    PI X (.Tuple elts kk tpos) (.Call (.Name "zip" p) [e, e2] [] pos) (iZipM X.K ta) := by
  refine ⟨fun pins s σ H R I h => ?_⟩
  refine Call_ (ld_blt I hg hm PyProof.Rows.boot_zip (PyProof.Rows.callWith_type1 (thn (ha.run pos pins s σ H _ I h) fun us s1 ⟨vs, H1, I1, r1, q1⟩ => ?_) hs hpl))
  obtain ⟨j, k, a, b, xs, ys, ex, hqx, hqy, q⟩ := q1
  subst ex
  cases r1 with
  | cons r rr =>
    cases rr with
    | cons r' rr =>
      cases rr
      cases r
      cases r'
      have fresh5 : ∀ c, c ∈ [s1.heap.objs.size + 4, s1.heap.objs.size + 2, s1.heap.objs.size + 3, s1.heap.objs.size, s1.heap.objs.size + 1] → FpOk X pins H1 c := fun c hcm => by
        have hle : s1.heap.objs.size ≤ c := in5 (P := fun c => s1.heap.objs.size ≤ c) hcm (Nat.le_add_right _ _) (Nat.le_add_right _ _) (Nat.le_add_right _ _) (Nat.le_refl _) (Nat.le_add_right _ _)
        exact I1.fpOk hle (I1.hok.fresh hle)
      obtain ⟨its, rv, p1, lt1⟩ := sqb_at I1 hqx
      obtain ⟨its2, rv2, p2, lt2⟩ := sqb_at I1 hqy
      refine zip_begins2 (beginsB j a its.toArray) (beginsB k b its2.toArray) p1 p2 fun h' hz hTI hTO g1 g2 hsz hk => wpAny_pyIter_zip hz ?_
      have I2 : Inv X pins σ H1 { s1 with heap := h' } := I1.kept (t' := s1.toks) hk
      refine ⟨s1.heap.objs.size + 4, [s1.heap.objs.size + 4, s1.heap.objs.size + 2, s1.heap.objs.size + 3, s1.heap.objs.size, s1.heap.objs.size + 1], _, _, H1, rfl, I2, turn_zipM (j := j) (k := k) (zip_sep2 (fp1 := [a]) (fp2 := [b]) (fun c hc => ?_) (fun c hc => ?_)) (Nat.ne_of_lt lt1) (Nat.ne_of_lt (Nat.lt_succ_of_lt lt2)), ⟨hz, hTI, ⟨_, _, hTO⟩, ?_, ?_⟩, fresh5, q⟩
      · rw [List.mem_singleton.mp hc]; exact lt1
      · rw [List.mem_singleton.mp hc]; exact lt2
      · cases j with
        | true => exact ⟨_, g1, rfl, rfl⟩
        | false => exact ⟨_, g1, rfl, rfl⟩
      · cases k with
        | true => exact ⟨_, g2, rfl, rfl⟩
        | false => exact ⟨_, g2, rfl, rfl⟩
end G

namespace G
open PySem PySem.Spec PyProof.Rows L2

/-! ### heaps: F the frozen part, H all -/
def del (H : Hp) (a : Addr) : Hp := fun b => if b = a then none else H b
theorem del_same {H : Hp} {a : Addr} : del H a a = none := by unfold del; rw [if_pos rfl]
theorem del_ne {H : Hp} {a b : Addr} (h : b ≠ a) : del H a b = H b := by unfold del; rw [if_neg h]
theorem del_upd {H : Hp} {a : Addr} {o : HO} : del (upd H a o) a = del H a := by
  funext b; unfold del upd; by_cases h : b = a <;> simp [h]
theorem del_upd_ne {H : Hp} {a p : Addr} {o : HO} (h : p ≠ a) : del (upd H p o) a = upd (del H a) p o := by
  funext b
  unfold del upd
  by_cases h1 : b = a
  · subst h1
    simp [Ne.symm h]
  · simp [h1]
theorem del_sub {H : Hp} {a : Addr} : Same (del H a) H := fun b o e => by
  by_cases h : b = a
  · rw [h, del_same] at e; cases e
  · rw [del_ne h] at e; exact e
theorem same_upd {H : Hp} {p : Addr} {o : HO} (h : H p = none) : Same H (upd H p o) := fun b x e => by
  rw [upd_ne (ne_of_none e h)]
  exact e
theorem same_updR {F H : Hp} {p : Addr} {o : HO} (e : Same F H) (h : F p = none) : Same F (upd H p o) := fun b x q => by
  rw [upd_ne (ne_of_none q h)]
  exact e b x q
theorem same_upd2 {F H : Hp} {p : Addr} {o : HO} (e : Same F H) : Same (upd F p o) (upd H p o) := fun b x q => by
  by_cases h : b = p
  · rw [h, upd_same] at q ⊢; exact q
  · rw [upd_ne h] at q ⊢; exact e b x q
theorem sub_none {F H : Hp} {p : Addr} (e : Same F H) (h : H p = none) : F p = none := e.free h

structure Ext (F H F' H' : Hp) : Prop where
  hh : Same H H'
  ff : Same F F'
  fh : Same F' H'
  fr : ∀ b, H b ≠ none → F b = none → F' b = none
theorem Ext.refl {F H : Hp} (e : Same F H) : Ext F H F H := ⟨Same.refl H, Same.refl F, e, fun _ _ h => h⟩
theorem Ext.trans {F H F1 H1 F2 H2 : Hp} (a : Ext F H F1 H1) (b : Ext F1 H1 F2 H2) : Ext F H F2 H2 :=
  ⟨a.hh.trans b.hh, a.ff.trans b.ff, b.fh, fun c h1 h2 => b.fr c (fun z => by
    cases q : H c with
    | none => exact h1 q
    | some o => rw [a.hh c o q] at z; cases z) (a.fr c h1 h2)⟩
/-- a new frozen object -/
theorem Ext.new {F H F1 H1 : Hp} {p : Addr} {o : HO} (a : Ext F H F1 H1) (h : H1 p = none) : Ext F H (upd F1 p o) (upd H1 p o) :=
  ⟨a.hh.trans (same_upd h), a.ff.trans (same_upd (sub_none a.fh h)), same_upd2 a.fh, fun b h1 h2 => by
    rw [upd_ne]
    · exact a.fr b h1 h2
    · intro z
      subst z
      exact h1 (a.hh.free h)⟩
/-- a new object that will change -/
theorem Ext.mut {F H F1 H1 : Hp} {p : Addr} {o : HO} (a : Ext F H F1 H1) (h : H1 p = none) : Ext F H F1 (upd H1 p o) :=
  ⟨a.hh.trans (same_upd h), a.ff, same_updR a.fh (sub_none a.fh h), a.fr⟩
/-- it changes -/
theorem Ext.chg {F H F1 H1 : Hp} {p : Addr} {o : HO} (a : Ext F H F1 H1) (h : H p = none) (hf : F1 p = none) : Ext F H F1 (upd H1 p o) :=
  ⟨same_updR a.hh h, a.ff, same_updR a.fh hf, a.fr⟩
/-- it is frozen -/
theorem Ext.frz {F H F1 H1 : Hp} {p : Addr} {o : HO} (a : Ext F H F1 H1) (h : H p = none) (hf : F1 p = none) (ho : H1 p = some o) : Ext F H (upd F1 p o) H1 :=
  ⟨a.hh, a.ff.trans (same_upd hf), fun b x q => by
    by_cases z : b = p
    · rw [z, upd_same] at q; rw [z]; cases q; exact ho
    · rw [upd_ne z] at q; exact a.fh b x q, fun b h1 h2 => by
    rw [upd_ne]
    · exact a.fr b h1 h2
    · intro z
      subst z
      exact h1 h⟩
/-! ### what stays when the frozen part grows -/
theorem sqT_mono {K : PySem.W.Frag} {H H' : Hp} {a : Addr} {xs : List V} (e : Same H H') (h : SqT K H a xs) : SqT K H' a xs := by
  rcases h with (h | ⟨o, h⟩) | h
  · exact .inl (.inl (e _ _ h))
  · exact .inl (.inr ⟨o, e _ _ h⟩)
  · exact .inr h
theorem sqL_mono {K : PySem.W.Frag} {H H' : Hp} {a : Addr} {xs : List V} (e : Same H H') (h : SqL K H a xs) : SqL K H' a xs := e.seq h
mutual
theorem dp_mono {K : PySem.W.Frag} {H H' : Hp} (e : Same H H') : ∀ {v : V} {d : PyData}, Dp K H v d → Dp K H' v d
  | _, _, .non => .non
  | _, _, .bl b => .bl b
  | _, _, .int i => .int i
  | _, _, .str x => .str x
  | _, _, .lst h hs => .lst (sqL_mono e h) (dpAll_mono e hs)
  | _, _, .tup h hs => .tup (sqT_mono e h) (dpAll_mono e hs)
theorem dpAll_mono {K : PySem.W.Frag} {H H' : Hp} (e : Same H H') : ∀ {vs : List V} {ds : List PyData}, DpAll K H vs ds → DpAll K H' vs ds
  | _, _, .nil => .nil
  | _, _, .cons h hs => .cons (dp_mono e h) (dpAll_mono e hs)
end

/-! ### defs of the module -/
section
variable {P : Program} {w : World} {K : PySem.W.Frag} {mg : Str → Option Value} {base : Heap}
/-- the def of a name stands in the module -/
structure FunAt (K : PySem.W.Frag) (mg : Str → Option Value) (x : Str) (st : Stmt) (ps : List Str) : Prop where
  ex : ∃ f fd, Fun K x x st f fd ∧ mg x = some (.ref f) ∧ Binds K fd ps []
/-- .. and keeps a promise -/
structure Def (P : Program) (w : World) (K : PySem.W.Frag) (mg : Str → Option Value) (base : Heap) (k : Nat) (x : Str) (ps : List Str) (sp : Sp) : Prop where
  ex : ∃ f fd, FnOk P w K mg base CX0 k f fd ps sp ∧ Binds K fd ps [] ∧ mg x = some (.ref f) ∧ PySem.W.keepIn K (.ref f) = true
theorem FunAt.def {x : Str} {st : Stmt} {N ps : List Str} {k : Nat} {sp : Sp} (F : FunAt K mg x st ps) (S : FnScope N ps (defScope st)) (len : ∀ vs H Q E, sp vs H Q E → vs.length = ps.length)
    (hbody : ∀ (f : Addr) (cdv : Value) (A : Around) (outer : List Env) (s : Shared) (H : Hp) (vs : List V) (Q : VK) (E : XK), Room k (A.deeper (envOfC x (defScope st) s.heap.objs.size f cdv)) → sp vs H Q E →
      ∃ t, PSs (cxOf CX0 P w K mg base N x (defScope st) f cdv A outer s H E).nox (defBody st) t ∧ t { nx := fun _ H' => Q .non H', rt := Q } (start N vs) H) : Def P w K mg base (k + 1) x ps sp := by
  obtain ⟨f, fd, F, m, b⟩ := F.ex
  exact ⟨f, fd, F.ok S len (hbody f), b, m, F.kp⟩
theorem Def.mono {j k : Nat} {x : Str} {ps : List Str} {sp : Sp} (D : Def P w K mg base j x ps sp) (h : j ≤ k) : Def P w K mg base k x ps sp := by
  obtain ⟨f, fd, F, b⟩ := D.ex
  exact ⟨f, fd, F.mono h, b⟩
end
section
variable {X : Cx} {k : Nat} {x : Str} {ps : List Str} {sp : Sp} {e : Expr} {es : List Expr} {t : TA} {p pos : Pos}
theorem pe_d (D : Def X.prog X.w X.K X.mg X.base k x ps sp) (hr : Room k X.A) (hg : Gl X x) (ha : PA X (e :: es) t) (hdb : (x == ("__debug__" : Str)) = false := by decide)
    (he : starEach (e :: es) X.env = (false, eval e X.env) :: starEach es X.env := by rfl) (hpl : (backTo pos (starEach es X.env)).any (·.1) = false := by rfl) :
    PE X (.Call (.Name x p) (e :: es) [] pos) (tCall sp [] E0 t) := by
  obtain ⟨f, fd, F, b, m, kp⟩ := D.ex
  exact pe_call F hr hg m kp b .nil pass0 ha hdb he hpl
end
/-- methods -/
structure MethAt (K : PySem.W.Frag) (C : Addr) (m qual : Str) (st : Stmt) (ps : List Str) : Prop where
  ex : ∃ f fd, Fun K m qual st f fd ∧ Meth K C m f ∧ Binds K fd ps []
structure DefM (P : Program) (w : World) (K : PySem.W.Frag) (mg : Str → Option Value) (base : Heap) (k : Nat) (C : Addr) (m : Str) (ps : List Str) (sp : Sp) : Prop where
  ex : ∃ f fd, FnOk P w K mg base CX0 k f fd ps sp ∧ Binds K fd ps [] ∧ Meth K C m f
theorem MethAt.def {P : Program} {w : World} {K : PySem.W.Frag} {mg : Str → Option Value} {base : Heap} {C : Addr} {m qual : Str} {st : Stmt} {N ps : List Str} {k : Nat} {sp : Sp} (F : MethAt K C m qual st ps) (S : FnScope N ps (defScope st)) (len : ∀ vs H Q E, sp vs H Q E → vs.length = ps.length)
    (hbody : ∀ (f : Addr) (cdv : Value) (A : Around) (outer : List Env) (s : Shared) (H : Hp) (vs : List V) (Q : VK) (E : XK), Room k (A.deeper (envOfC qual (defScope st) s.heap.objs.size f cdv)) → sp vs H Q E →
      ∃ t, PSs (cxOf CX0 P w K mg base N qual (defScope st) f cdv A outer s H E).nox (defBody st) t ∧ t { nx := fun _ H' => Q .non H', rt := Q } (start N vs) H) : DefM P w K mg base (k + 1) C m ps sp := by
  obtain ⟨f, fd, F, m, b⟩ := F.ex
  exact ⟨f, fd, F.ok S len (hbody f), b, m⟩
section
variable {X : Cx} {k : Nat} {C : Addr} {m : Str} {ps : List Str} {sp : Sp} {o e : Expr} {es : List Expr} {ta : TE} {t : TA} {apos pos : Pos} {pl : Sem Bool}
theorem pe_dm (D : DefM X.prog X.w X.K X.mg X.base k C m ps sp) (hr : Room k X.A) (hc : Cls X.K C) (ho : PE X o ta) (ha : PA X (e :: es) t) (he : starEach (e :: es) X.env = (false, eval e X.env) :: starEach es X.env := by rfl)
    (hpl : (backTo pos (starEach es X.env)).any (·.1) = false := by rfl)
    (hm : eval ((o.Attribute m apos).Call (e :: es) [] pos) X.env = (do
      let ov ← eval o X.env
      standAt apos.atName
      let x ← holding [ov] (getMethod ov m pl)
      match x with
        | (f, first) => callWith pos f first (backTo pos (starEach (e :: es) X.env)) (backToKw pos (keywordEach [] X.env))) := by rfl) :
    PE X ((o.Attribute m apos).Call (e :: es) [] pos) (tMeth C m sp [] E0 ta t) := by
  obtain ⟨f, fd, F, b, mt⟩ := D.ex
  exact pe_meth ho hc mt F hr b .nil pass0 ha he hpl hm
end

section
variable {X : Cx} {k : Nat} {C : Addr} {m : Str} {ps : List Str} {sp : Sp} {o : Expr} {ta : TE} {apos pos : Pos} {pl : Sem Bool}
theorem pe_dm0 (D : DefM X.prog X.w X.K X.mg X.base k C m ps sp) (hr : Room k X.A) (hc : Cls X.K C) (ho : PE X o ta)
    (hm : eval ((o.Attribute m apos).Call [] [] pos) X.env = (do
      let ov ← eval o X.env
      standAt apos.atName
      let x ← holding [ov] (getMethod ov m pl)
      match x with
        | (f, first) => callWith pos f first (backTo pos (starEach [] X.env)) (backToKw pos (keywordEach [] X.env))) := by rfl) :
    PE X ((o.Attribute m apos).Call [] [] pos) (tMeth C m sp [] E0 ta tNil) := by
  obtain ⟨f, fd, F, b, mt⟩ := D.ex
  exact pe_meth0 ho hc mt F hr b .nil pass0 hm
end
/-- a class that is made by its __init__ -/
structure DefC (P : Program) (w : World) (K : PySem.W.Frag) (mg : Str → Option Value) (base : Heap) (k : Nat) (C : Addr) (x : Str) (ps : List Str) (sp : Sp) : Prop where
  ex : ∃ f fd, FnOk P w K mg base CX0 k f fd ps sp ∧ Binds K fd ps [] ∧ Mk K C f ∧ mg x = some (.ref C)
section
variable {X : Cx} {k : Nat} {C : Addr} {x : Str} {ps : List Str} {sp : Sp} {e : Expr} {es : List Expr} {t : TA} {p pos : Pos}
theorem pe_mk (D : DefC X.prog X.w X.K X.mg X.base k C x ps sp) (hr : Room (k + 1) X.A) (hg : Gl X x) (ha : PA X (e :: es) t) (hdb : (x == ("__debug__" : Str)) = false := by decide)
    (he : starEach (e :: es) X.env = (false, eval e X.env) :: starEach es X.env := by rfl) (hpl : (backTo pos (starEach es X.env)).any (·.1) = false := by rfl) :
    PE X (.Call (.Name x p) (e :: es) [] pos) (tMake C sp [] E0 t) := by
  obtain ⟨f, fd, F, b, M, m⟩ := D.ex
  exact pe_make M F hr hg m b .nil pass0 ha hdb he hpl
end

/-! ### unions of rules -/
section
variable {X : Cx}
abbrev rAddU (K : PySem.W.Frag) : R2 := fun x y H Q => rI0 (fun i j => .int (i + j)) x y H Q ∨ (rCat x y H Q ∨ rCatT K x y H Q)
theorem opAddU : OpR X (binaryOp .Add) (rAddU X.K) := op_or op_add (op_or op_cat op_catT)
abbrev rMulU : R2 := fun x y H Q => rI CMul (fun i j => .int (i * j)) x y H Q ∨ rRep x y H Q
theorem opMulU : OpR X (binaryOp .Mult) rMulU := op_or op_mul op_rep
theorem slU : SlR X (fun x lo hi H Q => rSlL X.K x lo hi H Q ∨ rSlT X.K x lo hi H Q) := SlR.or sl_list sl_tup
/-- for x in s, s a list or a tuple -/
def iSeq (K : PySem.W.Frag) (tl : TE) : TI := fun σ H R => tl σ H fun x H1 => (∃ a, x = .ref a ∧ (∃ xs, SqL K H1 a xs) ∧ R (Itl K a) H1) ∨ (∃ a, x = .ref a ∧ (∃ xs, SqT K H1 a xs) ∧ R (Itt K a) H1)
theorem pi_seq {tg l : Expr} {tl : TE} (hl : PE X l tl) : PI X tg l (iSeq X.K tl) := by
  refine ⟨fun pins s σ H R I h => ?_⟩
  refine thn (hl.run pins s σ H _ I h) fun v s1 ⟨x, H1, I1, r1, q1⟩ => ?_
  have fp : ∀ b ∈ [s1.heap.objs.size], FpOk X pins H1 b := fun b hb => by
    rw [List.mem_singleton.mp hb]
    exact I1.fpOk (Nat.le_refl _) (I1.hok.fresh (Nat.le_refl _))
  rcases q1 with ⟨a, e, ⟨xs, hq⟩, q⟩ | ⟨a, e, ⟨xs, hq⟩, q⟩
  · subst e
    cases r1
    obtain ⟨its, rv, p, hz⟩ := I1.list hq
    exact wpAny_pyIter_list p.isList ⟨_, [s1.heap.objs.size], _, _, H1, rfl, I1.kept (t' := s1.toks) fun b o e => Heap.get?_push_of_some _ e, turn_list a _, ⟨_, Heap.get?_push_size _ rfl, rfl, rfl⟩, fp, q⟩
  · subst e
    cases r1
    obtain ⟨its, rv, p, hz⟩ := I1.tuple hq
    exact wpAny_pyIter_tuple (show s1.heap.IsTuple a its.toArray from p) ⟨_, [s1.heap.objs.size], _, _, H1, rfl, I1.kept (t' := s1.toks) fun b o e => Heap.get?_push_of_some _ e, turn_tuple a _, ⟨_, Heap.get?_push_size _ rfl, rfl, rfl⟩, fp, q⟩
end


/-! ### the same rules, the written part by its own letter -/
section
variable {X : Cx} {K : PySem.W.Frag}
theorem k_fld {e : Expr} {f : Str} {pos : Pos} {ta : TE} (h : X.K = K) (he : PE X e ta) (hb : attributeBase e f X.env (eval e X.env) = eval e X.env) : PE X (e.Attribute f pos) (tFld K ta f) := by subst h; exact pe_fld he hb
theorem k_ix (h : X.K = K) : IxR X (rIx K) := by subst h; exact ix_seq
abbrev rEqU (K : PySem.W.Frag) : R2 := fun x y H Q => rEq x y H Q ∨ rEqD K x y H Q
abbrev rNeU (K : PySem.W.Frag) : R2 := fun x y H Q => rNe x y H Q ∨ rNeD K x y H Q
theorem k_eq (h : X.K = K) (hu : X.A.units + 64 < cLine) : OpR X (compareOp .Eq) (rEqU K) := by subst h; exact op_or op_eq (op_eqD hu)
theorem k_ne (h : X.K = K) (hu : X.A.units + 64 < cLine) : OpR X (compareOp .NotEq) (rNeU K) := by subst h; exact op_or op_ne (op_neD hu)
theorem k_add (h : X.K = K) : OpR X (binaryOp .Add) (rAddU K) := by subst h; exact opAddU
abbrev rSlU (K : PySem.W.Frag) : V → Option Int → Option Int → Hp → VK → Prop := fun x lo hi H Q => rSlL K x lo hi H Q ∨ rSlT K x lo hi H Q
theorem k_sl (h : X.K = K) : SlR X (rSlU K) := by subst h; exact slU
abbrev rLen (K : PySem.W.Frag) : List V → Hp → VK → Prop := fun xs H Q => ∃ p ys, xs = [V.ref p] ∧ (SqL K H p ys ∨ SqT K H p ys) ∧ Q (V.int ys.length) H
theorem k_len (h : X.K = K) : CallR X (.builtin "len") (rLen K) := by subst h; exact call_len_seq
abbrev rSumU (K : PySem.W.Frag) : List V → Hp → VK → Prop := fun vs H Q => rSum K vs H Q ∨ rSumT K vs H Q
theorem k_sum (h : X.K = K) (hc : X.calm = true) : CallR X (.builtin "sum") (rSumU K) := by subst h; exact cr_or (cr_sum hc) (cr_sumT hc)
abbrev rSortedU (K : PySem.W.Frag) : List V → Hp → VK → Prop := fun vs H Q => rSorted K vs H Q ∨ rSortedT K vs H Q
theorem k_sorted (h : X.K = K) : CallR X (.builtin "sorted") (rSortedU K) := by subst h; exact cr_or cr_sorted cr_sortedT
theorem k_all (h : X.K = K) (hc : X.calm = true) : CallR X (.builtin "all") (rAll K) := by subst h; exact cr_all hc
theorem k_any (h : X.K = K) (hc : X.calm = true) : CallR X (.builtin "any") (rAny K) := by subst h; exact cr_any hc
theorem k_isi (h : X.K = K) : CallR X (.builtin "isinstance") (rIsi K) := by subst h; exact call_isi
abbrev rListOf (K : PySem.W.Frag) : List V → Hp → VK → Prop := fun xs H Q => ∃ p ys, xs = [V.ref p] ∧ (SqL K H p ys ∨ SqT K H p ys) ∧ ∀ l, H l = none → Q (V.ref l) (upd H l (.lst ys))
theorem k_list (h : X.K = K) : CallR X (.type "list") (rListOf K) := by subst h; exact call_list_of
abbrev rTupleOf (K : PySem.W.Frag) : List V → Hp → VK → Prop := fun xs H Q => ∃ p ys, xs = [V.ref p] ∧ ((SqL K H p ys ∧ ∀ l, H l = none → Q (V.ref l) (upd H l (.tup ys))) ∨ SqT K H p ys ∧ Q (V.ref p) H)
theorem k_tuple (h : X.K = K) : CallR X (.type "tuple") (rTupleOf K) := by subst h; exact call_tuple_of
theorem k_tupleF (h : X.K = K) : CallR X (.type "tuple") (rTupleF K) := by subst h; exact cr_tupleF
theorem k_seq {tg l : Expr} {tl : TE} (h : X.K = K) (hl : PE X l tl) : PI X tg l (iSeq K tl) := by subst h; exact pi_seq hl
theorem k_zip {e e2 : Expr} {ta : TA} {p pos tpos : Pos} {elts : List Expr} {kk : Nat} (h : X.K = K) (hg : Gl X "zip") (hm : X.mg "zip" = none) (ha : PA X [e, e2] ta)
    (hs : starEach [e, e2] X.env = (false, eval e X.env) :: starEach [e2] X.env := by rfl) (hpl : (backTo pos (starEach [e2] X.env)).any (·.1) = false := by rfl) :
    PI X (.Tuple elts kk tpos) (.Call (.Name "zip" p) [e, e2] [] pos) (iZipM K ta) := by subst h; exact pi_zipM hg hm ha hs hpl
theorem k_enum {e : Expr} {ta : TA} {p pos tpos : Pos} {elts : List Expr} {kk : Nat} (h : X.K = K) (hg : Gl X "enumerate") (hm : X.mg "enumerate" = none) (ha : PA X [e] ta) (hs : starEach [e] X.env = [(false, eval e X.env)] := by rfl) :
    PI X (.Tuple elts kk tpos) (.Call (.Name "enumerate" p) [e] [] pos) (iEnum K ta) := by subst h; exact pi_enum hg hm ha hs
theorem k_tup {es : List Expr} {k : Nat} {t : TGs} {n : Nat} {pos : Pos} (h : X.K = K) (hc : X.calm = true) (hg : PGs X es t) (hn : (assignEach es X.env).length = n := by rfl) (hst : (assignEach es X.env).findIdx? (·.1) = none := by rfl) :
    PG X (.Tuple es k pos) (gTup K n t) := by subst h; exact pg_tup hc hg hn hst
theorem k_bm {o e : Expr} {es : List Expr} {to : TE} {t : TA} {name : Str} {apos cpos : Pos} {T id : String} {r : V → List V → Hp → VK → Prop} (h : X.K = K) (hp : PlainAttrs T) (hs : Slot T name id) (ht : typeOf (Value.builtin id) = pure (Value.type "method_descriptor")) (hm : MtR X id r) (ho : PE X o to) (ha : PA X (e :: es) t)
    (h1 : attributeBase o name X.env (eval o X.env) = eval o X.env := by rfl)
    (h2 : ((((backTo cpos (starEach (e :: es) X.env)).all fun x => !x.fst) && (backToKw cpos (keywordEach [] X.env)).all fun x => x.fst.isSome) && decide (((e :: es).length + ([] : List Keyword).length + if ([] : List Keyword).isEmpty = true then 0 else 1) < 30)) = true := by rfl)
    (h3 : (apos.endLine == cpos.line) = true := by rfl) (h4 : starEach (e :: es) X.env = (false, eval e X.env) :: starEach es X.env := by rfl) (h5 : ((backTo cpos (starEach es X.env)).any fun x => x.fst) = false := by rfl) :
    PE X ((o.Attribute name apos).Call (e :: es) [] cpos) (tBM K T r to t) := by subst h; exact pe_bm hp hs ht hm ho ha h1 h2 h3 h4 h5
theorem k_bm0 {o : Expr} {to : TE} {name : Str} {apos cpos : Pos} {T id : String} {r : V → List V → Hp → VK → Prop} (h : X.K = K) (hp : PlainAttrs T) (hs : Slot T name id) (ht : typeOf (Value.builtin id) = pure (Value.type "method_descriptor")) (hm : MtR X id r) (ho : PE X o to)
    (h1 : attributeBase o name X.env (eval o X.env) = eval o X.env := by rfl) (h3 : (apos.endLine == cpos.line) = true := by rfl) :
    PE X ((o.Attribute name apos).Call [] [] cpos) (tBM0 K T r to) := by subst h; exact pe_bm0 hp hs ht hm ho h1 h3
abbrev rTupIx (K : PySem.W.Frag) : V → List V → Hp → VK → Prop := fun x xs H Q => ∃ p, ∃ ns : List Int, ∃ k : Int, x = .ref p ∧ xs = [.int k] ∧ SqT K H p (ns.map V.int) ∧ k ∈ ns ∧ Q (.int ((ns.idxOf k : Nat) : Int)) H
theorem k_tupIx (h : X.K = K) : MtR X "tuple.index" (rTupIx K) := by subst h; exact mt_tupIndexI
theorem k_getL (h : X.K = K) : PGet X (rIxL K) := by subst h; exact get_list
theorem k_sfld {o value : Expr} {f : Str} {pos pos' : Pos} {ta tv : TE} (h : X.K = K) (ho : PE X o ta) (hv : PE X value tv) (hs : swapsWith value (some (o.Attribute f pos')) pos.line X.env = pure false) : PS X (Stmt.Assign [o.Attribute f pos'] value pos) (sFld K ta tv f) := by subst h; exact ps_fld ho hv hs
end

/-! ### built-ins that no name of the module hides -/
structure Blt (mg : Str → Option Value) : Prop where
  len : mg "len" = none
  sum : mg "sum" = none
  sorted : mg "sorted" = none
  all : mg "all" = none
  any : mg "any" = none
  abs : mg "abs" = none
  isinstance : mg "isinstance" = none
  list : mg "list" = none
  tuple : mg "tuple" = none
  int : mg "int" = none
  bool : mg "bool" = none
  range : mg "range" = none
  zip : mg "zip" = none
  enumerate : mg "enumerate" = none
theorem bb_len : bootBuiltins "len" = some (.builtin "len") := by decide +kernel
theorem bb_sum : bootBuiltins "sum" = some (.builtin "sum") := by decide +kernel
theorem bb_sorted : bootBuiltins "sorted" = some (.builtin "sorted") := by decide +kernel
theorem bb_all : bootBuiltins "all" = some (.builtin "all") := by decide +kernel
theorem bb_any : bootBuiltins "any" = some (.builtin "any") := by decide +kernel
theorem bb_abs : bootBuiltins "abs" = some (.builtin "abs") := by decide +kernel
theorem bb_isinstance : bootBuiltins "isinstance" = some (.builtin "isinstance") := by decide +kernel
theorem bb_list : bootBuiltins "list" = some (.type "list") := by decide +kernel
theorem bb_tuple : bootBuiltins "tuple" = some (.type "tuple") := by decide +kernel
theorem bb_int : bootBuiltins "int" = some (.type "int") := by decide +kernel
theorem bb_bool : bootBuiltins "bool" = some (.type "bool") := by decide +kernel
theorem start_eq {t : TS} {D : Ends} {σ σ' : L2.St} {H : Hp} (e : σ = σ') (h : t D σ' H) : t D σ H := by rw [e]; exact h
end G

namespace G
open PySem PySem.Spec PyProof.Rows L2

section
variable {K : PySem.W.Frag} {σ : L2.St} {H F : Hp} {Q : VK} {QT : Bool → Hp → Prop} {QA : List V → Hp → Prop} {D : Ends} {i : Nat} {v x y : V} {ta tb te : TE} {t u : TT} {ts us : TS} {tr : TA} {a p : Addr} {xs ys : List V} {o : HO}

/-! ### expressions, step by step -/
theorem s_var (h : σ[i]? = some (some v)) (q : Q v H) : tVar i σ H Q := ⟨v, h, q⟩
theorem s_c (q : Q v H) : tC v σ H Q := q
theorem s_op {r : R2} (h : ta σ H fun x H1 => tb σ H1 fun y H2 => r x y H2 Q) : tOp r ta tb σ H Q := h
theorem s_un {r : V → Hp → VK → Prop} (h : ta σ H fun x H1 => r x H1 Q) : tUn r ta σ H Q := h
theorem s_neg {m : Int} (q : Q (.int (-m)) H) : (rU fun i => .int (-i)) (.int m) H Q := ⟨m, rfl, q⟩
theorem s_test (h : te σ H fun x H1 => ∃ k, x = .bl k ∧ QT k H1) : tTest te σ H QT := h
theorem s_B (h : te σ H fun x H1 => ∃ k, x = .bl k ∧ QT k H1) : tB te σ H QT := h
theorem s_bl {b : Bool} {A : Bool → Prop} (q : A b) : ∃ k, V.bl b = .bl k ∧ A k := ⟨b, rfl, q⟩
theorem s_not (h : t σ H fun c H1 => QT (!c) H1) : tNot t σ H QT := h
theorem s_and (h : t σ H fun c H1 => if c = true then u σ H1 QT else QT false H1) : tAnd t u σ H QT := h
theorem s_or (h : t σ H fun c H1 => if c = true then QT true H1 else u σ H1 QT) : tOr t u σ H QT := h
theorem s_notV (h : ta σ H fun x H1 => ∃ c, x = .bl c ∧ Q (.bl (!c)) H1) : tNotV ta σ H Q := h
theorem s_andV (h : ta σ H fun x H1 => ∃ c, x = .bl c ∧ if c = true then tb σ H1 Q else Q (.bl false) H1) : tAndV ta tb σ H Q := h
theorem s_orV (h : ta σ H fun x H1 => ∃ c, x = .bl c ∧ if c = true then Q (.bl true) H1 else tb σ H1 Q) : tOrV ta tb σ H Q := h
theorem s_if (h : t σ H fun c H1 => if c = true then ta σ H1 Q else tb σ H1 Q) : tIf t ta tb σ H Q := h
theorem s_yes (q : QT true H) : tYes σ H QT := q
theorem s_cT {A B : Prop} (h : A) : if true = true then A else B := iteT h
theorem s_cF {A B : Prop} (h : B) : if false = true then A else B := iteF h
theorem s_nT {A B : Prop} (h : A) : if (!false) = true then A else B := iteT h
theorem s_nF {A B : Prop} (h : B) : if (!true) = true then A else B := iteF h
theorem s_dT {c A B : Prop} {dc : Decidable c} (hc : c) (h : A) : if decide c = true then A else B := by rw [decide_eq_true hc]; exact iteT h
theorem s_dF {c A B : Prop} {dc : Decidable c} (hc : ¬ c) (h : B) : if decide c = true then A else B := by rw [decide_eq_false hc]; exact iteF h
theorem s_d2 {c A B : Prop} {dc : Decidable c} (h1 : c → A) (h2 : ¬ c → B) : if decide c = true then A else B := by
  by_cases h : c
  · exact s_dT h (h1 h)
  · exact s_dF h (h2 h)
theorem s_n2 {c A B : Prop} {dc : Decidable c} (h1 : ¬ c → A) (h2 : c → B) : if (!decide c) = true then A else B := by
  by_cases h : c
  · rw [decide_eq_true h]; exact iteF (h2 h)
  · rw [decide_eq_false h]; exact iteT (h1 h)
theorem s_b2 {b : Bool} {A B : Prop} (h1 : b = true → A) (h2 : b = false → B) : if b = true then A else B := by
  cases b with
  | true => exact iteT (h1 rfl)
  | false => exact iteF (h2 rfl)
theorem s_non {A : Prop} (h : A) : V.non = V.non ∧ A := ⟨rfl, h⟩
/-! ints -/
theorem s_I0 {g : Int → Int → V} {m n : Int} (q : Q (g m n) H) : rI0 g (.int m) (.int n) H Q := ⟨m, n, rfl, rfl, q⟩
theorem s_I {C : Int → Int → Prop} {g : Int → Int → V} {m n : Int} (c : C m n) (q : Q (g m n) H) : rI C g (.int m) (.int n) H Q := ⟨m, n, rfl, rfl, c, q⟩
theorem s_addI {m n : Int} (q : Q (.int (m + n)) H) : rAddU K (.int m) (.int n) H Q := .inl (s_I0 q)
theorem s_mulI {m n : Int} (c : CMul m n) (q : Q (.int (m * n)) H) : rMulU (.int m) (.int n) H Q := .inl (s_I c q)
theorem s_eq (h : scal x y = true) (q : Q (.bl (decide (x = y))) H) : rEqU K x y H Q := .inl ⟨h, q⟩
theorem s_ne (h : scal x y = true) (q : Q (.bl (!decide (x = y))) H) : rNeU K x y H Q := .inl ⟨h, q⟩
theorem s_eqI {m n : Int} (q : Q (.bl (decide (m = n))) H) : rEqU K (.int m) (.int n) H Q := .inl ⟨rfl, by rw [show decide (V.int m = V.int n) = decide (m = n) from by simp]; exact q⟩
theorem s_neI {m n : Int} (q : Q (.bl (!decide (m = n))) H) : rNeU K (.int m) (.int n) H Q := .inl ⟨rfl, by rw [show decide (V.int m = V.int n) = decide (m = n) from by simp]; exact q⟩
theorem s_eqB {m n : Bool} (q : Q (.bl (decide (m = n))) H) : rEqU K (.bl m) (.bl n) H Q := .inl ⟨rfl, by rw [show decide (V.bl m = V.bl n) = decide (m = n) from by simp]; exact q⟩
theorem s_neB {m n : Bool} (q : Q (.bl (!decide (m = n))) H) : rNeU K (.bl m) (.bl n) H Q := .inl ⟨rfl, by rw [show decide (V.bl m = V.bl n) = decide (m = n) from by simp]; exact q⟩
theorem s_eqD {d e : PyData} (h1 : Dp K H x d) (h2 : Dp K H y e) (s1 : SeqAt.shaped d = true) (s2 : SeqAt.shaped e = true) (q : Q (.bl (PyData.eqv d e)) H) : rEqU K x y H Q := .inr ⟨d, e, h1, h2, s1, s2, q⟩
theorem s_neD {d e : PyData} (h1 : Dp K H x d) (h2 : Dp K H y e) (s1 : SeqAt.shaped d = true) (s2 : SeqAt.shaped e = true) (q : Q (.bl (!PyData.eqv d e)) H) : rNeU K x y H Q := .inr ⟨d, e, h1, h2, s1, s2, q⟩
theorem s_chain {r r' : R2} {tc : TE} (h : ta σ H fun x H1 => tb σ H1 fun y H2 => r x y H2 fun z H3 => ∃ k, z = .bl k ∧ if k = true then tc σ H3 fun w H4 => r' y w H4 Q else Q (.bl false) H3) : tChain r r' ta tb tc σ H Q := h
/-! calls -/
theorem s_cons (h : ta σ H fun x H1 => tr σ H1 fun xs H2 => QA (x :: xs) H2) : tCons ta tr σ H QA := h
theorem s_nil (q : QA [] H) : tNil σ H QA := q
theorem s_call {sp : Sp} {E : XK} (h : tr σ H fun vs H1 => sp vs H1 Q E) : tCall sp [] E tr σ H Q := by
  show tr σ H fun vs H1 => sp (vs ++ []) H1 Q E
  simp only [List.append_nil]
  exact h
theorem s_cb {r : List V → Hp → VK → Prop} (h : tr σ H fun vs H1 => r vs H1 Q) : tCB r tr σ H Q := h
theorem s_meth {C : Addr} {m : Str} {sp : Sp} {E : XK} (h : ta σ H fun x H1 => ∃ a dx fs, x = .ref a ∧ H1 a = some (.ins C dx fs) ∧ fs.lookup m = none ∧ tr σ H1 fun vs H2 => sp (x :: vs) H2 Q E) : tMeth C m sp [] E ta tr σ H Q := by
  show ta σ H fun x H1 => ∃ a dx fs, x = .ref a ∧ H1 a = some (.ins C dx fs) ∧ fs.lookup m = none ∧ tr σ H1 fun vs H2 => sp (x :: (vs ++ [])) H2 Q E
  simp only [List.append_nil]
  exact h
theorem s_make {C : Addr} {sp : Sp} {E : XK} (h : tr σ H fun vs H1 => ∀ x dx, H1 x = none → H1 dx = none → dx ≠ x → sp (.ref x :: vs) (upd (upd H1 dx (.own x)) x (.ins C dx [])) (fun v H2 => v = .non ∧ Q (.ref x) H2) E) : tMake C sp [] E tr σ H Q := by
  show tr σ H fun vs H1 => ∀ x dx, H1 x = none → H1 dx = none → dx ≠ x → sp (.ref x :: (vs ++ [])) (upd (upd H1 dx (.own x)) x (.ins C dx [])) (fun v H2 => v = .non ∧ Q (.ref x) H2) E
  simp only [List.append_nil]
  exact h
theorem s_tup (h : tr σ H fun xs H1 => xs.length ≤ sizeLine ∧ ∀ p, H1 p = none → Q (.ref p) (upd H1 p (.tup xs))) : tTup tr σ H Q := h
theorem s_lst (h : tr σ H fun xs H1 => xs.length ≤ sizeLine ∧ ∀ p, H1 p = none → Q (.ref p) (upd H1 p (.lst xs))) : tLst tr σ H Q := h
theorem s_bm {T : String} {r : V → List V → Hp → VK → Prop} (h : te σ H fun x H1 => tyV K T x H1 ∧ tr σ H1 fun xs H2 => r x xs H2 Q) : tBM K T r te tr σ H Q := h
theorem s_bm0 {T : String} {r : V → List V → Hp → VK → Prop} (h : te σ H fun x H1 => tyV K T x H1 ∧ r x [] H1 Q) : tBM0 K T r te σ H Q := h
theorem s_bmT {r : V → List V → Hp → VK → Prop} (h : te σ H fun x H1 => (∃ p ob ys, x = .ref p ∧ H1 p = some (.frz ob (.tup ys)) ∧ ob.dict = none) ∧ tr σ H1 fun xs H2 => r x xs H2 Q) : tBMT r te tr σ H Q := h
theorem s_tupleF (h : SqL K H p xs) (q : ∀ l (ob : Obj), ob.dict = none → H l = none → Q (.ref l) (upd H l (.frz ob (.tup xs)))) : rTupleF K [.ref p] H Q := ⟨p, xs, rfl, h, q⟩
theorem s_fld {f : Str} (h : ta σ H fun x H1 => ∃ a C dx fs v, x = .ref a ∧ H1 a = some (.ins C dx fs) ∧ Cls K C ∧ NoAttr K C f ∧ fs.lookup f = some v ∧ Q v H1) : tFld K ta f σ H Q := h
theorem s_dget (h : ta σ H fun x H1 => tb σ H1 fun y H2 => ∃ a v, x = .ref a ∧ DGet H2 a y (some v) ∧ Q v H2) : tDGet ta tb σ H Q := h
theorem s_sl {r : V → Option Int → Option Int → Hp → VK → Prop} {tl th : TO} (h : te σ H fun x H1 => tl σ H1 fun l H2 => th σ H2 fun u H3 => r x l u H3 Q) : tSl r te tl th σ H Q := h
theorem s_part {QO : Option Int → Hp → Prop} (h : te σ H fun x H1 => ∃ i, x = .int i ∧ QO (some i) H1) : tPart te σ H QO := h
theorem s_nopart {QO : Option Int → Hp → Prop} (h : QO none H) : tNoPart σ H QO := h
theorem s_int {m : Int} {P : Int → Prop} (h : P m) : ∃ i, V.int m = .int i ∧ P i := ⟨m, rfl, h⟩
/-! sequences -/
theorem s_ixT {m : Int} (h : SqT K H p xs) (hv : atI xs m = some v) (q : Q v H) : rIx K (.ref p) (.int m) H Q := .inr (.inl ⟨p, xs, m, v, rfl, rfl, h, hv, q⟩)
theorem s_ixL {m : Int} (h : SqL K H p xs) (hv : atI xs m = some v) (q : Q v H) : rIx K (.ref p) (.int m) H Q := .inl ⟨p, xs, m, v, rfl, rfl, h, hv, q⟩
theorem s_lenL (h : SqL K H p xs) (q : Q (.int xs.length) H) : rLen K [.ref p] H Q := ⟨p, xs, rfl, .inl h, q⟩
theorem s_lenT (h : SqT K H p xs) (q : Q (.int xs.length) H) : rLen K [.ref p] H Q := ⟨p, xs, rfl, .inr h, q⟩
theorem s_sumL {ns : List Int} (h : SqL K H p (ns.map V.int)) (q : Q (.int ns.sum) H) : rSumU K [.ref p] H Q := .inl ⟨p, ns, rfl, h, q⟩
theorem s_sumT {ns : List Int} (h : SqT K H p (ns.map V.int)) (q : Q (.int ns.sum) H) : rSumU K [.ref p] H Q := .inr ⟨p, ns, rfl, h, q⟩
theorem s_all {bs : List Bool} (h : SqL K H p (bs.map V.bl)) (q : Q (.bl (bs.all id)) H) : rAll K [.ref p] H Q := ⟨p, bs, rfl, h, q⟩
theorem s_any {bs : List Bool} (h : SqL K H p (bs.map V.bl)) (q : Q (.bl (bs.any id)) H) : rAny K [.ref p] H Q := ⟨p, bs, rfl, h, q⟩
theorem s_listL (h : SqL K H p xs) (q : ∀ l, H l = none → Q (.ref l) (upd H l (.lst xs))) : rListOf K [.ref p] H Q := ⟨p, xs, rfl, .inl h, q⟩
theorem s_listT (h : SqT K H p xs) (q : ∀ l, H l = none → Q (.ref l) (upd H l (.lst xs))) : rListOf K [.ref p] H Q := ⟨p, xs, rfl, .inr h, q⟩
theorem s_tupleL (h : SqL K H p xs) (q : ∀ l, H l = none → Q (.ref l) (upd H l (.tup xs))) : rTupleOf K [.ref p] H Q := ⟨p, xs, rfl, .inl ⟨h, q⟩⟩
theorem s_isi {c : V} {ty u : Value} {b : Bool} (hc : ClsV c u) (ht : TyX K H x ty) (hk : PySem.W.kitOne K ty u = some b) (q : Q (.bl b) H) : rIsi K [x, c] H Q := ⟨x, c, ty, u, b, rfl, hc, ht, hk, q⟩
theorem s_abs {m : Int} (q : Q (.int (if m < 0 then -m else m)) H) : ∃ i, [V.int m] = [V.int i] ∧ Q (V.int (if i < 0 then -i else i)) H := ⟨m, rfl, q⟩
theorem s_dgetK {kvs : List (Key × V)} {s : Str} (h : H a = some (.dK kvs)) (hv : valV kvs (Sum.inr s) = some v) (q : Q v H) : ∃ a' v', V.ref a = .ref a' ∧ DGet H a' (.str s) (some v') ∧ Q v' H := ⟨a, v, rfl, hv ▸ DGet.k (k := Sum.inr s) h, q⟩
/-! ### statements -/
variable {nx bk ct : L2.St → Hp → Prop}
theorem s_seq (h : ts ⟨us ⟨nx, Q, bk, ct⟩, Q, bk, ct⟩ σ H) : tSeq ts us ⟨nx, Q, bk, ct⟩ σ H := h
theorem s_next (h : nx σ H) : tNext ⟨nx, Q, bk, ct⟩ σ H := h
theorem s_asg {g : TG} (h : te σ H fun x H1 => g x σ H1 nx) : tAsg te g ⟨nx, Q, bk, ct⟩ σ H := h
theorem s_gn {R : L2.St → Hp → Prop} (h : R (σ.set i (some v)) H) : gName i v σ H R := h
theorem s_gt {R : L2.St → Hp → Prop} {n : Nat} {tg : TGs} (h : SqT K H a xs) (hl : xs.length = n) (q : tg xs σ H R) : gTup K n tg (.ref a) σ H R := ⟨a, xs, rfl, h, hl, q⟩
theorem s_gc {R : L2.St → Hp → Prop} {g : TG} {tg : TGs} (q : g v σ H fun σ' H' => tg xs σ' H' R) : gCons g tg (v :: xs) σ H R := ⟨v, xs, rfl, q⟩
theorem s_g0 {R : L2.St → Hp → Prop} (q : R σ H) : gNil [] σ H R := ⟨rfl, q⟩
theorem s_gs {R : L2.St → Hp → Prop} {tset : TSet} (q : ta σ H fun o H1 => tb σ H1 fun i H2 => tset o i v H2 fun H3 => R σ H3) : gSub ta tb tset v σ H R := q
theorem s_ret (h : te σ H Q) : tRet te ⟨nx, Q, bk, ct⟩ σ H := h
theorem s_ifS (h : t σ H fun b H1 => if b = true then ts ⟨nx, Q, bk, ct⟩ σ H1 else us ⟨nx, Q, bk, ct⟩ σ H1) : tIfS t ts us ⟨nx, Q, bk, ct⟩ σ H := h
theorem s_drop (h : te σ H fun _ H1 => nx σ H1) : tDrop te ⟨nx, Q, bk, ct⟩ σ H := h
theorem s_aug {ti : TIp} (hx : σ[i]? = some (some x)) (h : te σ H fun y H1 => ti x y H1 fun z H2 => nx (σ.set i (some z)) H2) : tAug i te ti ⟨nx, Q, bk, ct⟩ σ H := ⟨x, hx, h⟩
theorem s_augS {ti : TE} {tget : V → V → Hp → VK → Prop} {tip : TIp} {tset : TSet} (h : ta σ H fun o H1 => ti σ H1 fun i H2 => tget o i H2 fun x H3 => te σ H3 fun y H4 => tip x y H4 fun z H5 => tset o i z H5 fun H6 => nx σ H6) : tAugS ta ti te tget tip tset ⟨nx, Q, bk, ct⟩ σ H := h
theorem s_ipI {f : Int → Int → Int} {m n : Int} (q : Q (.int (f m n)) H) : ipI f (.int m) (.int n) H Q := ⟨m, n, rfl, rfl, q⟩
theorem s_getL {m : Int} (h : SqL K H p xs) (hv : atI xs m = some v) (q : Q v H) : rIxL K (.ref p) (.int m) H Q := ⟨p, xs, m, v, rfl, rfl, h, hv, q⟩
theorem s_setL {m : Int} {j : Nat} {R : Hp → Prop} (h : H p = some (.lst xs)) (hj : ixN xs.length m = some j) (q : R (upd H p (.lst (xs.set j v)))) : rSetL (.ref p) (.int m) v H R := ⟨p, xs, m, j, rfl, rfl, h, hj, q⟩
theorem s_app (h : H p = some (.lst xs)) (hl : xs.length < 100000) (q : Q .non (upd H p (.lst (xs ++ [v])))) : rAppend (.ref p) [v] H Q := ⟨p, xs, v, rfl, rfl, h, Nat.lt_of_lt_of_le hl (by decide), q⟩
theorem s_extd {b : Addr} (h : H p = some (.lst xs)) (hb : H b = some (.lst ys)) (hl : xs.length + ys.length ≤ 100000) (q : Q .non (upd H p (.lst (xs ++ ys)))) : rExtend (.ref p) [.ref b] H Q := ⟨p, b, xs, ys, rfl, rfl, h, hb, Nat.le_trans hl (by decide), q⟩
/-! loops -/
def ForB (J : It) (g : TG) (tb : TS) (nx : L2.St → Hp → Prop) (Q : VK) (σ : L2.St) (H1 : Hp) : Prop := ∃ W : Nat → Nat → L2.St → Hp → Prop, (∃ m, W 0 m σ H1) ∧ ∀ i m σ H, W i m σ H →
  (J.stop i H ∧ nx σ H) ∨ (J.go i H ∧ ∃ N : L2.St → Hp → Prop, (∀ σ' H', N σ' H' → ∃ m', m' < m ∧ W (i + 1) m' σ' H') ∧ ∀ x H', J.yld i H x H' → g x σ H' fun σ2 H2 => tb ⟨N, Q, nx, N⟩ σ2 H2)
theorem s_for {wi : TI} {g : TG} {tb : TS} (h : wi σ H fun J H1 => ForB J g tb nx Q σ H1) : tFor wi g tb ⟨nx, Q, bk, ct⟩ σ H := h
theorem for_w {J : It} {n : Nat} {G : Hp → Prop} {Y : Nat → Hp → V → Hp → Prop} {g : TG} {tb : TS} (w : Walk J n G Y) (Pv : Nat → L2.St → Hp → Prop) (h0 : Pv 0 σ H) (hG : ∀ i σ H, i ≤ n → Pv i σ H → G H)
    (hs : ∀ i x σ H H', i < n → Pv i σ H → Y i H x H' → g x σ H' fun σ2 H2 => tb ⟨Pv (i + 1), Q, nx, Pv (i + 1)⟩ σ2 H2) (hd : ∀ σ H, Pv n σ H → nx σ H) : ForB J g tb nx Q σ H :=
  for_it w (D := ⟨nx, Q, fun _ _ => False, fun _ _ => False⟩) Pv h0 hG hs hd
theorem s_iseq {R : It → Hp → Prop} (h : te σ H fun x H1 => (∃ a, x = .ref a ∧ (∃ xs, SqL K H1 a xs) ∧ R (Itl K a) H1) ∨ (∃ a, x = .ref a ∧ (∃ xs, SqT K H1 a xs) ∧ R (Itt K a) H1)) : iSeq K te σ H R := h
theorem s_itL {R : It → Hp → Prop} (h : SqL K H a xs) (q : R (Itl K a) H) : (∃ b, V.ref a = .ref b ∧ (∃ xs, SqL K H b xs) ∧ R (Itl K b) H) ∨ (∃ b, V.ref a = .ref b ∧ (∃ xs, SqT K H b xs) ∧ R (Itt K b) H) := .inl ⟨a, rfl, ⟨xs, h⟩, q⟩
theorem s_itT {R : It → Hp → Prop} (h : SqT K H a xs) (q : R (Itt K a) H) : (∃ b, V.ref a = .ref b ∧ (∃ xs, SqL K H b xs) ∧ R (Itl K b) H) ∨ (∃ b, V.ref a = .ref b ∧ (∃ xs, SqT K H b xs) ∧ R (Itt K b) H) := .inr ⟨a, rfl, ⟨xs, h⟩, q⟩
theorem s_rng1 {R : It → Hp → Prop} (h : tr σ H fun vs H1 => ∃ j : Int, vs = [.int j] ∧ -(2 ^ 62) ≤ j ∧ j < 2 ^ 62 ∧ R (Itr 0 j.toNat) H1) : iRng1 tr σ H R := h
theorem s_rngI {R : It → Hp → Prop} {m : Int} (h : -1000000 ≤ m ∧ m ≤ 1000000) (q : R (Itr 0 m.toNat) H) : ∃ j : Int, [V.int m] = [.int j] ∧ -(2 ^ 62) ≤ j ∧ j < 2 ^ 62 ∧ R (Itr 0 j.toNat) H := ⟨m, rfl, by omega, by omega, q⟩
theorem s_izip {R : It → Hp → Prop} (h : tr σ H fun vs H1 => ∃ j k a b xs ys, vs = [.ref a, .ref b] ∧ SqB j K H1 a xs ∧ SqB k K H1 b ys ∧ R (ItzM j k K a b) H1) : iZipM K tr σ H R := h
def LcB (J : It) (g : TG) (tt : TT) (te : TE) (vs : List Nat) (σ : L2.St) (H1 : Hp) (Q : VK) : Prop := ∀ D, H1 D = none → ∃ W : Nat → Nat → Hp → Prop, (∃ m, W 0 m (upd H1 D (.lst []))) ∧ ∀ i m H, W i m H →
  (J.stop i H ∧ Q (.ref D) H) ∨ (J.go i H ∧ ∃ Nx : Hp → Prop, (∀ H', Nx H' → ∃ m', m' < m ∧ W (i + 1) m' H') ∧ ∀ x H', J.yld i H x H' → g x (wipe σ vs) H' fun σ2 H2 => wipe σ2 vs = wipe σ vs ∧ tt σ2 H2 fun b H3 =>
    if b = true then te σ2 H3 fun y H4 => ∃ acc, H4 D = some (.lst acc) ∧ acc.length < sizeLine ∧ Nx (upd H4 D (.lst (acc ++ [y]))) else Nx H3)
theorem s_lc {wi : TI} {g : TG} {tt : TT} {vs : List Nat} (h : wi σ H fun J H1 => LcB J g tt te vs σ H1 Q) : tLc wi g tt te vs σ H Q := h
theorem walk_zipM {j k : Bool} {a b : Addr} {xs ys : List V} {n : Nat} (hn : n = min xs.length ys.length) : Walk (ItzM j k K a b) n (fun H => SqB j K H a xs ∧ SqB k K H b ys) (YPair (fun i => xs[i]?) (fun i => ys[i]?)) := by
  subst hn
  refine ⟨fun i _ hi q => ?_, fun _ q => ⟨xs, ys, q.1, q.2, by omega, by omega, by omega⟩, fun i H v H' _ q y => ?_⟩
  · have h1 : i < xs.length := by omega
    have h2 : i < ys.length := by omega
    exact ⟨xs, ys, xs[i], ys[i], q.1, q.2, by simp [h1], by simp [h2]⟩
  · obtain ⟨T, x, z, h1, h2, h3, h4, h5⟩ := y
    exact ⟨T, x, z, h1, h2, h3, h4 xs q.1, h5 ys q.2⟩
/-- a comprehension whose element changes nothing that stood -/
theorem lc_map {J : It} {n : Nat} {G : Hp → Prop} {Y : Nat → Hp → V → Hp → Prop} (w : Walk J n G Y) {F H1 : Hp} {g : TG} {vs : List Nat} (hF : Same F H1) (hn : n < 100000) (hG : ∀ H', Same F H' → G H')
    (R : Nat → Hp → V → Prop) (Rm : ∀ i H H' v, Same H H' → R i H v → R i H' v)
    (turn : ∀ i x F' H H' D (Z : VK), i < n → Ext F H1 F' H → F' D = none → H D ≠ none → Y i H x H' → (∀ y F4 H4, Ext F' H F4 H4 → R i F4 y → Z y H4) → g x (wipe σ vs) H' fun σ2 H2 => wipe σ2 vs = wipe σ vs ∧ te σ2 H2 Z)
    (fin : ∀ D ys F' H', H1 D = none → Ext F H1 F' H' → F' D = some (.lst ys) → ys.length = n → (∀ i v, ys[i]? = some v → R i F' v) → Q (.ref D) H') :
    LcB J g tYes te vs σ H1 Q := by
  intro D hD
  refine lc_it w (fun i H => ∃ F' acc, Ext F H1 F' H ∧ F' D = none ∧ H D = some (.lst acc) ∧ acc.length = i ∧ ∀ j v, acc[j]? = some v → R j F' v) ?_ ?_ ?_ ?_
  · exact ⟨F, [], (Ext.refl hF).mut hD, sub_none hF hD, upd_same, rfl, fun j v h => by simp at h⟩
  · rintro i H _ ⟨F', acc, e, _⟩
    exact hG H (e.ff.trans e.fh)
  · rintro i x H H' hi ⟨F', acc, e, fd, hd, hl, hr⟩ y
    refine turn i x F' H H' D _ hi e fd (by rw [hd]; simp) y fun z F4 H4 e4 r4 => ?_
    have hd4 := e4.hh D _ hd
    refine ⟨acc, hd4, Nat.lt_of_lt_of_le (show acc.length < 100000 by omega) (by decide), F4, acc ++ [z], ?_, ?_, upd_same, by simp [hl], ?_⟩
    · exact (e.trans e4).chg hD (e4.fr D (by rw [hd]; simp) fd)
    · exact e4.fr D (by rw [hd]; simp) fd
    · intro j v hv
      by_cases hj : j < acc.length
      · rw [List.getElem?_append_left hj] at hv
        exact Rm _ _ _ _ e4.ff (hr j v hv)
      · have : j = acc.length := by
          have := (List.getElem?_eq_some_iff.mp hv).1
          simp at this
          omega
        subst this
        rw [List.getElem?_append_right (Nat.le_refl _)] at hv
        simp at hv
        rw [← hv, hl]
        exact r4
  · rintro H ⟨F', acc, e, fd, hd, hl, hr⟩
    exact fin D acc (upd F' D (.lst acc)) H hD (e.frz hD fd hd) upd_same hl fun i v hv => Rm _ _ _ _ (same_upd fd) (hr i v hv)
/-- .. with a test; the elements known values -/
theorem lc_filt {J : It} {n : Nat} {G : Hp → Prop} {Y : Nat → Hp → V → Hp → Prop} (w : Walk J n G Y) {F H1 : Hp} {g : TG} {tt : TT} {vs : List Nat} (hF : Same F H1) (hn : n < 100000) (hG : ∀ H', Same F H' → G H')
    (keep : Nat → Bool) (val : Nat → V)
    (turn : ∀ i x F' H H' D (Z1 : VK) (Z0 : Hp → Prop), i < n → Ext F H1 F' H → F' D = none → H D ≠ none → Y i H x H' → (∀ F4 H4, Ext F' H F4 H4 → keep i = true → Z1 (val i) H4) → (∀ F4 H4, Ext F' H F4 H4 → keep i = false → Z0 H4) →
      g x (wipe σ vs) H' fun σ2 H2 => wipe σ2 vs = wipe σ vs ∧ tt σ2 H2 fun b H3 => if b = true then te σ2 H3 Z1 else Z0 H3)
    (fin : ∀ D F' H', H1 D = none → Ext F H1 F' H' → F' D = some (.lst (((List.range n).filter keep).map val)) → Q (.ref D) H') :
    LcB J g tt te vs σ H1 Q := by
  intro D hD
  refine lc_it w (fun i H => ∃ F', Ext F H1 F' H ∧ F' D = none ∧ H D = some (.lst (((List.range i).filter keep).map val))) ?_ ?_ ?_ ?_
  · exact ⟨F, (Ext.refl hF).mut hD, sub_none hF hD, upd_same⟩
  · rintro i H _ ⟨F', e, _⟩
    exact hG H (e.ff.trans e.fh)
  · rintro i x H H' hi ⟨F', e, fd, hd⟩ y
    refine turn i x F' H H' D _ _ hi e fd (by rw [hd]; simp) y (fun F4 H4 e4 k1 => ?_) (fun F4 H4 e4 k0 => ?_)
    · have hd4 := e4.hh D _ hd
      have hl : (((List.range i).filter keep).map val).length < 100000 := by
        rw [List.length_map]
        exact Nat.lt_of_le_of_lt (List.length_filter_le _ _) (by rw [List.length_range]; omega)
      refine ⟨_, hd4, Nat.lt_of_lt_of_le hl (by decide), F4, (e.trans e4).chg hD (e4.fr D (by rw [hd]; simp) fd), e4.fr D (by rw [hd]; simp) fd, ?_⟩
      rw [upd_same, List.range_succ, List.filter_append, List.map_append]
      simp [k1]
    · refine ⟨F4, e.trans e4, e4.fr D (by rw [hd]; simp) fd, ?_⟩
      rw [e4.hh D _ hd, List.range_succ, List.filter_append, List.map_append]
      simp [k0]
  · rintro H ⟨F', e, fd, hd⟩
    exact fin D (upd F' D _) H hD (e.frz hD fd hd) upd_same
/-! two clauses -/
def InB (J1 : It) (g1 : TG) (tt1 : TT) (te : TE) (vs1 : List Nat) (σ2 : L2.St) (H4 : Hp) (D : Addr) (Nx : Hp → Prop) : Prop := ∃ W1 : Nat → Nat → Hp → Prop, (∃ m, W1 0 m H4) ∧ ∀ j k H, W1 j k H →
  (J1.stop j H ∧ Nx H) ∨ (J1.go j H ∧ ∃ Nx1 : Hp → Prop, (∀ H', Nx1 H' → ∃ k', k' < k ∧ W1 (j + 1) k' H') ∧ ∀ x H', J1.yld j H x H' → g1 x (wipe σ2 vs1) H' fun σ3 H5 => wipe σ3 vs1 = wipe σ2 vs1 ∧ tt1 σ3 H5 fun b H6 =>
    if b = true then te σ3 H6 fun y H7 => ∃ acc, H7 D = some (.lst acc) ∧ acc.length < sizeLine ∧ Nx1 (upd H7 D (.lst (acc ++ [y]))) else Nx1 H6)
def Lc2B (J : It) (g : TG) (tt : TT) (wi1 : TI) (g1 : TG) (tt1 : TT) (te : TE) (vs vs1 : List Nat) (σ : L2.St) (H1 : Hp) (Q : VK) : Prop := ∀ D, H1 D = none → ∃ W : Nat → Nat → Hp → Prop, (∃ m, W 0 m (upd H1 D (.lst []))) ∧ ∀ i m H, W i m H →
  (J.stop i H ∧ Q (.ref D) H) ∨ (J.go i H ∧ ∃ Nx : Hp → Prop, (∀ H', Nx H' → ∃ m', m' < m ∧ W (i + 1) m' H') ∧ ∀ x H', J.yld i H x H' → g x (wipe σ vs) H' fun σ2 H2 => wipe σ2 vs = wipe σ vs ∧ tt σ2 H2 fun b H3 =>
    if b = true then wi1 σ2 H3 fun J1 H4 => InB J1 g1 tt1 te vs1 σ2 H4 D Nx else Nx H3)
theorem s_lc2 {wi wi1 : TI} {g g1 : TG} {tt tt1 : TT} {vs vs1 : List Nat} (h : wi σ H fun J H1 => Lc2B J g tt wi1 g1 tt1 te vs vs1 σ H1 Q) : tLc2 wi g tt wi1 g1 tt1 te vs vs1 σ H Q := h
theorem in_map {J1 : It} {m : Nat} {G1 : Hp → Prop} {Y1 : Nat → Hp → V → Hp → Prop} (w : Walk J1 m G1 Y1) {F H4 : Hp} {g1 : TG} {vs1 : List Nat} {σ2 : L2.St} {D : Addr} {acc : List V} {Nx : Hp → Prop} (hF : Same F H4) (hG : ∀ H', Same F H' → G1 H') (fd : F D = none) (hd : H4 D = some (.lst acc)) (row : List V) (hm : row.length = m) (small : acc.length + m < 100000)
    (turn : ∀ (j : Nat) x y H H' (Z : VK), row[j]? = some y → Same F H → H D ≠ none → Y1 j H x H' → (∀ H7, Same H H7 → Z y H7) → g1 x (wipe σ2 vs1) H' fun σ3 H5 => wipe σ3 vs1 = wipe σ2 vs1 ∧ te σ3 H5 Z)
    (fin : ∀ H', Same F H' → (∀ b o, b ≠ D → H4 b = some o → H' b = some o) → H' D = some (.lst (acc ++ row)) → Nx H') : InB J1 g1 tYes te vs1 σ2 H4 D Nx := by
  refine ⟨fun j k H => k = m - j ∧ j ≤ m ∧ Same F H ∧ (∀ b o, b ≠ D → H4 b = some o → H b = some o) ∧ H D = some (.lst (acc ++ row.take j)), ⟨m, rfl, Nat.zero_le _, hF, fun _ _ _ h => h, by simpa using hd⟩, ?_⟩
  rintro j k H ⟨rfl, hj, e, e2, hD⟩
  by_cases hlt : j < m
  · refine .inr ⟨w.goes j H hlt (hG H e), fun H' => Same F H' ∧ (∀ b o, b ≠ D → H4 b = some o → H' b = some o) ∧ H' D = some (.lst (acc ++ row.take (j + 1))), fun H' h => ⟨m - (j + 1), by omega, rfl, hlt, h.1, h.2.1, h.2.2⟩, fun x H' y => ?_⟩
    have hr : row[j]? = some row[j] := List.getElem?_eq_getElem (by omega)
    refine turn j x row[j] H H' _ hr e (by rw [hD]; simp) (w.yields j H x H' hlt (hG H e) y) fun H7 e7 => ?_
    have hD7 := e7 D _ hD
    refine ⟨_, hD7, Nat.lt_of_lt_of_le (show _ < 100000 by simp; omega) (by decide), same_updR (e.trans e7) fd, fun b o hb h => ?_, ?_⟩
    · rw [upd_ne hb]
      exact e7 b o (e2 b o hb h)
    · rw [upd_same, List.append_assoc, List.take_add_one, hr]
      rfl
  · have : j = m := by omega
    subst this
    refine .inl ⟨w.stops H (hG H e), fin H e e2 ?_⟩
    rw [hD, List.take_of_length_le (by omega)]
theorem lc2_map {J : It} {n : Nat} {G : Hp → Prop} {Y : Nat → Hp → V → Hp → Prop} (w : Walk J n G Y) {F H1 : Hp} {g g1 : TG} {wi1 : TI} {vs vs1 : List Nat} (hF : Same F H1) (hG : ∀ H', Same F H' → G H') (rows : List (List V)) (hn : rows.length = n) (small : rows.flatten.length < 100000)
    (turn : ∀ (i : Nat) x row F' H H' D (Nx : Hp → Prop), rows[i]? = some row → Ext F H1 F' H → F' D = none → (∃ acc, H D = some (.lst acc) ∧ acc.length + row.length < 100000) → Y i H x H' →
      (∀ acc, H D = some (.lst acc) → ∀ H'', Same F' H'' → (∀ b o, b ≠ D → H b = some o → H'' b = some o) → H'' D = some (.lst (acc ++ row)) → Nx H'') →
      g x (wipe σ vs) H' fun σ2 H2 => wipe σ2 vs = wipe σ vs ∧ wi1 σ2 H2 fun J1 H4 => InB J1 g1 tYes te vs1 σ2 H4 D Nx)
    (fin : ∀ D F' H', H1 D = none → Ext F H1 F' H' → F' D = some (.lst rows.flatten) → Q (.ref D) H') : Lc2B J g tYes wi1 g1 tYes te vs vs1 σ H1 Q := by
  intro D hD
  refine ⟨fun i m H => m = n - i ∧ i ≤ n ∧ Ext F H1 F H ∧ H D = some (.lst (rows.take i).flatten), ⟨n, rfl, Nat.zero_le _, (Ext.refl hF).mut hD, by rw [upd_same]; rfl⟩, ?_⟩
  have fd : F D = none := sub_none hF hD
  rintro i m H ⟨rfl, hi, e, hd⟩
  have sz : ∀ i : Nat, (rows.take i).flatten.length ≤ rows.flatten.length := fun i => by
    conv => rhs; rw [← List.take_append_drop i rows, List.flatten_append, List.length_append]
    omega
  by_cases hlt : i < n
  · have hr : rows[i]? = some rows[i] := List.getElem?_eq_getElem (by omega)
    have ht : (rows.take (i + 1)).flatten = (rows.take i).flatten ++ rows[i] := by
      rw [List.take_add_one, hr, List.flatten_append]
      simp
    refine .inr ⟨w.goes i H hlt (hG H (e.ff.trans e.fh)), fun H' => Ext F H1 F H' ∧ H' D = some (.lst (rows.take (i + 1)).flatten), fun H' h => ⟨n - (i + 1), by omega, rfl, hlt, h.1, h.2⟩, fun x H' y => ?_⟩
    refine turn i x rows[i] F H H' D _ hr e fd ⟨_, hd, ?_⟩ (w.yields i H x H' hlt (hG H (e.ff.trans e.fh)) y) fun acc ha H'' f1 f2 f3 => ?_
    · have := sz (i + 1)
      rw [ht, List.length_append] at this
      omega
    · rw [hd] at ha
      cases ha
      refine ⟨⟨fun b o hb => f2 b o (ne_of_none hb hD) (e.hh b o hb), Same.refl F, f1, fun _ _ h => h⟩, ?_⟩
      rw [f3, ht]
  · have : i = n := by omega
    subst this
    refine .inl ⟨w.stops H (hG H (e.ff.trans e.fh)), ?_⟩
    rw [List.take_of_length_le (by omega)] at hd
    exact fin D (upd F D (.lst rows.flatten)) H hD (e.frz hD fd hd) upd_same
theorem s_lstRg {te : L2.St → Hp → (Int → Int → Hp → Prop) → Prop} (h : te σ H fun a b H1 => RgOk a b ∧ ∀ q, H1 q = none → Q (.ref q) (upd H1 q (.lst (rgV a b)))) : tLstRg te σ H Q := h
theorem s_rg1 {R : Int → Int → Hp → Prop} (h : te σ H fun x H1 => ∃ n, x = .int n ∧ R 0 n H1) : tRg1 te σ H R := h
theorem s_sfld {f : Str} (h : tb σ H fun y H1 => ta σ H1 fun x H2 => ∃ a C dx fs, x = .ref a ∧ H2 a = some (.ins C dx fs) ∧ Cls K C ∧ NoAttr K C f ∧ fs.length < 1000 ∧ nx σ (upd H2 a (.ins C dx (putF f y fs)))) : sFld K ta tb f ⟨nx, Q, bk, ct⟩ σ H := h
theorem s_ienum {R : It → Hp → Prop} (h : tr σ H fun vs H1 => ∃ a xs, vs = [.ref a] ∧ SqL K H1 a xs ∧ R (Ite K a) H1) : iEnum K tr σ H R := h
/-! ### reading through new objects -/
theorem rT_at : SqT K (upd H p (.tup xs)) p xs := .inl (.inl upd_same)
theorem rL_at : SqL K (upd H p (.lst xs)) p xs := .inl (.inl upd_same)
theorem rT_new (h : H p = none) (r : SqT K H a xs) : SqT K (upd H p o) a xs := sqT_mono (same_upd h) r
theorem rL_new (h : H p = none) (r : SqL K H a xs) : SqL K (upd H p o) a xs := sqL_mono (same_upd h) r
theorem rH_new {o' : HO} (h : H p = none) (r : H a = some o') : upd H p o a = some o' := by rw [upd_ne (ne_of_none r h)]; exact r
theorem rD_new {d : PyData} (h : H p = none) (r : Dp K H v d) : Dp K (upd H p o) v d := dp_mono (same_upd h) r
theorem ty_tup (h : SqT K H a xs) : TyX K H (.ref a) (.type "tuple") := by
  rcases h with (h | ⟨o, h⟩) | ⟨o, _, _, hk, hc, _⟩
  · exact .base (.tup h)
  · exact .fTuple h
  · exact .kTuple hk hc
theorem ty_lst (h : SqL K H a xs) : TyX K H (.ref a) (.type "list") := by
  rcases h with (h | ⟨o, h⟩) | ⟨o, _, _, hk, hc, _⟩
  · exact .base (.lst h)
  · exact .base (.frz h)
  · exact .kList hk hc
theorem tyV_lst (h : H a = some (.lst xs)) : tyV K "list" (.ref a) H := Or.inl ⟨rfl, _, Or.inl (Or.inl h)⟩
end
end G

namespace G
open PySem PySem.Spec PyProof.Rows L2

/-! ### benches as data -/
structure BD where
  hard : List Int
  places : Nat
  told : List (Nat × Nat × List Nat)
def BD.heavy (B : BD) : List Int := B.hard.flatMap fun h => List.replicate B.places h
def pairsOf (n : Nat) (g : Nat × Nat × List Nat) : List (Nat × Nat) := (List.range n).map fun x => (g.1 * n + x, g.2.1 * n + g.2.2.getD x 0)
def BD.meets (B : BD) : List (List (Nat × Nat)) := B.told.map (pairsOf B.places)
def gD (g : Nat × Nat × List Nat) : PyData := .tuple [.int g.1, .int g.2.1, .tuple (g.2.2.map fun (x : Nat) => PyData.int (x : Int))]
def pD (p : Nat × Nat) : PyData := .tuple [.int p.1, .int p.2]
structure BOk (B : BD) : Prop where
  plates : 2 ≤ B.hard.length ∧ B.hard.length ≤ 4
  hard : ∀ h ∈ B.hard, 1 ≤ h ∧ h ≤ 9
  places : 1 ≤ B.places ∧ B.places ≤ 3
  told : 1 ≤ B.told.length ∧ B.told.length ≤ 6
  each : ∀ g ∈ B.told, g.1 < B.hard.length ∧ g.2.1 < B.hard.length ∧ g.1 ≠ g.2.1 ∧ g.2.2.Perm (List.range B.places)
theorem flat_len (l : List Int) (n : Nat) : (l.flatMap fun h => List.replicate n h).length = l.length * n := by
  induction l with
  | nil => simp
  | cons a l ih => rw [List.flatMap_cons, List.length_append, ih, List.length_replicate, List.length_cons, Nat.add_mul, Nat.one_mul, Nat.add_comm]
theorem BD.heavy_len (B : BD) : B.heavy.length = B.hard.length * B.places := flat_len _ _
theorem BOk.heavy {B : BD} (h : BOk B) : ∀ x ∈ B.heavy, 1 ≤ x ∧ x ≤ 9 := by
  intro x hx
  obtain ⟨y, hy, hm⟩ := List.mem_flatMap.mp hx
  rw [List.mem_replicate] at hm
  rw [hm.2]
  exact h.hard y hy
theorem BOk.heavy_lt {B : BD} (h : BOk B) : B.heavy.length ≤ 12 := by
  rw [B.heavy_len]
  have h1 := h.plates.2
  have h2 := h.places.2
  calc B.hard.length * B.places ≤ 4 * 3 := Nat.mul_le_mul h1 h2
    _ = 12 := rfl
theorem BOk.pair {B : BD} (h : BOk B) {g : Nat × Nat × List Nat} (hg : g ∈ B.told) {p : Nat × Nat} (hp : p ∈ pairsOf B.places g) : p.1 < B.heavy.length ∧ p.2 < B.heavy.length := by
  obtain ⟨x, hx, rfl⟩ := List.mem_map.mp hp
  obtain ⟨h1, h2, h3, h4⟩ := h.each g hg
  have hx' : x < B.places := List.mem_range.mp hx
  have hy : g.2.2.getD x 0 < B.places := by
    have hl : g.2.2.length = B.places := by rw [h4.length_eq, List.length_range]
    have : g.2.2.getD x 0 ∈ g.2.2 := by
      rw [List.getD_eq_getElem?_getD, List.getElem?_eq_getElem (by omega)]
      exact List.getElem_mem _
    exact List.mem_range.mp (h4.mem_iff.mp this)
  rw [B.heavy_len]
  constructor
  · show g.1 * B.places + x < B.hard.length * B.places
    calc g.1 * B.places + x < g.1 * B.places + B.places := by omega
      _ = (g.1 + 1) * B.places := by rw [Nat.add_mul, Nat.one_mul]
      _ ≤ B.hard.length * B.places := Nat.mul_le_mul_right _ h1
  · show g.2.1 * B.places + g.2.2.getD x 0 < B.hard.length * B.places
    calc g.2.1 * B.places + g.2.2.getD x 0 < g.2.1 * B.places + B.places := by omega
      _ = (g.2.1 + 1) * B.places := by rw [Nat.add_mul, Nat.one_mul]
      _ ≤ B.hard.length * B.places := Nat.mul_le_mul_right _ h2
theorem BOk.row {B : BD} (h : BOk B) {r : List (Nat × Nat)} (hr : r ∈ B.meets) {p : Nat × Nat} (hp : p ∈ r) : p.1 < B.heavy.length ∧ p.2 < B.heavy.length := by
  obtain ⟨g, hg, rfl⟩ := List.mem_map.mp hr
  exact h.pair hg hp
theorem BOk.row_len {B : BD} (h : BOk B) {r : List (Nat × Nat)} (hr : r ∈ B.meets) : r.length = B.places := by
  obtain ⟨g, hg, rfl⟩ := List.mem_map.mp hr
  simp [pairsOf]
theorem BD.meets_len (B : BD) : B.meets.length = B.told.length := List.length_map ..

/-! ### a bench stands -/
def bflds (l1 : Addr) (n : Int) (l2 l3 l4 : Addr) : List (Str × V) := [("hard", V.ref l1), ("places", V.int n), ("told", V.ref l2), ("heavy", V.ref l3), ("meets", V.ref l4)]
structure Txt (K : PySem.W.Frag) (mg : Str → Option Value) (C : Addr) : Prop where
  cl : Cls K C
  n_hard : NoAttr K C "hard"
  n_places : NoAttr K C "places"
  n_told : NoAttr K C "told"
  n_heavy : NoAttr K C "heavy"
  n_meets : NoAttr K C "meets"
  m_Bench : mg "Bench" = some (.ref C)
  g_MOST_PLATES : ∃ t, mg "MOST_PLATES" = some (.int 4 t)
  g_MOST_HARDNESS : ∃ t, mg "MOST_HARDNESS" = some (.int 9 t)
  g_MOST_PLACES : ∃ t, mg "MOST_PLACES" = some (.int 3 t)
  g_MOST_GRINDINGS : ∃ t, mg "MOST_GRINDINGS" = some (.int 6 t)
structure BenchAt (K : PySem.W.Frag) (C : Addr) (H : Hp) (b : Addr) (B : BD) : Prop where
  ex : ∃ dx l1 l2 l3 l4, H b = some (.ins C dx (bflds l1 B.places l2 l3 l4)) ∧ SqL K H l1 (B.hard.map V.int) ∧ Dp K H (.ref l2) (.list (B.told.map gD)) ∧ SqL K H l3 (B.heavy.map V.int) ∧ Dp K H (.ref l4) (.list (B.meets.map fun r => .list (r.map pD)))
theorem BenchAt.mono {K : PySem.W.Frag} {C : Addr} {H H' : Hp} {b : Addr} {B : BD} (e : Same H H') (h : BenchAt K C H b B) : BenchAt K C H' b B := by
  obtain ⟨dx, l1, l2, l3, l4, hb, h1, h2, h3, h4⟩ := h.ex
  exact ⟨dx, l1, l2, l3, l4, e _ _ hb, sqL_mono e h1, dp_mono e h2, sqL_mono e h3, dp_mono e h4⟩
theorem fl_hard {l1 l2 l3 l4 : Addr} {n : Int} : (bflds l1 n l2 l3 l4).lookup ("hard" : Str) = some (V.ref l1) := by rfl
theorem fl_places {l1 l2 l3 l4 : Addr} {n : Int} : (bflds l1 n l2 l3 l4).lookup ("places" : Str) = some (V.int n) := by rfl
theorem fl_told {l1 l2 l3 l4 : Addr} {n : Int} : (bflds l1 n l2 l3 l4).lookup ("told" : Str) = some (V.ref l2) := by rfl
theorem fl_heavy {l1 l2 l3 l4 : Addr} {n : Int} : (bflds l1 n l2 l3 l4).lookup ("heavy" : Str) = some (V.ref l3) := by rfl
theorem fl_meets {l1 l2 l3 l4 : Addr} {n : Int} : (bflds l1 n l2 l3 l4).lookup ("meets" : Str) = some (V.ref l4) := by rfl
theorem fl_no {l1 l2 l3 l4 : Addr} {n : Int} : (bflds l1 n l2 l3 l4).lookup ("pair_weights" : Str) = none := by rfl

/-! ### data lists, item by item -/
theorem dpAll_get {K : PySem.W.Frag} {H : Hp} : ∀ {vs : List V} {ds : List PyData} {i : Nat} {d : PyData}, DpAll K H vs ds → ds[i]? = some d → ∃ v, vs[i]? = some v ∧ Dp K H v d
  | _, _, _, _, .nil, h => by simp at h
  | _, _, 0, _, .cons h _, e => by simp at e; subst e; exact ⟨_, rfl, h⟩
  | _, _, i + 1, _, .cons _ t, e => by
    obtain ⟨v, h1, h2⟩ := dpAll_get (i := i) t (by simpa using e)
    exact ⟨v, by simpa using h1, h2⟩
theorem dpAll_len {K : PySem.W.Frag} {H : Hp} : ∀ {vs : List V} {ds : List PyData}, DpAll K H vs ds → vs.length = ds.length
  | _, _, .nil => rfl
  | _, _, .cons _ t => by rw [List.length_cons, List.length_cons, dpAll_len t]
theorem dpAll_of {K : PySem.W.Frag} {H : Hp} : ∀ {vs : List V} {ds : List PyData}, vs.length = ds.length → (∀ (i : Nat) v d, vs[i]? = some v → ds[i]? = some d → Dp K H v d) → DpAll K H vs ds
  | [], [], _, _ => .nil
  | [], _ :: _, h, _ => by simp at h
  | _ :: _, [], h, _ => by simp at h
  | v :: vs, d :: ds, h, f => .cons (f 0 v d rfl rfl) (dpAll_of (by simpa using h) fun i v d h1 h2 => f (i + 1) v d (by simpa using h1) (by simpa using h2))
theorem dp_list {K : PySem.W.Frag} {H : Hp} {a : Addr} {ds : List PyData} (h : Dp K H (.ref a) (.list ds)) : ∃ xs, SqL K H a xs ∧ DpAll K H xs ds := by
  cases h with
  | lst h hs => exact ⟨_, h, hs⟩
theorem dp_tuple {K : PySem.W.Frag} {H : Hp} {a : Addr} {ds : List PyData} (h : Dp K H (.ref a) (.tuple ds)) : ∃ xs, SqT K H a xs ∧ DpAll K H xs ds := by
  cases h with
  | tup h hs => exact ⟨_, h, hs⟩
theorem dp_refT {K : PySem.W.Frag} {H : Hp} {v : V} {ds : List PyData} (h : Dp K H v (.tuple ds)) : ∃ a xs, v = .ref a ∧ SqT K H a xs ∧ DpAll K H xs ds := by
  cases h with
  | tup h hs => exact ⟨_, _, rfl, h, hs⟩
theorem dp_refL {K : PySem.W.Frag} {H : Hp} {v : V} {ds : List PyData} (h : Dp K H v (.list ds)) : ∃ a xs, v = .ref a ∧ SqL K H a xs ∧ DpAll K H xs ds := by
  cases h with
  | lst h hs => exact ⟨_, _, rfl, h, hs⟩
theorem dpAll_ints {K : PySem.W.Frag} {H : Hp} : ∀ {vs : List V} {ns : List Int}, DpAll K H vs (ns.map PyData.int) → vs = ns.map V.int
  | [], [], _ => rfl
  | [], _ :: _, h => by cases h
  | _ :: _, [], h => by cases h
  | v :: vs, n :: ns, h => by
    cases h with
    | cons h1 h2 =>
      cases h1
      rw [dpAll_ints h2]
      rfl
theorem ints_dpAll {K : PySem.W.Frag} {H : Hp} : ∀ (ns : List Int), DpAll K H (ns.map V.int) (ns.map PyData.int)
  | [] => .nil
  | n :: ns => .cons (.int n) (ints_dpAll ns)
theorem pD_at {K : PySem.W.Frag} {H : Hp} {v : V} {p : Nat × Nat} (h : Dp K H v (pD p)) : ∃ a, v = .ref a ∧ SqT K H a [.int p.1, .int p.2] := by
  obtain ⟨a, xs, rfl, h1, h2⟩ := dp_refT h
  have := dpAll_ints (ns := [(p.1 : Int), (p.2 : Int)]) h2
  subst this
  exact ⟨a, rfl, h1⟩
/-- an item of a list of ints at a place -/
theorem at_int {ns : List Int} {i : Nat} (h : i < ns.length) : atI (ns.map V.int) (i : Int) = some (.int (ns.getD i 0)) := by
  refine atI_nat ?_
  rw [List.getElem?_map, List.getElem?_eq_getElem h, List.getD_eq_getElem?_getD, List.getElem?_eq_getElem h]
  rfl
theorem ix_int {n i : Nat} (h : i < n) : ixN n (i : Int) = some i := by
  unfold ixN
  rw [if_pos (by omega), if_pos (by omega)]
  simp
theorem set_map (ns : List Int) (i : Nat) (x : Int) : (ns.map V.int).set i (.int x) = (ns.set i x).map V.int := by rw [List.map_set]

/-! ### what is ground off -/
def tn (s b : Int) : Int := if 0 ≤ s then s / b else -((-s) / b)
def grain (w hs : List Int) (p : Nat × Nat) : Int := tn (hs.getD p.1 0 + hs.getD p.2 0) (w.getD p.1 0 + w.getD p.2 0)
def take1 (w hs : List Int) (p : Nat × Nat) (g : Int) : List Int :=
  (hs.set p.1 (hs.getD p.1 0 - w.getD p.2 0 * g)).set p.2 ((hs.set p.1 (hs.getD p.1 0 - w.getD p.2 0 * g)).getD p.2 0 - w.getD p.1 0 * g)
theorem take1_len (w hs : List Int) (p : Nat × Nat) (g : Int) : (take1 w hs p g).length = hs.length := by simp [take1]
def takeAll (w : List Int) : List Int → List (Nat × Nat) → List Int → List Int
  | hs, p :: ps, g :: gs => takeAll w (take1 w hs p g) ps gs
  | hs, _, _ => hs
theorem takeAll_len (w : List Int) : ∀ (hs : List Int) (ps : List (Nat × Nat)) (gs : List Int), (takeAll w hs ps gs).length = hs.length
  | hs, p :: ps, g :: gs => by rw [takeAll, takeAll_len w _ ps gs, take1_len]
  | hs, [], _ => by rw [takeAll]; intro _ _ _ _ h; cases h
  | hs, _ :: _, [] => by rw [takeAll]; intro _ _ _ _ _ h; cases h
def dust (w hs : List Int) (r : List (Nat × Nat)) : List Int := r.map (grain w hs)
def after (w hs : List Int) (r : List (Nat × Nat)) : List Int := takeAll w hs r (dust w hs r)
def takesOff (w hs : List Int) (r : List (Nat × Nat)) : Bool := r.any fun p => grain w hs p != 0

/-! ### data that may be compared -/
def Sh (n : Nat) (d : PyData) : Prop := d.canLay0 = true ∧ d.depth ≤ n
theorem sh_shaped {n : Nat} {d : PyData} (h : Sh n d) (hn : n ≤ 64 := by decide) : SeqAt.shaped d = true := by
  unfold SeqAt.shaped
  rw [h.1, decide_eq_true (Nat.le_trans h.2 hn)]
  rfl
theorem sh_mono {n m : Nat} {d : PyData} (h : Sh n d) (hn : n ≤ m) : Sh m d := ⟨h.1, Nat.le_trans h.2 hn⟩
theorem sh_int (i : Int) : Sh 0 (.int i) := ⟨rfl, Nat.le_refl _⟩
theorem sh_bool (i : Bool) : Sh 0 (.bool i) := ⟨rfl, Nat.le_refl _⟩
theorem sh_none : Sh 0 .none := ⟨rfl, Nat.le_refl _⟩
theorem sh_all {n : Nat} : ∀ {ds : List PyData}, (∀ d ∈ ds, Sh n d) → PyData.canLayAll0 ds = true ∧ PyData.depthAll ds ≤ n
  | [], _ => ⟨rfl, Nat.zero_le _⟩
  | d :: ds, h => by
    obtain ⟨h1, h2⟩ := h d (List.mem_cons_self ..)
    obtain ⟨h3, h4⟩ := sh_all (ds := ds) fun x hx => h x (List.mem_cons_of_mem _ hx)
    constructor
    · show (PyData.canLay0 d && PyData.canLayAll0 ds) = true
      rw [h1, h3]
      rfl
    · show max (PyData.depth d) (PyData.depthAll ds) ≤ n
      omega
theorem sh_list {n : Nat} {ds : List PyData} (h : ∀ d ∈ ds, Sh n d) : Sh (n + 1) (.list ds) := ⟨(sh_all h).1, Nat.succ_le_succ (sh_all h).2⟩
theorem sh_tuple {n : Nat} {ds : List PyData} (h : ∀ d ∈ ds, Sh n d) : Sh (n + 1) (.tuple ds) := ⟨(sh_all h).1, Nat.succ_le_succ (sh_all h).2⟩
theorem sh_ints (ns : List Int) : ∀ d ∈ ns.map PyData.int, Sh 0 d := fun d h => by
  obtain ⟨n, _, rfl⟩ := List.mem_map.mp h
  exact sh_int n
theorem sh_listI (ns : List Int) : Sh 1 (.list (ns.map PyData.int)) := sh_list (sh_ints ns)
theorem sh_tupleI (ns : List Int) : Sh 1 (.tuple (ns.map PyData.int)) := sh_tuple (sh_ints ns)
theorem eqv_self {n : Nat} {d : PyData} (h : Sh n d) : PyData.eqv d d = true := SeqAt.eqv_refl d h.1
theorem eqvAll_ints : ∀ ns ms : List Int, PyData.eqvAll (ns.map PyData.int) (ms.map PyData.int) = decide (ns = ms)
  | [], [] => rfl
  | [], _ :: _ => rfl
  | _ :: _, [] => rfl
  | n :: ns, m :: ms => by
    show ((n == m) && PyData.eqvAll (ns.map PyData.int) (ms.map PyData.int)) = _
    rw [eqvAll_ints ns ms]
    by_cases h : n = m
    · subst h
      simp
    · simp [h]
theorem dp_tupI {K : PySem.W.Frag} {H : Hp} {a : Addr} {ns : List Int} (h : SqT K H a (ns.map V.int)) : Dp K H (.ref a) (.tuple (ns.map PyData.int)) := .tup h (ints_dpAll ns)
theorem dp_lstI {K : PySem.W.Frag} {H : Hp} {a : Addr} {ns : List Int} (h : SqL K H a (ns.map V.int)) : Dp K H (.ref a) (.list (ns.map PyData.int)) := .lst h (ints_dpAll ns)
end G

namespace G
open PySem PySem.Spec PyProof.Rows L2

/-! ### a state list st that changes from draw to draw -/
def StOk (s : List V) : Prop := (∃ n, s = [.int n]) ∨ ∃ n m c : Int, s = [.int n, .int m, .int c]
structure SExt (st : Addr) (F H F' H' : Hp) : Prop where
  ext : Ext F (del H st) F' (del H' st)
  st : ∃ s', H' st = some (.lst s') ∧ StOk s'
theorem del_same' {H H' : Hp} {a : Addr} (e : Same H H') : Same (del H a) (del H' a) := fun b o h => by
  by_cases z : b = a
  · rw [z, del_same] at h; cases h
  · rw [del_ne z] at h ⊢; exact e b o h
theorem SExt.refl {st : Addr} {F H : Hp} {s : List V} (e : Same F (del H st)) (h : H st = some (.lst s)) (ok : StOk s) : SExt st F H F H := ⟨Ext.refl e, s, h, ok⟩
theorem SExt.trans {st : Addr} {F H F1 H1 F2 H2 : Hp} (a : SExt st F H F1 H1) (b : SExt st F1 H1 F2 H2) : SExt st F H F2 H2 := ⟨a.ext.trans b.ext, b.st⟩
theorem SExt.f0 {st : Addr} {F H F1 H1 : Hp} (a : SExt st F H F1 H1) : F1 st = none := sub_none a.ext.fh del_same
theorem SExt.fh {st : Addr} {F H F1 H1 : Hp} (a : SExt st F H F1 H1) : Same F1 H1 := a.ext.fh.trans del_sub
theorem SExt.ne {st p : Addr} {F H F1 H1 : Hp} (a : SExt st F H F1 H1) (h : H1 p = none) : p ≠ st := fun e => by
  obtain ⟨s, hs, _⟩ := a.st
  rw [e, hs] at h
  cases h
theorem SExt.new {st p : Addr} {F H F1 H1 : Hp} {o : HO} (a : SExt st F H F1 H1) (h : H1 p = none) : SExt st F H (upd F1 p o) (upd H1 p o) := by
  have ne := a.ne h
  obtain ⟨s, hs, ok⟩ := a.st
  refine ⟨?_, s, by rw [upd_ne (Ne.symm ne)]; exact hs, ok⟩
  rw [del_upd_ne ne]
  exact a.ext.new (by rw [del_ne ne]; exact h)
theorem SExt.mut {st p : Addr} {F H F1 H1 : Hp} {o : HO} (a : SExt st F H F1 H1) (h : H1 p = none) : SExt st F H F1 (upd H1 p o) := by
  have ne := a.ne h
  obtain ⟨s, hs, ok⟩ := a.st
  refine ⟨?_, s, by rw [upd_ne (Ne.symm ne)]; exact hs, ok⟩
  rw [del_upd_ne ne]
  exact a.ext.mut (by rw [del_ne ne]; exact h)
theorem SExt.chg {st p : Addr} {F H F1 H1 : Hp} {o : HO} (a : SExt st F H F1 H1) (ne : p ≠ st) (h : H p = none) (hf : F1 p = none) : SExt st F H F1 (upd H1 p o) := by
  obtain ⟨s, hs, ok⟩ := a.st
  refine ⟨?_, s, by rw [upd_ne (Ne.symm ne)]; exact hs, ok⟩
  rw [del_upd_ne ne]
  exact a.ext.chg (by rw [del_ne ne]; exact h) hf
theorem SExt.frz {st p : Addr} {F H F1 H1 : Hp} {o : HO} (a : SExt st F H F1 H1) (ne : p ≠ st) (h : H p = none) (hf : F1 p = none) (ho : H1 p = some o) : SExt st F H (upd F1 p o) H1 :=
  ⟨a.ext.frz (by rw [del_ne ne]; exact h) hf (by rw [del_ne ne]; exact ho), a.st⟩
/-- a def that changes nothing that stood -/
theorem SExt.pure {st : Addr} {F H F1 H1 F2 H2 : Hp} (a : SExt st F H F1 H1) (b : Ext F1 H1 F2 H2) : SExt st F H F2 H2 := by
  obtain ⟨s, hs, ok⟩ := a.st
  have f2 : F2 st = none := b.fr st (by rw [hs]; simp) a.f0
  refine ⟨a.ext.trans ⟨del_same' b.hh, b.ff, fun c o h => ?_, fun c h1 h2 => ?_⟩, s, b.hh _ _ hs, ok⟩
  · have : c ≠ st := fun z => by rw [z, f2] at h; cases h
    rw [del_ne this]
    exact b.fh c o h
  · by_cases z : c = st
    · rw [z]; exact f2
    · rw [del_ne z] at h1
      exact b.fr c h1 h2
/-- what stands beside the state stays -/
theorem SExt.keep {st b : Addr} {F H F1 H1 : Hp} {o : HO} (a : SExt st F H F1 H1) (ne : b ≠ st) (h : H b = some o) : H1 b = some o := by
  have := a.ext.hh b o (by rw [del_ne ne]; exact h)
  rw [del_ne ne] at this
  exact this
theorem SExt.fr {st b : Addr} {F H F1 H1 : Hp} (a : SExt st F H F1 H1) (ne : b ≠ st) (h : H b ≠ none) (hf : F b = none) : F1 b = none := a.ext.fr b (by rw [del_ne ne]; exact h) hf
theorem SExt.back {st p : Addr} {F H F1 H1 : Hp} (a : SExt st F H F1 H1) (h : H1 p = none) : H p = none := by
  have ne := a.ne h
  have := a.ext.hh.free (l := p) (by rw [del_ne ne]; exact h)
  rw [del_ne ne] at this
  exact this
section
variable {K : PySem.W.Frag} {σ : L2.St} {H F : Hp} {Q : VK} {te : TE} {nx bk ct : L2.St → Hp → Prop} {ts us : TS}
/-- what a statement reaches, told ahead of what follows -/
theorem s_cut (R : L2.St → Hp → Prop) (h : ∀ U : L2.St → Hp → Prop, (∀ σ' H', R σ' H' → U σ' H') → ts ⟨U, Q, bk, ct⟩ σ H) (k : ∀ σ' H', R σ' H' → us ⟨nx, Q, bk, ct⟩ σ' H') : tSeq ts us ⟨nx, Q, bk, ct⟩ σ H := h _ k
theorem lc_mapS {st : Addr} {J : It} {n : Nat} {G : Hp → Prop} {Y : Nat → Hp → V → Hp → Prop} (w : Walk J n G Y) {F0 H0 F H1 : Hp} {g : TG} {vs : List Nat} (h01 : SExt st F0 H0 F H1) (hn : n < 100000) (hG : ∀ H', Same F H' → G H')
    (R : Nat → Hp → V → Prop) (Rm : ∀ i H H' v, Same H H' → R i H v → R i H' v)
    (turn : ∀ i x F' H H' D (Z : VK), i < n → SExt st F H1 F' H → F' D = none → H D ≠ none → D ≠ st → Y i H x H' → (∀ y F4 H4, SExt st F' H F4 H4 → R i F4 y → Z y H4) → g x (wipe σ vs) H' fun σ2 H2 => wipe σ2 vs = wipe σ vs ∧ te σ2 H2 Z)
    (fin : ∀ D ys F' H', H1 D = none → SExt st F H1 F' H' → F' D = some (.lst ys) → ys.length = n → (∀ i v, ys[i]? = some v → R i F' v) → Q (.ref D) H') :
    LcB J g tYes te vs σ H1 Q := by
  intro D hD
  have nD : D ≠ st := h01.ne hD
  obtain ⟨s1, hs1, ok1⟩ := h01.st
  have r1 : SExt st F H1 F H1 := SExt.refl h01.ext.fh hs1 ok1
  refine lc_it w (fun i H => ∃ F' acc, SExt st F H1 F' H ∧ F' D = none ∧ H D = some (.lst acc) ∧ acc.length = i ∧ ∀ j v, acc[j]? = some v → R j F' v) ?_ ?_ ?_ ?_
  · exact ⟨F, [], r1.mut hD, sub_none r1.fh hD, upd_same, rfl, fun j v h => by simp at h⟩
  · rintro i H _ ⟨F', acc, e, _⟩
    exact hG H (e.ext.ff.trans e.fh)
  · rintro i x H H' hi ⟨F', acc, e, fd, hd, hl, hr⟩ y
    refine turn i x F' H H' D _ hi e fd (by rw [hd]; simp) nD y fun z F4 H4 e4 r4 => ?_
    have hd4 := e4.keep nD hd
    have fd4 := e4.fr nD (by rw [hd]; simp) fd
    refine ⟨acc, hd4, Nat.lt_of_lt_of_le (show acc.length < 100000 by omega) (by decide), F4, acc ++ [z], (e.trans e4).chg nD hD fd4, fd4, upd_same, by simp [hl], ?_⟩
    intro j v hv
    by_cases hj : j < acc.length
    · rw [List.getElem?_append_left hj] at hv
      exact Rm _ _ _ _ e4.ext.ff (hr j v hv)
    · have : j = acc.length := by
        have := (List.getElem?_eq_some_iff.mp hv).1
        simp at this
        omega
      subst this
      rw [List.getElem?_append_right (Nat.le_refl _)] at hv
      simp at hv
      rw [← hv, hl]
      exact r4
  · rintro H ⟨F', acc, e, fd, hd, hl, hr⟩
    exact fin D acc (upd F' D (.lst acc)) H hD (e.frz nD hD fd hd) upd_same hl fun i v hv => Rm _ _ _ _ (same_upd fd) (hr i v hv)
theorem s_disp {trs : List (TE × TE)} (h : ∀ p, H p = none → tPairs trs σ (upd H p (.dK [])) fun ps H2 => H2 p = some (.dK []) ∧ ∃ kvs : List (Key × V), ps = kvs.map (fun kv => (kV kv.1, kv.2)) ∧ kvs.length ≤ 15 ∧ Q (.ref p) (upd H2 p (.dK (mergeK [] kvs)))) : tDisp trs σ H Q := h
theorem s_pc {tk tv : TE} {trs : List (TE × TE)} {QP : List (V × V) → Hp → Prop} (h : tk σ H fun k H1 => tv σ H1 fun v H2 => tPairs trs σ H2 fun ps H3 => QP ((k, v) :: ps) H3) : tPairs ((tk, tv) :: trs) σ H QP := h
theorem s_pn {QP : List (V × V) → Hp → Prop} (h : QP [] H) : tPairs [] σ H QP := h
end
/-! ### the law's own bench: a dict -/
def mkvs (l1 : Addr) (n : Int) (l2 l3 l4 : Addr) : List (Key × V) := [(Sum.inr "hard", .ref l1), (Sum.inr "places", .int n), (Sum.inr "told", .ref l2), (Sum.inr "heavy", .ref l3), (Sum.inr "meets", .ref l4)]
structure ModelAt (K : PySem.W.Frag) (F : Hp) (m : Addr) (B : BD) : Prop where
  ex : ∃ l1 l2 l3 l4, F m = some (.dK (mkvs l1 B.places l2 l3 l4)) ∧ SqL K F l1 (B.hard.map V.int) ∧ Dp K F (.ref l2) (.list (B.told.map gD)) ∧ SqL K F l3 (B.heavy.map V.int) ∧ Dp K F (.ref l4) (.list (B.meets.map fun r => .list (r.map pD)))
theorem ModelAt.mono {K : PySem.W.Frag} {H H' : Hp} {b : Addr} {B : BD} (e : Same H H') (h : ModelAt K H b B) : ModelAt K H' b B := by
  obtain ⟨l1, l2, l3, l4, hb, h1, h2, h3, h4⟩ := h.ex
  exact ⟨l1, l2, l3, l4, e _ _ hb, sqL_mono e h1, dp_mono e h2, sqL_mono e h3, dp_mono e h4⟩
theorem mv_hard {l1 l2 l3 l4 : Addr} {n : Int} : valV (mkvs l1 n l2 l3 l4) (Sum.inr "hard") = some (V.ref l1) := by rfl
theorem mv_places {l1 l2 l3 l4 : Addr} {n : Int} : valV (mkvs l1 n l2 l3 l4) (Sum.inr "places") = some (V.int n) := by rfl
theorem mv_told {l1 l2 l3 l4 : Addr} {n : Int} : valV (mkvs l1 n l2 l3 l4) (Sum.inr "told") = some (V.ref l2) := by rfl
theorem mv_heavy {l1 l2 l3 l4 : Addr} {n : Int} : valV (mkvs l1 n l2 l3 l4) (Sum.inr "heavy") = some (V.ref l3) := by rfl
theorem mv_meets {l1 l2 l3 l4 : Addr} {n : Int} : valV (mkvs l1 n l2 l3 l4) (Sum.inr "meets") = some (V.ref l4) := by rfl
theorem merge_mkvs {l1 l2 l3 l4 : Addr} {n : Int} : mergeK [] (mkvs l1 n l2 l3 l4) = mkvs l1 n l2 l3 l4 := by rfl
end G

namespace G
open PySem PySem.Spec PyProof.Rows L2
/-! ### what is ground off, place by place -/
def Apart (p q : Nat × Nat) : Prop := p.1 ≠ q.1 ∧ p.1 ≠ q.2 ∧ p.2 ≠ q.1 ∧ p.2 ≠ q.2
structure Disj (r : List (Nat × Nat)) : Prop where
  own : ∀ p ∈ r, p.1 ≠ p.2
  two : r.Pairwise Apart
theorem mul_lt_apart {a b n x y : Nat} (h : a ≠ b) (hx : x < n) (hy : y < n) : a * n + x ≠ b * n + y := by
  intro e
  rcases Nat.lt_or_gt_of_ne h with h | h
  · have : (a + 1) * n ≤ b * n := Nat.mul_le_mul_right _ h
    rw [Nat.add_mul, Nat.one_mul] at this
    omega
  · have : (b + 1) * n ≤ a * n := Nat.mul_le_mul_right _ h
    rw [Nat.add_mul, Nat.one_mul] at this
    omega
theorem BOk.disj {B : BD} (h : BOk B) {r : List (Nat × Nat)} (hr : r ∈ B.meets) : Disj r := by
  obtain ⟨g, hg, rfl⟩ := List.mem_map.mp hr
  obtain ⟨h1, h2, h3, h4⟩ := h.each g hg
  have nd : g.2.2.Nodup := h4.nodup_iff.mpr List.nodup_range
  have len : g.2.2.length = B.places := by rw [h4.length_eq, List.length_range]
  have lt : ∀ x, x < B.places → ∃ hx : x < g.2.2.length, g.2.2.getD x 0 = g.2.2[x] ∧ g.2.2[x] < B.places := fun x hx => by
    have hx' : x < g.2.2.length := by omega
    refine ⟨hx', by rw [List.getD_eq_getElem?_getD, List.getElem?_eq_getElem hx']; rfl, ?_⟩
    exact List.mem_range.mp (h4.mem_iff.mp (List.getElem_mem hx'))
  constructor
  · intro p hp
    obtain ⟨x, hx, rfl⟩ := List.mem_map.mp hp
    obtain ⟨hx', e, l⟩ := lt x (List.mem_range.mp hx)
    exact mul_lt_apart h3 (List.mem_range.mp hx) (by rw [e]; exact l)
  · refine List.pairwise_map.mpr (List.Pairwise.imp_of_mem (fun {x y} hx hy hxy => ?_) List.pairwise_lt_range)
    have hx1 := List.mem_range.mp hx
    have hy1 := List.mem_range.mp hy
    obtain ⟨hx', ex, lx⟩ := lt x hx1
    obtain ⟨hy', ey, ly⟩ := lt y hy1
    refine ⟨?_, ?_, ?_, ?_⟩
    · show g.1 * B.places + x ≠ g.1 * B.places + y; omega
    · exact mul_lt_apart h3 hx1 (by rw [ey]; exact ly)
    · exact mul_lt_apart (Ne.symm h3) (by rw [ex]; exact lx) hy1
    · show g.2.1 * B.places + g.2.2.getD x 0 ≠ g.2.1 * B.places + g.2.2.getD y 0
      intro e
      have e2 : g.2.2[x] = g.2.2[y] := by rw [← ex, ← ey]; omega
      have := (List.getElem_inj nd).mp e2
      omega
theorem getD_set (l : List Int) (i j : Nat) (x : Int) : (l.set i x).getD j 0 = if i = j ∧ i < l.length then x else l.getD j 0 := by
  rw [List.getD_eq_getElem?_getD, List.getElem?_set, List.getD_eq_getElem?_getD]
  by_cases h : i = j
  · subst h
    by_cases h2 : i < l.length
    · simp [h2]
    · simp [h2]
  · simp [h]
theorem take1_out (w hs : List Int) (p : Nat × Nat) (g : Int) (j : Nat) (h1 : p.1 ≠ j) (h2 : p.2 ≠ j) : (take1 w hs p g).getD j 0 = hs.getD j 0 := by
  unfold take1
  rw [getD_set, getD_set]
  simp [h1, h2]
theorem take1_fst (w hs : List Int) (p : Nat × Nat) (g : Int) (h : p.1 ≠ p.2) (h1 : p.1 < hs.length) : (take1 w hs p g).getD p.1 0 = hs.getD p.1 0 - w.getD p.2 0 * g := by
  unfold take1
  rw [getD_set, getD_set]
  simp [Ne.symm h, h1]
theorem take1_snd (w hs : List Int) (p : Nat × Nat) (g : Int) (h : p.1 ≠ p.2) (h2 : p.2 < hs.length) : (take1 w hs p g).getD p.2 0 = hs.getD p.2 0 - w.getD p.1 0 * g := by
  unfold take1
  rw [getD_set, getD_set]
  simp [h, h2]
theorem takeAll_out (w : List Int) (j : Nat) : ∀ (r : List (Nat × Nat)) (gs hs : List Int), (∀ p ∈ r, p.1 ≠ j ∧ p.2 ≠ j) → (takeAll w hs r gs).getD j 0 = hs.getD j 0
  | [], _, hs, _ => by cases hs <;> simp [takeAll]
  | _ :: _, [], hs, _ => by simp [takeAll]
  | p :: r, g :: gs, hs, h => by
    rw [takeAll, takeAll_out w j r gs _ fun q hq => h q (List.mem_cons_of_mem _ hq)]
    obtain ⟨h1, h2⟩ := h p (List.mem_cons_self ..)
    exact take1_out w hs p g j h1 h2
theorem takeAll_at (w : List Int) : ∀ (r : List (Nat × Nat)) (gs hs : List Int) (i : Nat) (p : Nat × Nat) (g : Int), Disj r → (∀ p ∈ r, p.1 < hs.length ∧ p.2 < hs.length) → r[i]? = some p → gs[i]? = some g →
    (takeAll w hs r gs).getD p.1 0 = hs.getD p.1 0 - w.getD p.2 0 * g ∧ (takeAll w hs r gs).getD p.2 0 = hs.getD p.2 0 - w.getD p.1 0 * g
  | [], _, _, _, _, _, _, _, h, _ => by simp at h
  | _ :: _, [], _, _, _, _, _, _, _, h => by simp at h
  | q :: r, g' :: gs, hs, 0, p, g, d, hin, h1, h2 => by
    have e1 : q = p := by simpa using h1
    have e2 : g' = g := by simpa using h2
    subst e1 e2
    have tw := List.pairwise_cons.mp d.two
    have ow := d.own q (List.mem_cons_self ..)
    obtain ⟨l1, l2⟩ := hin q (List.mem_cons_self ..)
    rw [takeAll, takeAll_out w q.1 r gs _ fun z hz => ⟨Ne.symm (tw.1 z hz).1, Ne.symm (tw.1 z hz).2.1⟩, takeAll_out w q.2 r gs _ fun z hz => ⟨Ne.symm (tw.1 z hz).2.2.1, Ne.symm (tw.1 z hz).2.2.2⟩]
    exact ⟨take1_fst w hs q g' ow l1, take1_snd w hs q g' ow l2⟩
  | q :: r, g' :: gs, hs, i + 1, p, g, d, hin, h1, h2 => by
    have tw := List.pairwise_cons.mp d.two
    have hp : p ∈ r := List.mem_of_getElem? (by simpa using h1)
    have ap := tw.1 p hp
    obtain ⟨i1, i2⟩ := takeAll_at w r gs (take1 w hs q g') i p g ⟨fun z hz => d.own z (List.mem_cons_of_mem _ hz), tw.2⟩ (fun z hz => by rw [take1_len]; exact hin z (List.mem_cons_of_mem _ hz)) (by simpa using h1) (by simpa using h2)
    rw [takeAll]
    rw [i1, i2, take1_out w hs q g' p.1 ap.1 ap.2.2.1, take1_out w hs q g' p.2 ap.2.1 ap.2.2.2]
    exact ⟨rfl, rfl⟩
theorem take1_zero (w hs : List Int) (p : Nat × Nat) : take1 w hs p 0 = hs := by
  have e : ∀ (l : List Int) (i : Nat), l.set i (l.getD i 0) = l := fun l i => by
    refine List.ext_getElem? fun j => ?_
    rw [List.getElem?_set]
    by_cases h : i = j
    · subst h
      by_cases h2 : i < l.length
      · simp [h2]
      · simp [h2]
    · simp [h]
  unfold take1
  simp only [Int.mul_zero, Int.sub_zero, e]
theorem takeAll_zero (w : List Int) : ∀ (r : List (Nat × Nat)) (gs hs : List Int), (∀ g ∈ gs, g = 0) → takeAll w hs r gs = hs
  | [], _, hs, _ => by cases hs <;> simp [takeAll]
  | _ :: _, [], hs, _ => by simp [takeAll]
  | p :: r, g :: gs, hs, h => by
    have : g = 0 := h g (List.mem_cons_self ..)
    subst this
    rw [takeAll, take1_zero, takeAll_zero w r gs hs fun g hg => h g (List.mem_cons_of_mem _ hg)]
/-- something is taken off just where the heights change -/
theorem takes_iff {B : BD} (ok : BOk B) {r : List (Nat × Nat)} (hr : r ∈ B.meets) {hs : List Int} (hl : hs.length = B.heavy.length) : decide (after B.heavy hs r = hs) = !takesOff B.heavy hs r := by
  by_cases h : ∀ p ∈ r, grain B.heavy hs p = 0
  · have e1 : after B.heavy hs r = hs := takeAll_zero _ _ _ _ fun g hg => by
      obtain ⟨p, hp, rfl⟩ := List.mem_map.mp hg
      exact h p hp
    have e2 : takesOff B.heavy hs r = false := by
      unfold takesOff
      rw [List.any_eq_false]
      intro p hp
      simp [h p hp]
    rw [e2, decide_eq_true e1]
    rfl
  · simp only [Classical.not_forall] at h
    obtain ⟨p, hp, hg⟩ := h
    have e2 : takesOff B.heavy hs r = true := by
      unfold takesOff
      rw [List.any_eq_true]
      exact ⟨p, hp, by simp [hg]⟩
    have e1 : after B.heavy hs r ≠ hs := fun e => by
      obtain ⟨i, hi⟩ := List.getElem?_of_mem hp
      have hin := fun q hq => ok.row hr (p := q) hq
      have := (takeAll_at B.heavy r (dust B.heavy hs r) hs i p (grain B.heavy hs p) (ok.disj hr) (fun q hq => by rw [hl]; exact hin q hq) hi (by simp [dust, hi])).1
      unfold after at e
      rw [e] at this
      have w1 := ok.heavy _ (show B.heavy.getD p.2 0 ∈ B.heavy by
        rw [List.getD_eq_getElem?_getD, List.getElem?_eq_getElem (hin p hp).2]
        exact List.getElem_mem _)
      have z : B.heavy.getD p.2 0 * grain B.heavy hs p = 0 := by omega
      rcases Int.mul_eq_zero.mp z with z | z
      · omega
      · exact hg z
    rw [e2, decide_eq_false e1]
    rfl
/-- what stays of a sum -/
theorem tn_left {s b : Int} (hb : 0 < b) : (s - b * tn s b).natAbs < b.natAbs ∧ 0 ≤ (s - b * tn s b) * s := by
  unfold tn
  by_cases h : 0 ≤ s
  · rw [if_pos h]
    have e := Int.emod_add_mul_ediv s b
    have h1 := Int.emod_nonneg s (show b ≠ 0 by omega)
    have h2 := Int.emod_lt_of_pos s hb
    have : s - b * (s / b) = s % b := by omega
    rw [this]
    exact ⟨by omega, Int.mul_nonneg h1 h⟩
  · rw [if_neg h]
    have e := Int.emod_add_mul_ediv (-s) b
    have h1 := Int.emod_nonneg (-s) (show b ≠ 0 by omega)
    have h2 := Int.emod_lt_of_pos (-s) hb
    have : s - b * (-(-s / b)) = -((-s) % b) := by rw [Int.mul_neg]; omega
    rw [this]
    refine ⟨by omega, ?_⟩
    have := Int.mul_nonneg h1 (show 0 ≤ -s by omega)
    rw [Int.mul_neg] at this
    rw [Int.neg_mul]
    exact this
theorem tn_law (s b : Int) : (if 0 < s then (if s < 0 then -s else s) / b else 0 - (if s < 0 then -s else s) / b) = tn s b := by
  unfold tn
  by_cases h : 0 < s
  · rw [if_pos h, if_neg (by omega), if_pos (by omega)]
  · rw [if_neg h]
    by_cases h2 : s < 0
    · rw [if_pos h2, if_neg (by omega)]
      omega
    · have : s = 0 := by omega
      subst this
      simp
end G

namespace G
open PySem PySem.Spec PyProof.Rows L2
local macro_rules | `(tactic| walk_at "lk") => `(tactic| first | assumption | exact rT_at | exact rL_at | exact upd_same | (refine sqT_mono ?_ (by assumption); assumption) | (refine sqL_mono ?_ (by assumption); assumption) | (refine rT_new (by assumption) ?_; walk_at "lk") | (refine rL_new (by assumption) ?_; walk_at "lk") | (refine rH_new (by assumption) ?_; walk_at "lk") | (refine rD_new (by assumption) ?_; walk_at "lk") | (refine dp_mono ?_ (by assumption); assumption))
local macro_rules | `(tactic| walk_at "r1") => `(tactic| first | ((with_reducible show tVar _ _ _ _); refine s_var rfl ?_) | with_reducible refine s_c ?_ | with_reducible refine s_op ?_ | with_reducible refine s_un ?_ | with_reducible refine s_neg ?_ | with_reducible refine s_test ?_ | with_reducible refine s_B ?_ | with_reducible refine s_bl ?_ | with_reducible refine s_not ?_ | with_reducible refine s_yes ?_ | with_reducible refine s_and ?_ | with_reducible refine s_or ?_ | with_reducible refine s_notV ?_ | with_reducible refine s_andV ?_ | with_reducible refine s_orV ?_ | with_reducible refine s_if ?_ | with_reducible refine s_cT ?_ | with_reducible refine s_cF ?_ | with_reducible refine s_nT ?_ | with_reducible refine s_nF ?_ | with_reducible refine s_addI ?_ | with_reducible refine s_eqI ?_ | with_reducible refine s_neI ?_ | with_reducible refine s_eqB ?_ | with_reducible refine s_neB ?_ | with_reducible refine s_I0 ?_ | with_reducible refine s_non ?_ | with_reducible refine s_int ?_ | with_reducible refine s_chain ?_ | with_reducible refine s_cons ?_ | with_reducible refine s_nil ?_ | with_reducible refine s_call ?_ | with_reducible refine s_cb ?_ | with_reducible refine s_meth ?_ | with_reducible refine s_make ?_ | with_reducible refine s_tup ?_ | with_reducible refine s_lst ?_ | with_reducible refine s_bm ?_ | with_reducible refine s_bm0 ?_ | with_reducible refine s_bmT ?_ | with_reducible refine s_fld ?_ | with_reducible refine s_dget ?_ | with_reducible refine s_sl ?_ | with_reducible refine s_part ?_ | with_reducible refine s_nopart ?_ | with_reducible refine s_seq ?_ | with_reducible refine s_next ?_ | with_reducible refine s_asg ?_ | with_reducible refine s_gn ?_ | with_reducible refine s_gc ?_ | with_reducible refine s_g0 ?_ | with_reducible refine s_gs ?_ | with_reducible refine s_ret ?_ | with_reducible refine s_ifS ?_ | with_reducible refine s_drop ?_ | with_reducible refine s_augS ?_ | ((with_reducible show tAug _ _ _ _ _ _); refine s_aug rfl ?_) | with_reducible refine s_ipI ?_ | with_reducible refine s_for ?_ | with_reducible refine s_iseq ?_ | with_reducible refine s_rng1 ?_ | with_reducible refine s_izip ?_ | with_reducible refine s_lc ?_ | with_reducible refine s_lc2 ?_ | with_reducible refine s_lstRg ?_ | with_reducible refine s_rg1 ?_ | with_reducible refine s_sfld ?_ | with_reducible refine s_ienum ?_ | with_reducible refine s_disp ?_ | with_reducible refine s_pc ?_ | with_reducible refine s_pn ?_)
local macro_rules | `(tactic| walk_at "rd") => `(tactic| repeat walk_at "r1")

def topS (i : Nat) : Stmt := PySem.Challenge.pw_groundmatch_k05_what_is_no_dust.main.body.getD i (.Pass ⟨0, 0, 0, 0⟩)
section
variable {P : Program} {w : World} {K : PySem.W.Frag} {mg : Str → Option Value} {base : Heap} {C : Addr}
/-! ### whole numbers -/
abbrev s_is_whole : Stmt := topS 9
abbrev n_is_whole : List Str := ["thing", "low", "high"]
theorem sc_is_whole : FnScope ["thing", "low", "high"] ["thing", "low", "high"] (defScope s_is_whole) := ⟨rfl, rfl, rfl, by decide +kernel, rfl, by decide +kernel, by decide +kernel⟩
def loOk (n : Int) : Option Int → Bool
  | none => true
  | some l => decide (l ≤ n)
def hiOk (n : Int) : Option Int → Bool
  | none => true
  | some h => decide (n ≤ h)
def wholeV (x : V) (lo hi : Option Int) : Bool := match x with
  | .int n => loOk n lo && hiOk n hi
  | _ => false
def oV : Option Int → V
  | none => .non
  | some i => .int i
theorem oV_some (i : Int) : oV (some i) = .int i := rfl
theorem oV_none : oV none = .non := rfl
/-- things whose kind is known -/
def Kn (K : PySem.W.Frag) (H : Hp) (x : V) : Prop := (∃ n, x = .int n) ∨ (∃ b, x = .bl b) ∨ x = .non ∨ (∃ z, x = .str z) ∨ (∃ a xs, x = .ref a ∧ SqL K H a xs) ∨ (∃ a xs, x = .ref a ∧ SqT K H a xs)
theorem isB {K : PySem.W.Frag} {H : Hp} {t : V} {T U : String} {b : Bool} {R : VK} (h1 : TyX K H t (.type T)) (h2 : kitB T U = some b) (h3 : R (.bl b) H) : rIsi K [t, .ty U] H R := s_isi (.ty U) h1 (kit_ty h2) h3
theorem kb_ii : kitB "int" "int" = some true := by decide +kernel
theorem kb_ib : kitB "int" "bool" = some false := by decide +kernel
theorem kb_bi : kitB "bool" "int" = some true := by decide +kernel
theorem kb_bb : kitB "bool" "bool" = some true := by decide +kernel
theorem kb_ni : kitB "NoneType" "int" = some false := by decide +kernel
theorem kb_si : kitB "str" "int" = some false := by decide +kernel
theorem kb_li : kitB "list" "int" = some false := by decide +kernel
theorem kb_ti : kitB "tuple" "int" = some false := by decide +kernel
theorem kb_tt : kitB "tuple" "tuple" = some true := by decide +kernel
theorem kb_ll : kitB "list" "list" = some true := by decide +kernel
theorem kb_it : kitB "int" "tuple" = some false := by decide +kernel
theorem kb_nt : kitB "NoneType" "tuple" = some false := by decide +kernel
theorem kb_st : kitB "str" "tuple" = some false := by decide +kernel
theorem kb_bt : kitB "bool" "tuple" = some false := by decide +kernel
theorem kb_lt : kitB "list" "tuple" = some false := by decide +kernel
def spIsWhole (K : PySem.W.Frag) : Sp := fun vs H Q _ => ∃ x lo hi, vs = [x, oV lo, oV hi] ∧ Kn K H x ∧ Q (.bl (wholeV x lo hi)) H
theorem whole_no {x : V} {lo hi : Option Int} {Q : VK} {H : Hp} (h : ∀ n, x ≠ .int n) (q : Q (.bl (wholeV x lo hi)) H) : Q (.bl false) H := by
  cases x with
  | int n => exact absurd rfl (h n)
  | _ => exact q
theorem ok_is_whole (B : Blt mg) (F : FunAt K mg "is_whole" s_is_whole ["thing", "low", "high"]) : Def P w K mg base 1 "is_whole" ["thing", "low", "high"] (spIsWhole K) := by
  refine F.def (k := 0) sc_is_whole (fun vs H Q E h => ?_) (fun f cdv A outer s H vs Q E hr h => ?_)
  · obtain ⟨x, lo, hi, rfl, _⟩ := h
    rfl
  · obtain ⟨x, lo, hi, rfl, kn, q⟩ := h
    refine ⟨_, (pss_cons (ps_if (PW.pt (pw_or (pt_not (pt_val (pe_callB (k_isi (K := K) rfl) (by rfl) B.isinstance bb_isinstance (pa_cons (pv 0) (pa_cons (pe_bltn (v := .ty "int") (by rfl) B.int bb_int rfl) pa_nil))))) (pw_or1 (pt_val (pe_callB (k_isi (K := K) rfl) (by rfl) B.isinstance bb_isinstance (pa_cons (pv 0) (pa_cons (pe_bltn (v := .ty "bool") (by rfl) B.bool bb_bool rfl) pa_nil))))))) (pss_one (ps_ret pe_bl)) pss_nil) (pss_one (ps_ret (pe_and (pe_or (pe_cmpR op_isN (pv 1) pe_non (nomark _)) (pe_one (pe_cmpR op_le (pv 1) (pv 0) (nomark _)))) (pe_one (pe_or (pe_cmpR op_isN (pv 2) pe_non (nomark _)) (pe_one (pe_cmpR op_le (pv 0) (pv 2) (nomark _))))))))), ?_⟩; refine start_eq (σ' := [some (x), some (oV lo), some (oV hi)]) rfl ?_
    walk_at "rd"
    rcases kn with ⟨n, rfl⟩ | ⟨b, rfl⟩ | rfl | ⟨z, rfl⟩ | ⟨a, xs, rfl, h⟩ | ⟨a, xs, rfl, h⟩
    · refine isB (.base (.int n)) kb_ii ?_
      walk_at "rd"
      refine isB (.base (.int n)) kb_ib ?_
      walk_at "rd"
      have q' : Q (.bl (loOk n lo && hiOk n hi)) H := q
      have fin : ∀ b : Bool, Q (.bl (b && hiOk n hi)) H → if b = true then tOrV (tOp (fun x y H Q => y = V.non ∧ Q (V.bl (decide (x = V.non))) H) (tVar 2) (tC V.non)) (tOp (rI0 fun i j => V.bl (decide (i ≤ j))) (tVar 0) (tVar 2)) [some (.int n), some (oV lo), some (oV hi)] H Q else Q (.bl false) H := fun b qb => by
        refine s_b2 (fun e => ?_) (fun e => ?_)
        · subst e
          walk_at "rd"
          cases hi with
          | none =>
            refine s_dT rfl ?_
            exact qb
          | some m =>
            refine s_dF (by simp [oV]) ?_
            rw [oV_some]
            walk_at "rd"
            rw [Bool.true_and] at qb
            exact qb
        · subst e
          exact qb
      cases lo with
      | none =>
        refine s_dT rfl ?_
        refine s_bl ?_
        exact fin true q'
      | some l =>
        refine s_dF (by simp [oV]) ?_
        rw [oV_some]
        walk_at "rd"
        exact fin _ q'
    · refine isB (.base (.bl b)) kb_bi ?_
      walk_at "rd"
      refine isB (.base (.bl b)) kb_bb ?_
      walk_at "rd"
      exact q
    · refine isB (.base .non) kb_ni ?_
      walk_at "rd"
      exact q
    · refine isB (.base (.str z)) kb_si ?_
      walk_at "rd"
      exact q
    · refine isB (ty_lst h) kb_li ?_
      walk_at "rd"
      exact q
    · refine isB (ty_tup h) kb_ti ?_
      walk_at "rd"
      exact q
abbrev s_towards_nought : Stmt := topS 11
abbrev n_towards_nought : List Str := ["number", "other"]
theorem sc_towards_nought : FnScope ["number", "other"] ["number", "other"] (defScope s_towards_nought) := ⟨rfl, rfl, rfl, by decide +kernel, rfl, by decide +kernel, by decide +kernel⟩
def spTn : Sp := fun vs H Q _ => ∃ s b : Int, vs = [.int s, .int b] ∧ CDivW s b ∧ Q (.int (tn s b)) H
theorem ok_towards_nought (F : FunAt K mg "towards_nought" s_towards_nought ["number", "other"]) : Def P w K mg base 1 "towards_nought" ["number", "other"] spTn := by
  refine F.def (k := 0) sc_towards_nought (fun vs H Q E h => ?_) (fun f cdv A outer s H vs Q E hr h => ?_)
  · obtain ⟨x, lo, rfl, _⟩ := h
    rfl
  · obtain ⟨s, b, rfl, hc, q⟩ := h
    refine ⟨_, (pss_one (ps_ret (pe_ifExp (pt_cmpR op_ge (pv 0) pe_int (nomark _)) (pe_op op_fdivW (pv 0) (pv 1)) (pe_un un_neg (pe_op op_fdivW (pe_un un_neg (pv 0)) (pv 1)))))), ?_⟩; refine start_eq (σ' := [some (.int s), some (.int b)]) rfl ?_
    walk_at "rd"
    refine s_d2 (fun h => ?_) (fun h => ?_)
    · walk_at "rd"
      refine s_I hc ?_
      have : tn s b = s / b := by unfold tn; rw [if_pos h]
      rw [← this]
      exact q
    · walk_at "rd"
      refine s_I ⟨hc.1, hc.2⟩ ?_
      walk_at "rd"
      have : tn s b = -((-s) / b) := by unfold tn; rw [if_neg h]
      rw [← this]
      exact q
abbrev s_are_wholes : Stmt := topS 10
abbrev n_are_wholes : List Str := ["thing", "many", "one"]
theorem sc_are_wholes : FnScope ["thing", "many", "one"] ["thing", "many"] (defScope s_are_wholes) := ⟨rfl, rfl, rfl, by decide +kernel, rfl, by decide +kernel, by decide +kernel⟩
def isInt : V → Bool
  | .int _ => true
  | _ => false
/-- of a tuple of things whose kinds are known; of what is no tuple -/
def spAreWholes (K : PySem.W.Frag) : Sp := fun vs H Q _ => (∃ a m xs, vs = [.ref a, .int m] ∧ SqT K H a xs ∧ xs.length ≤ 1000 ∧ (∀ x ∈ xs, Kn K H x) ∧ ∀ H', Same H H' → Q (.bl (decide ((xs.length : Int) = m) && xs.all isInt)) H') ∨
  (∃ x m, vs = [x, .int m] ∧ ((∃ n, x = .int n) ∨ (∃ b, x = .bl b) ∨ x = .non ∨ (∃ z, x = .str z) ∨ (∃ a xs, x = .ref a ∧ SqL K H a xs)) ∧ Q (.bl false) H)
theorem whole_all {x : V} : wholeV x none none = isInt x := by cases x <;> rfl
theorem ok_are_wholes (B : Blt mg) (d_is_whole : Def P w K mg base 1 "is_whole" ["thing", "low", "high"] (spIsWhole K)) (F : FunAt K mg "are_wholes" s_are_wholes ["thing", "many"]) : Def P w K mg base 2 "are_wholes" ["thing", "many"] (spAreWholes K) := by
  refine F.def (k := 1) sc_are_wholes (fun vs H Q E h => ?_) (fun f cdv A outer s H vs Q E hr h => ?_)
  · rcases h with ⟨a, m, xs, rfl, _⟩ | ⟨x, m, rfl, _⟩
    · rfl
    · rfl
  · rcases h with ⟨a, m, xs, rfl, ht, hl, hk, q⟩ | ⟨x, m, rfl, hx, q⟩
    · refine ⟨_, (pss_one (ps_ret (pe_and (pe_callB (k_isi (K := K) rfl) (by rfl) B.isinstance bb_isinstance (pa_cons (pv 0) (pa_cons (pe_bltn (v := .ty "tuple") (by rfl) B.tuple bb_tuple rfl) pa_nil))) (pe_and (pe_cmpR (k_eq (K := K) rfl hr.units) (pe_callB (k_len (K := K) rfl) (by rfl) B.len bb_len (pa_cons (pv 0) pa_nil)) (pv 1) (nomark _)) (pe_one (pe_callB (k_all (K := K) rfl rfl) (by rfl) B.all bb_all (pa_cons (pe_lc (own := [("one", 2)]) rfl sc_are_wholes.nd (k_seq (K := K) rfl (pv 0)) (blkOk_by (own := [("one", 2)]) (N := n_are_wholes) (sc := defScope s_are_wholes) (by decide +kernel)) (fun _ _ _ _ _ => (pg_name (i := 2) sc_are_wholes.nd rfl (Or.inl rfl))) (fun _ _ _ _ _ => pts_nil) (fun _ _ _ _ _ => (pe_d d_is_whole (hr.mono (by decide)) (by rfl) (pa_cons (pv 2) (pa_cons pe_non (pa_cons pe_non pa_nil)))))) pa_nil))))))), ?_⟩; refine start_eq (σ' := [some (.ref a), some (.int m), none]) rfl ?_
      walk_at "rd"
      refine isB (ty_tup ht) kb_tt ?_
      walk_at "rd"
      refine s_lenT ht ?_
      walk_at "rd"
      refine s_d2 (fun e => ?_) (fun e => ?_)
      · walk_at "rd"
        refine .inr ⟨_, rfl, ⟨_, ht⟩, ?_⟩
        refine lc_map walk_tup (F := H) (Same.refl H) (by omega) (fun H' e' => sqT_mono e' ht) (fun i _ v => ∃ x, xs[i]? = some x ∧ v = .bl (isInt x)) (fun _ _ _ _ _ h => h) (fun i x F' H1 H2 D Z hi ex _ _ hy hz => ?_) (fun D ys F' H' hD ex hd hlen hR => ?_)
        · obtain ⟨rfl, hx⟩ := hy
          walk_at "rd"
          refine ⟨rfl, ?_⟩
          walk_at "rd"
          refine ⟨x, none, none, rfl, ?_, ?_⟩
          · have := hk x (List.mem_of_getElem? hx)
            rcases this with h | h | h | h | ⟨b, ys, h1, h2⟩ | ⟨b, ys, h1, h2⟩
            · exact .inl h
            · exact .inr (.inl h)
            · exact .inr (.inr (.inl h))
            · exact .inr (.inr (.inr (.inl h)))
            · exact .inr (.inr (.inr (.inr (.inl ⟨b, ys, h1, sqL_mono ex.hh h2⟩))))
            · exact .inr (.inr (.inr (.inr (.inr ⟨b, ys, h1, sqT_mono ex.hh h2⟩))))
          · exact hz _ F' _ (Ext.refl ex.fh) ⟨x, hx, by rw [whole_all]⟩
        · walk_at "rd"
          have hys : ys = (xs.map isInt).map V.bl := by
            refine List.ext_getElem? fun i => ?_
            cases hv : ys[i]? with
            | none =>
              have : ys.length ≤ i := List.getElem?_eq_none_iff.mp hv
              rw [List.getElem?_eq_none (by simp; omega)]
            | some v =>
              obtain ⟨x, h1, rfl⟩ := hR i v hv
              simp [h1]
          refine s_all (bs := xs.map isInt) (.inl (.inl ?_)) ?_
          · rw [← hys]
            exact ex.fh _ _ hd
          · have := q H' ex.hh
            rw [decide_eq_true e, Bool.true_and] at this
            rw [List.all_map]
            exact this
      · have := q H (Same.refl H)
        rw [decide_eq_false e] at this
        exact this
    · refine ⟨_, (pss_one (ps_ret (pe_and (pe_callB (k_isi (K := K) rfl) (by rfl) B.isinstance bb_isinstance (pa_cons (pv 0) (pa_cons (pe_bltn (v := .ty "tuple") (by rfl) B.tuple bb_tuple rfl) pa_nil))) (pe_and (pe_cmpR (k_eq (K := K) rfl hr.units) (pe_callB (k_len (K := K) rfl) (by rfl) B.len bb_len (pa_cons (pv 0) pa_nil)) (pv 1) (nomark _)) (pe_one (pe_callB (k_all (K := K) rfl rfl) (by rfl) B.all bb_all (pa_cons (pe_lc (own := [("one", 2)]) rfl sc_are_wholes.nd (k_seq (K := K) rfl (pv 0)) (blkOk_by (own := [("one", 2)]) (N := n_are_wholes) (sc := defScope s_are_wholes) (by decide +kernel)) (fun _ _ _ _ _ => (pg_name (i := 2) sc_are_wholes.nd rfl (Or.inl rfl))) (fun _ _ _ _ _ => pts_nil) (fun _ _ _ _ _ => (pe_d d_is_whole (hr.mono (by decide)) (by rfl) (pa_cons (pv 2) (pa_cons pe_non (pa_cons pe_non pa_nil)))))) pa_nil))))))), ?_⟩; refine start_eq (σ' := [some (x), some (.int m), none]) rfl ?_
      walk_at "rd"
      rcases hx with ⟨n, rfl⟩ | ⟨b, rfl⟩ | rfl | ⟨z, rfl⟩ | ⟨a, xs, rfl, h⟩
      · refine isB (.base (.int n)) kb_it ?_
        walk_at "rd"
        exact q
      · refine isB (.base (.bl b)) kb_bt ?_
        walk_at "rd"
        exact q
      · refine isB (.base .non) kb_nt ?_
        walk_at "rd"
        exact q
      · refine isB (.base (.str z)) kb_st ?_
        walk_at "rd"
        exact q
      · refine isB (ty_lst h) kb_lt ?_
        walk_at "rd"
        exact q
end
end G

namespace G
open PySem PySem.Spec PyProof.Rows L2
local macro_rules | `(tactic| walk_at "lk") => `(tactic| first | assumption | exact rT_at | exact rL_at | exact upd_same | (refine sqT_mono ?_ (by assumption); assumption) | (refine sqL_mono ?_ (by assumption); assumption) | (refine rT_new (by assumption) ?_; walk_at "lk") | (refine rL_new (by assumption) ?_; walk_at "lk") | (refine rH_new (by assumption) ?_; walk_at "lk") | (refine rD_new (by assumption) ?_; walk_at "lk") | (refine dp_mono ?_ (by assumption); assumption))
local macro_rules | `(tactic| walk_at "r1") => `(tactic| first | ((with_reducible show tVar _ _ _ _); refine s_var rfl ?_) | with_reducible refine s_c ?_ | with_reducible refine s_op ?_ | with_reducible refine s_un ?_ | with_reducible refine s_neg ?_ | with_reducible refine s_test ?_ | with_reducible refine s_B ?_ | with_reducible refine s_bl ?_ | with_reducible refine s_not ?_ | with_reducible refine s_yes ?_ | with_reducible refine s_and ?_ | with_reducible refine s_or ?_ | with_reducible refine s_notV ?_ | with_reducible refine s_andV ?_ | with_reducible refine s_orV ?_ | with_reducible refine s_if ?_ | with_reducible refine s_cT ?_ | with_reducible refine s_cF ?_ | with_reducible refine s_nT ?_ | with_reducible refine s_nF ?_ | with_reducible refine s_addI ?_ | with_reducible refine s_eqI ?_ | with_reducible refine s_neI ?_ | with_reducible refine s_eqB ?_ | with_reducible refine s_neB ?_ | with_reducible refine s_I0 ?_ | with_reducible refine s_non ?_ | with_reducible refine s_int ?_ | with_reducible refine s_chain ?_ | with_reducible refine s_cons ?_ | with_reducible refine s_nil ?_ | with_reducible refine s_call ?_ | with_reducible refine s_cb ?_ | with_reducible refine s_meth ?_ | with_reducible refine s_make ?_ | with_reducible refine s_tup ?_ | with_reducible refine s_lst ?_ | with_reducible refine s_bm ?_ | with_reducible refine s_bm0 ?_ | with_reducible refine s_bmT ?_ | with_reducible refine s_fld ?_ | with_reducible refine s_dget ?_ | with_reducible refine s_sl ?_ | with_reducible refine s_part ?_ | with_reducible refine s_nopart ?_ | with_reducible refine s_seq ?_ | with_reducible refine s_next ?_ | with_reducible refine s_asg ?_ | with_reducible refine s_gn ?_ | with_reducible refine s_gc ?_ | with_reducible refine s_g0 ?_ | with_reducible refine s_gs ?_ | with_reducible refine s_ret ?_ | with_reducible refine s_ifS ?_ | with_reducible refine s_drop ?_ | with_reducible refine s_augS ?_ | ((with_reducible show tAug _ _ _ _ _ _); refine s_aug rfl ?_) | with_reducible refine s_ipI ?_ | with_reducible refine s_for ?_ | with_reducible refine s_iseq ?_ | with_reducible refine s_rng1 ?_ | with_reducible refine s_izip ?_ | with_reducible refine s_lc ?_ | with_reducible refine s_lc2 ?_ | with_reducible refine s_lstRg ?_ | with_reducible refine s_rg1 ?_ | with_reducible refine s_sfld ?_ | with_reducible refine s_ienum ?_ | with_reducible refine s_disp ?_ | with_reducible refine s_pc ?_ | with_reducible refine s_pn ?_)
local macro_rules | `(tactic| walk_at "rd") => `(tactic| repeat walk_at "r1")

section
variable {P : Program} {w : World} {K : PySem.W.Frag} {mg : Str → Option Value} {base : Heap} {C : Addr}
/-! ### grinding -/
abbrev s_Bench_pair_weights : Stmt := inClass (topS 26) 15
abbrev n_Bench_pair_weights : List Str := ["self", "pair"]
theorem sc_Bench_pair_weights : FnScope ["self", "pair"] ["self", "pair"] (defScope s_Bench_pair_weights) := ⟨rfl, rfl, rfl, by decide +kernel, rfl, by decide +kernel, by decide +kernel⟩
def spPW (K : PySem.W.Frag) (C : Addr) : Sp := fun vs H Q _ => ∃ b B p, ∃ u v : Nat, vs = [.ref b, .ref p] ∧ BenchAt K C H b B ∧ SqT K H p [.int u, .int v] ∧ u < B.heavy.length ∧ v < B.heavy.length ∧
  ∀ q, H q = none → Q (.ref q) (upd H q (.tup [.int (B.heavy.getD u 0), .int (B.heavy.getD v 0)]))
theorem ok_pair_weights (T : Txt K mg C) (F : MethAt K C "pair_weights" "Bench.pair_weights" s_Bench_pair_weights ["self", "pair"]) : DefM P w K mg base 1 C "pair_weights" ["self", "pair"] (spPW K C) := by
  refine F.def (k := 0) sc_Bench_pair_weights (fun vs H Q E h => ?_) (fun f cdv A outer s H vs Q E hr h => ?_)
  · obtain ⟨b, B, p, u, v, rfl, _⟩ := h
    rfl
  · obtain ⟨b, B, p, u, v, rfl, hB, hp, hu, hv, q⟩ := h
    obtain ⟨dx, l1, l2, l3, l4, hb, h1, h2, h3, h4⟩ := hB.ex
    refine ⟨_, (pss_one (ps_ret (pe_tup (pa_cons (pe_ix (k_ix (K := K) rfl) (k_fld (K := K) rfl (pv 0) rfl) (pe_ix (k_ix (K := K) rfl) (pv 1) pe_int (fun _ _ => rfl)) (fun _ _ => rfl)) (pa_cons (pe_ix (k_ix (K := K) rfl) (k_fld (K := K) rfl (pv 0) rfl) (pe_ix (k_ix (K := K) rfl) (pv 1) pe_int (fun _ _ => rfl)) (fun _ _ => rfl)) pa_nil))))), ?_⟩; refine start_eq (σ' := [some (.ref b), some (.ref p)]) rfl ?_
    walk_at "rd"
    refine ⟨_, _, _, _, _, rfl, hb, T.cl, T.n_heavy, fl_heavy, ?_⟩
    walk_at "rd"
    refine s_ixT hp rfl ?_
    refine s_ixL h3 (at_int hu) ?_
    walk_at "rd"
    refine ⟨_, _, _, _, _, rfl, hb, T.cl, T.n_heavy, fl_heavy, ?_⟩
    walk_at "rd"
    refine s_ixT hp rfl ?_
    refine s_ixL h3 (at_int hv) ?_
    walk_at "rd"
    exact ⟨by show 2 ≤ sizeLine; decide, q⟩
abbrev s_grains_at : Stmt := topS 13
abbrev n_grains_at : List Str := ["bench", "stand", "pair"]
theorem sc_grains_at : FnScope ["bench", "stand", "pair"] ["bench", "stand", "pair"] (defScope s_grains_at) := ⟨rfl, rfl, rfl, by decide +kernel, rfl, by decide +kernel, by decide +kernel⟩
def spGrains (K : PySem.W.Frag) (C : Addr) : Sp := fun vs H Q _ => ∃ b B s hs p, ∃ u v : Nat, vs = [.ref b, .ref s, .ref p] ∧ BOk B ∧ BenchAt K C H b B ∧ SqT K H s (hs.map V.int) ∧ hs.length = B.heavy.length ∧ SqT K H p [.int u, .int v] ∧ u < B.heavy.length ∧ v < B.heavy.length ∧
  ∀ H', Same H H' → Q (.int (grain B.heavy hs (u, v))) H'
theorem getD_mem {l : List Int} {i : Nat} (h : i < l.length) : l.getD i 0 ∈ l := by
  rw [List.getD_eq_getElem?_getD, List.getElem?_eq_getElem h]
  exact List.getElem_mem _
theorem BOk.w9 {B : BD} (h : BOk B) {u : Nat} (hu : u < B.heavy.length) : 1 ≤ B.heavy.getD u 0 ∧ B.heavy.getD u 0 ≤ 9 := h.heavy _ (getD_mem hu)
theorem div_small {s b : Int} (h1 : 0 < b) (h2 : b ≤ 1000000) : CDivW s b := wide_div (b := 20) h1 (by omega) (by decide) (by decide)
theorem ok_grains_at (B0 : Blt mg) (T : Txt K mg C) (d_Bench_pair_weights : DefM P w K mg base 1 C "pair_weights" ["self", "pair"] (spPW K C)) (d_towards_nought : Def P w K mg base 1 "towards_nought" ["number", "other"] spTn)
    (F : FunAt K mg "grains_at" s_grains_at ["bench", "stand", "pair"]) : Def P w K mg base 2 "grains_at" ["bench", "stand", "pair"] (spGrains K C) := by
  refine F.def (k := 1) sc_grains_at (fun vs H Q E h => ?_) (fun f cdv A outer s H vs Q E hr h => ?_)
  · obtain ⟨b, B, s, hs, p, u, v, rfl, _⟩ := h
    rfl
  · obtain ⟨b, B, st, hs, p, u, v, rfl, ok, hB, hst, hl, hp, hu, hv, q⟩ := h
    obtain ⟨dx, l1, l2, l3, l4, hb, h1, h2, h3, h4⟩ := hB.ex
    have B := B0
    refine ⟨_, (pss_one (ps_ret (pe_d d_towards_nought (hr.mono (by decide)) (by rfl) (pa_cons (pe_op (k_add (K := K) rfl) (pe_ix (k_ix (K := K) rfl) (pv 1) (pe_ix (k_ix (K := K) rfl) (pv 2) pe_int (fun _ _ => rfl)) (fun _ _ => rfl)) (pe_ix (k_ix (K := K) rfl) (pv 1) (pe_ix (k_ix (K := K) rfl) (pv 2) pe_int (fun _ _ => rfl)) (fun _ _ => rfl))) (pa_cons (pe_callB (k_sum (K := K) rfl rfl) (by rfl) B.sum bb_sum (pa_cons (pe_dm d_Bench_pair_weights (hr.mono (by decide)) T.cl (pv 0) (pa_cons (pv 2) pa_nil)) pa_nil)) pa_nil))))), ?_⟩; refine start_eq (σ' := [some (.ref b), some (.ref st), some (.ref p)]) rfl ?_
    walk_at "rd"
    refine s_ixT hp rfl ?_
    refine s_ixT hst (at_int (by omega)) ?_
    walk_at "rd"
    refine s_ixT hp rfl ?_
    refine s_ixT hst (at_int (by omega)) ?_
    walk_at "rd"
    refine ⟨_, _, _, rfl, hb, rfl, ?_⟩
    walk_at "rd"
    refine ⟨b, _, p, u, v, rfl, hB, hp, hu, hv, fun t ht => ?_⟩
    walk_at "rd"
    refine s_sumT (ns := [_, _]) rT_at ?_
    walk_at "rd"
    have w1 := ok.w9 hu
    have w2 := ok.w9 hv
    refine ⟨_, _, rfl, div_small (by simp only [List.sum_cons, List.sum_nil]; omega) (by simp only [List.sum_cons, List.sum_nil]; omega), ?_⟩
    simp only [List.sum_cons, List.sum_nil, Int.add_zero]
    exact q _ (same_upd ht)
abbrev s_dust_of : Stmt := topS 14
abbrev n_dust_of : List Str := ["bench", "stand", "number", "pair"]
theorem sc_dust_of : FnScope ["bench", "stand", "number", "pair"] ["bench", "stand", "number"] (defScope s_dust_of) := ⟨rfl, rfl, rfl, by decide +kernel, rfl, by decide +kernel, by decide +kernel⟩
/-- the bench, a stand, a grinding's number: what the functions of grinding are handed -/
structure GA (K : PySem.W.Frag) (C : Addr) (H : Hp) (b s : Addr) (B : BD) (hs : List Int) (r : List (Nat × Nat)) (k : Nat) : Prop where
  ok : BOk B
  bench : BenchAt K C H b B
  stand : SqT K H s (hs.map V.int)
  len : hs.length = B.heavy.length
  row : B.meets[k]? = some r
theorem GA.mono {H H' : Hp} {b s : Addr} {B : BD} {hs : List Int} {r : List (Nat × Nat)} {k : Nat} (e : Same H H') (h : GA K C H b s B hs r k) : GA K C H' b s B hs r k := ⟨h.ok, h.bench.mono e, sqT_mono e h.stand, h.len, h.row⟩
theorem GA.mem {H : Hp} {b s : Addr} {B : BD} {hs : List Int} {r : List (Nat × Nat)} {k : Nat} (h : GA K C H b s B hs r k) : r ∈ B.meets := List.mem_of_getElem? h.row
def spDust (K : PySem.W.Frag) (C : Addr) : Sp := fun vs H Q _ => ∃ b B s hs r k, vs = [.ref b, .ref s, .int (k : Nat)] ∧ GA K C H b s B hs r k ∧
  ∀ H' p, Same H H' → H p = none → H' p = some (.tup ((dust B.heavy hs r).map V.int)) → Q (.ref p) H'
theorem meets_at {H : Hp} {l4 : Addr} {B : BD} {k : Nat} {r : List (Nat × Nat)} (h4 : Dp K H (.ref l4) (.list (B.meets.map fun r => .list (r.map pD)))) (hk : B.meets[k]? = some r) : ∃ xs a ys, SqL K H l4 xs ∧ atI xs (k : Int) = some (.ref a) ∧ SqL K H a ys ∧ DpAll K H ys (r.map pD) := by
  obtain ⟨xs, e1, e2⟩ := dp_list h4
  obtain ⟨v, e3, e4⟩ := dpAll_get (i := k) e2 (by rw [List.getElem?_map, hk]; rfl)
  obtain ⟨a, ys, rfl, e5, e6⟩ := dp_refL e4
  exact ⟨xs, a, ys, e1, atI_nat e3, e5, e6⟩
theorem ok_dust_of (B0 : Blt mg) (T : Txt K mg C) (d_grains_at : Def P w K mg base 2 "grains_at" ["bench", "stand", "pair"] (spGrains K C)) (F : FunAt K mg "dust_of" s_dust_of ["bench", "stand", "number"]) : Def P w K mg base 3 "dust_of" ["bench", "stand", "number"] (spDust K C) := by
  refine F.def (k := 2) sc_dust_of (fun vs H Q E h => ?_) (fun f cdv A outer s H vs Q E hr h => ?_)
  · obtain ⟨b, B, s, hs, r, k, rfl, _⟩ := h
    rfl
  · obtain ⟨b, B1, st, hs, r, k, rfl, g, q⟩ := h
    obtain ⟨dx, l1, l2, l3, l4, hb, h1, h2, h3, h4⟩ := g.bench.ex
    obtain ⟨xs, a, ys, e1, e2, e3, e4⟩ := meets_at h4 g.row
    have B := B0
    have ylen : ys.length = r.length := by rw [dpAll_len e4, List.length_map]
    have rlen := g.ok.row_len g.mem
    have pl := g.ok.places
    refine ⟨_, (pss_one (ps_ret (pe_callTy (k_tuple (K := K) rfl) (by rfl) B.tuple bb_tuple (pa_cons (pe_lc (own := [("pair", 3)]) rfl sc_dust_of.nd (k_seq (K := K) rfl (pe_ix (k_ix (K := K) rfl) (k_fld (K := K) rfl (pv 0) rfl) (pv 2) (fun _ _ => rfl))) (blkOk_by (own := [("pair", 3)]) (N := n_dust_of) (sc := defScope s_dust_of) (by decide +kernel)) (fun _ _ _ _ _ => (pg_name (i := 3) sc_dust_of.nd rfl (Or.inl rfl))) (fun _ _ _ _ _ => pts_nil) (fun _ _ _ _ _ => (pe_d d_grains_at (hr.mono (by decide)) (by rfl) (pa_cons (pv 0) (pa_cons (pv 1) (pa_cons (pv 3) pa_nil)))))) pa_nil)))), ?_⟩; refine start_eq (σ' := [some (.ref b), some (.ref st), some (.int k), none]) rfl ?_
    walk_at "rd"
    refine ⟨_, _, _, _, _, rfl, hb, T.cl, T.n_meets, fl_meets, ?_⟩
    walk_at "rd"
    refine s_ixL e1 e2 ?_
    refine .inl ⟨_, rfl, ⟨_, e3⟩, ?_⟩
    refine lc_map (walk_list (xs := ys)) (F := H) (Same.refl H) (by omega) (fun H' e' => sqL_mono e' e3) (fun i _ v => ∃ p, r[i]? = some p ∧ v = .int (grain B1.heavy hs p)) (fun _ _ _ _ _ h => h) (fun i x F' H1 H2 D Z hi ex _ _ hy hz => ?_) (fun D zs F' H' hD ex hd hlen hR => ?_)
    · obtain ⟨rfl, hx⟩ := hy
      have hir : i < r.length := by omega
      have hri : r[i]? = some r[i] := List.getElem?_eq_getElem hir
      obtain ⟨v, hv, dv⟩ := dpAll_get (i := i) e4 (by rw [List.getElem?_map, hri]; rfl)
      rw [hx] at hv
      cases hv
      obtain ⟨c, rfl, hc⟩ := pD_at dv
      have hin := g.ok.row g.mem (List.getElem_mem hir)
      walk_at "rd"
      refine ⟨rfl, ?_⟩
      walk_at "rd"
      refine ⟨b, B1, st, hs, c, r[i].1, r[i].2, rfl, g.ok, g.bench.mono ex.hh, sqT_mono ex.hh g.stand, g.len, sqT_mono ex.hh hc, hin.1, hin.2, fun H' e' => ?_⟩
      exact hz _ F' H' ⟨e', Same.refl _, ex.fh.trans e', fun _ _ h => h⟩ ⟨r[i], hri, rfl⟩
    · have hys : zs = (dust B1.heavy hs r).map V.int := by
        refine List.ext_getElem? fun i => ?_
        cases hv : zs[i]? with
        | none =>
          have : zs.length ≤ i := List.getElem?_eq_none_iff.mp hv
          rw [List.getElem?_eq_none (by simp [dust]; omega)]
        | some v =>
          obtain ⟨x, h1, rfl⟩ := hR i v hv
          simp [dust, h1]
      subst hys
      walk_at "rd"
      refine s_tupleL (.inl (.inl (ex.fh _ _ hd))) fun p hp => ?_
      exact q _ p (ex.hh.trans (same_upd hp)) (ex.hh.free hp) upd_same
abbrev s_taken : Stmt := topS 15
abbrev n_taken : List Str := ["bench", "stand", "pairs", "dust", "heights", "spot", "other", "grains", "mine", "its"]
theorem sc_taken : FnScope ["bench", "stand", "pairs", "dust", "heights", "spot", "other", "grains", "mine", "its"] ["bench", "stand", "pairs", "dust"] (defScope s_taken) := ⟨rfl, rfl, rfl, by decide +kernel, rfl, by decide +kernel, by decide +kernel⟩
def spTaken (K : PySem.W.Frag) (C : Addr) : Sp := fun vs H Q _ => ∃ b B s hs pa d, ∃ (r : List (Nat × Nat)) (gs : List Int), vs = [.ref b, .ref s, .ref pa, .ref d] ∧ BOk B ∧ BenchAt K C H b B ∧ SqT K H s (hs.map V.int) ∧ hs.length = B.heavy.length ∧
  Dp K H (.ref pa) (.list (r.map pD)) ∧ (∀ p ∈ r, p.1 < B.heavy.length ∧ p.2 < B.heavy.length) ∧ r.length ≤ 1000 ∧ SqT K H d (gs.map V.int) ∧ gs.length = r.length ∧
  ∀ H' p, Same H H' → H p = none → H' p = some (.tup ((takeAll B.heavy hs r gs).map V.int)) → Q (.ref p) H'
theorem takeAll_take (w : List Int) : ∀ (r : List (Nat × Nat)) (gs hs : List Int) (i : Nat) (p : Nat × Nat) (g : Int), r[i]? = some p → gs[i]? = some g → takeAll w hs (r.take (i + 1)) (gs.take (i + 1)) = take1 w (takeAll w hs (r.take i) (gs.take i)) p g
  | [], _, _, _, _, _, h, _ => by simp at h
  | _ :: _, [], _, _, _, _, _, h => by simp at h
  | q :: r, g' :: gs, hs, 0, p, g, h1, h2 => by
    have e1 : q = p := by simpa using h1
    have e2 : g' = g := by simpa using h2
    subst e1 e2
    simp [takeAll]
  | q :: r, g' :: gs, hs, i + 1, p, g, h1, h2 => by
    have := takeAll_take w r gs (take1 w hs q g') i p g (by simpa using h1) (by simpa using h2)
    simpa [takeAll] using this
theorem ok_taken (B0 : Blt mg) (T : Txt K mg C) (d_Bench_pair_weights : DefM P w K mg base 1 C "pair_weights" ["self", "pair"] (spPW K C)) (F : FunAt K mg "taken" s_taken ["bench", "stand", "pairs", "dust"]) : Def P w K mg base 2 "taken" ["bench", "stand", "pairs", "dust"] (spTaken K C) := by
  refine F.def (k := 1) sc_taken (fun vs H Q E h => ?_) (fun f cdv A outer s H vs Q E hr h => ?_)
  · obtain ⟨b, B, s, hs, pa, d, r, gs, rfl, _⟩ := h
    rfl
  · obtain ⟨b, B1, st, hs, pa, d, r, gs, rfl, ok, hB, hst, hl, hpa, hin, hrl, hd, hgl, q⟩ := h
    obtain ⟨dx, l1, l2, l3, l4, hb, h1, h2, h3, h4⟩ := hB.ex
    obtain ⟨ps, e1, e2⟩ := dp_list hpa
    have plen : ps.length = r.length := by rw [dpAll_len e2, List.length_map]
    have B := B0
    refine ⟨_, (pss_cons (ps_set (i := 4) sc_taken.nd rfl (Or.inl rfl) (pe_callTy (k_list (K := K) rfl) (by rfl) B.list bb_list (pa_cons (pv 1) pa_nil))) (pss_cons (ps_for PassesOwn.never rfl (k_zip (K := K) rfl (by rfl) B.zip (pa_cons (pv 2) (pa_cons (pv 3) pa_nil))) (k_tup (K := K) (n := 2) rfl rfl (pgs_cons (k_tup (K := K) (n := 2) rfl rfl (pgs_cons (pg_name (i := 5) sc_taken.nd rfl (Or.inl rfl)) (pgs_cons (pg_name (i := 6) sc_taken.nd rfl (Or.inl rfl)) pgs_nil))) (pgs_cons (pg_name (i := 7) sc_taken.nd rfl (Or.inl rfl)) pgs_nil))) (pss_cons (ps_asg (pe_dm d_Bench_pair_weights (hr.mono (by decide)) T.cl (pv 0) (pa_cons (pe_tup (pa_cons (pv 5) (pa_cons (pv 6) pa_nil))) pa_nil)) (k_tup (K := K) (n := 2) rfl rfl (pgs_cons (pg_name (i := 8) sc_taken.nd rfl (Or.inl rfl)) (pgs_cons (pg_name (i := 9) sc_taken.nd rfl (Or.inl rfl)) pgs_nil)))) (pss_cons (ps_augS (pv 4) (pv 5) (k_getL (K := K) rfl) (pe_op opMulU (pv 9) (pv 7)) ip_sub set_list) (pss_one (ps_augS (pv 4) (pv 6) (k_getL (K := K) rfl) (pe_op opMulU (pv 8) (pv 7)) ip_sub set_list))))) (pss_one (ps_ret (pe_callTy (k_tuple (K := K) rfl) (by rfl) B.tuple bb_tuple (pa_cons (pv 4) pa_nil)))))), ?_⟩; refine start_eq (σ' := [some (.ref b), some (.ref st), some (.ref pa), some (.ref d), none, none, none, none, none, none]) rfl ?_
    walk_at "rd"
    refine s_listT hst fun l nl => ?_
    walk_at "rd"
    have s1 : Same H (upd H l (.lst (hs.map V.int))) := same_upd nl
    refine ⟨true, false, pa, d, ps, gs.map V.int, rfl, sqL_mono s1 e1, sqT_mono s1 hd, ?_⟩
    refine for_w (walk_zipM (n := r.length) (xs := ps) (ys := gs.map V.int) (by rw [plen, List.length_map, hgl]; simp)) (fun i σ H2 => ∃ y5 y6 y7 y8 y9, σ = [some (.ref b), some (.ref st), some (.ref pa), some (.ref d), some (.ref l), y5, y6, y7, y8, y9] ∧ Same H H2 ∧ H2 l = some (.lst ((takeAll B1.heavy hs (r.take i) (gs.take i)).map V.int))) ?_ ?_ ?_ ?_
    · exact ⟨none, none, none, none, none, rfl, s1, by rw [upd_same]; simp [takeAll]⟩
    · rintro i σ H2 _ ⟨_, _, _, _, _, rfl, e, _⟩
      exact ⟨sqL_mono e e1, sqT_mono e hd⟩
    · rintro i x σ H2 H3 hi ⟨y5, y6, y7, y8, y9, rfl, e, hlst⟩ ⟨Tp, x1, x2, rfl, nT, rfl, g1, g2⟩
      have g1 : ps[i]? = some x1 := g1
      have g2 : (gs.map V.int)[i]? = some x2 := g2
      have hri : r[i]? = some r[i] := List.getElem?_eq_getElem hi
      have hgi : gs[i]? = some gs[i] := List.getElem?_eq_getElem (by omega)
      obtain ⟨v, hv, dv⟩ := dpAll_get (i := i) e2 (by rw [List.getElem?_map, hri]; rfl)
      rw [g1] at hv
      cases hv
      obtain ⟨c, rfl, hc⟩ := pD_at dv
      have hx2 : x2 = .int gs[i] := by
        rw [List.getElem?_map, hgi] at g2
        exact (Option.some.inj g2).symm
      subst hx2
      obtain ⟨i1, i2⟩ := hin _ (List.getElem_mem hi)
      generalize hu : r[i].1 = u at *
      generalize hv : r[i].2 = v at *
      have ne1 : l ≠ Tp := ne_of_none hlst nT
      have s2 : Same H (upd H2 Tp (.tup [.ref c, .int gs[i]])) := e.trans (same_upd nT)
      generalize hH3 : upd H2 Tp (.tup [.ref c, .int gs[i]]) = H3 at *
      have hT3 : SqT K H3 Tp [.ref c, .int gs[i]] := by rw [← hH3]; exact rT_at
      have hl3 : H3 l = some (.lst ((takeAll B1.heavy hs (r.take i) (gs.take i)).map V.int)) := by rw [← hH3, upd_ne ne1]; exact hlst
      refine s_gt hT3 rfl ?_
      walk_at "rd"
      refine s_gt (sqT_mono s2 hc) rfl ?_
      walk_at "rd"
      refine ⟨_, _, _, rfl, s2 _ _ hb, rfl, ?_⟩
      walk_at "rd"
      refine ⟨by show 2 ≤ sizeLine; decide, fun t ht => ?_⟩
      have s3 := s2.trans (same_upd (o := .tup [.int u, .int v]) ht)
      walk_at "rd"
      refine ⟨b, B1, t, u, v, rfl, hB.mono s3, rT_at, i1, i2, fun t2 ht2 => ?_⟩
      have s4 := s3.trans (same_upd (o := .tup [.int (B1.heavy.getD u 0), .int (B1.heavy.getD v 0)]) ht2)
      have hl4 : (upd (upd H3 t (.tup [.int u, .int v])) t2 (.tup [.int (B1.heavy.getD u 0), .int (B1.heavy.getD v 0)])) l = some (.lst ((takeAll B1.heavy hs (r.take i) (gs.take i)).map V.int)) := rH_new ht2 (rH_new ht hl3)
      refine s_gt rT_at rfl ?_
      generalize upd (upd H3 t (.tup [.int u, .int v])) t2 (.tup [.int (B1.heavy.getD u 0), .int (B1.heavy.getD v 0)]) = H5 at *
      have tl := takeAll_len B1.heavy hs (r.take i) (gs.take i)
      generalize hT : takeAll B1.heavy hs (r.take i) (gs.take i) = hs5 at *
      have w1 := ok.w9 i1
      have w2 := ok.w9 i2
      walk_at "rd"
      refine s_getL (.inl (.inl hl4)) (at_int (by omega)) ?_
      walk_at "rd"
      refine s_mulI (.inl ⟨by omega, by omega⟩) ?_
      walk_at "rd"
      refine s_setL hl4 (ix_int (by simp; omega)) ?_
      walk_at "rd"
      refine s_getL rL_at (by rw [set_map]; exact at_int (by simp; omega)) ?_
      walk_at "rd"
      refine s_mulI (.inl ⟨by omega, by omega⟩) ?_
      walk_at "rd"
      refine s_setL upd_same (ix_int (by simp; omega)) ?_
      rw [upd_upd]
      refine ⟨_, _, _, _, _, rfl, fun b o hbo => ?_, ?_⟩
      · have : b ≠ l := ne_of_none hbo nl
        rw [upd_ne this]
        exact s4 b o hbo
      · rw [upd_same, takeAll_take B1.heavy r gs hs i r[i] gs[i] hri hgi, hT, set_map, set_map]
        simp only [take1, hu, hv]
    · rintro σ H2 ⟨y5, y6, y7, y8, y9, rfl, e, hlst⟩
      rw [List.take_of_length_le (Nat.le_refl _), List.take_of_length_le (by omega)] at hlst
      walk_at "rd"
      refine s_tupleL (.inl (.inl hlst)) fun p hp => ?_
      exact q _ p (e.trans (same_upd hp)) (e.free hp) upd_same
end
end G

namespace G
open PySem PySem.Spec PyProof.Rows L2
local macro_rules | `(tactic| walk_at "lk") => `(tactic| first | assumption | exact rT_at | exact rL_at | exact upd_same | (refine sqT_mono ?_ (by assumption); assumption) | (refine sqL_mono ?_ (by assumption); assumption) | (refine rT_new (by assumption) ?_; walk_at "lk") | (refine rL_new (by assumption) ?_; walk_at "lk") | (refine rH_new (by assumption) ?_; walk_at "lk") | (refine rD_new (by assumption) ?_; walk_at "lk") | (refine dp_mono ?_ (by assumption); assumption))
local macro_rules | `(tactic| walk_at "r1") => `(tactic| first | ((with_reducible show tVar _ _ _ _); refine s_var rfl ?_) | with_reducible refine s_c ?_ | with_reducible refine s_op ?_ | with_reducible refine s_un ?_ | with_reducible refine s_neg ?_ | with_reducible refine s_test ?_ | with_reducible refine s_B ?_ | with_reducible refine s_bl ?_ | with_reducible refine s_not ?_ | with_reducible refine s_yes ?_ | with_reducible refine s_and ?_ | with_reducible refine s_or ?_ | with_reducible refine s_notV ?_ | with_reducible refine s_andV ?_ | with_reducible refine s_orV ?_ | with_reducible refine s_if ?_ | with_reducible refine s_cT ?_ | with_reducible refine s_cF ?_ | with_reducible refine s_nT ?_ | with_reducible refine s_nF ?_ | with_reducible refine s_addI ?_ | with_reducible refine s_eqI ?_ | with_reducible refine s_neI ?_ | with_reducible refine s_eqB ?_ | with_reducible refine s_neB ?_ | with_reducible refine s_I0 ?_ | with_reducible refine s_non ?_ | with_reducible refine s_int ?_ | with_reducible refine s_chain ?_ | with_reducible refine s_cons ?_ | with_reducible refine s_nil ?_ | with_reducible refine s_call ?_ | with_reducible refine s_cb ?_ | with_reducible refine s_meth ?_ | with_reducible refine s_make ?_ | with_reducible refine s_tup ?_ | with_reducible refine s_lst ?_ | with_reducible refine s_bm ?_ | with_reducible refine s_bm0 ?_ | with_reducible refine s_bmT ?_ | with_reducible refine s_fld ?_ | with_reducible refine s_dget ?_ | with_reducible refine s_sl ?_ | with_reducible refine s_part ?_ | with_reducible refine s_nopart ?_ | with_reducible refine s_seq ?_ | with_reducible refine s_next ?_ | with_reducible refine s_asg ?_ | with_reducible refine s_gn ?_ | with_reducible refine s_gc ?_ | with_reducible refine s_g0 ?_ | with_reducible refine s_gs ?_ | with_reducible refine s_ret ?_ | with_reducible refine s_ifS ?_ | with_reducible refine s_drop ?_ | with_reducible refine s_augS ?_ | ((with_reducible show tAug _ _ _ _ _ _); refine s_aug rfl ?_) | with_reducible refine s_ipI ?_ | with_reducible refine s_for ?_ | with_reducible refine s_iseq ?_ | with_reducible refine s_rng1 ?_ | with_reducible refine s_izip ?_ | with_reducible refine s_lc ?_ | with_reducible refine s_lc2 ?_ | with_reducible refine s_lstRg ?_ | with_reducible refine s_rg1 ?_ | with_reducible refine s_sfld ?_ | with_reducible refine s_ienum ?_ | with_reducible refine s_disp ?_ | with_reducible refine s_pc ?_ | with_reducible refine s_pn ?_)
local macro_rules | `(tactic| walk_at "rd") => `(tactic| repeat walk_at "r1")

section
variable {P : Program} {w : World} {K : PySem.W.Frag} {mg : Str → Option Value} {base : Heap} {C : Addr}
def spDone (K : PySem.W.Frag) (C : Addr) : Sp := fun vs H Q _ => ∃ b B s hs r k, vs = [.ref b, .ref s, .int (k : Nat)] ∧ GA K C H b s B hs r k ∧
  ∀ H' p p1 p2, Same H H' → H p = none → H p1 = none → H p2 = none → H' p = some (.tup [.ref p1, .ref p2]) → H' p1 = some (.tup ((after B.heavy hs r).map V.int)) → H' p2 = some (.tup ((dust B.heavy hs r).map V.int)) → Q (.ref p) H'
def spTakesOff (K : PySem.W.Frag) (C : Addr) : Sp := fun vs H Q _ => ∃ b B s hs r k, vs = [.ref b, .ref s, .int (k : Nat)] ∧ GA K C H b s B hs r k ∧ ∀ H', Same H H' → Q (.bl (takesOff B.heavy hs r)) H'
def taking (B : BD) (hs : List Int) : List Int := ((List.range B.meets.length).filter fun k => takesOff B.heavy hs (B.meets.getD k [])).map fun (k : Nat) => (k : Int)
structure GB (K : PySem.W.Frag) (C : Addr) (H : Hp) (b s : Addr) (B : BD) (hs : List Int) : Prop where
  ok : BOk B
  bench : BenchAt K C H b B
  stand : SqT K H s (hs.map V.int)
  len : hs.length = B.heavy.length
theorem GB.at {H : Hp} {b s : Addr} {B : BD} {hs : List Int} (g : GB K C H b s B hs) {k : Nat} (h : k < B.meets.length) : GA K C H b s B hs (B.meets.getD k []) k :=
  ⟨g.ok, g.bench, g.stand, g.len, by rw [List.getD_eq_getElem?_getD, List.getElem?_eq_getElem h]; rfl⟩
theorem GB.mono {H H' : Hp} {b s : Addr} {B : BD} {hs : List Int} (e : Same H H') (h : GB K C H b s B hs) : GB K C H' b s B hs := ⟨h.ok, h.bench.mono e, sqT_mono e h.stand, h.len⟩
def spTaking (K : PySem.W.Frag) (C : Addr) : Sp := fun vs H Q _ => ∃ b B s hs, vs = [.ref b, .ref s] ∧ GB K C H b s B hs ∧ ∀ H' p, Same H H' → H p = none → H' p = some (.lst ((taking B hs).map V.int)) → Q (.ref p) H'
end
end G

namespace G
open PySem PySem.Spec PyProof.Rows L2
local macro_rules | `(tactic| walk_at "lk") => `(tactic| first | assumption | exact rT_at | exact rL_at | exact upd_same | (refine sqT_mono ?_ (by assumption); assumption) | (refine sqL_mono ?_ (by assumption); assumption) | (refine rT_new (by assumption) ?_; walk_at "lk") | (refine rL_new (by assumption) ?_; walk_at "lk") | (refine rH_new (by assumption) ?_; walk_at "lk") | (refine rD_new (by assumption) ?_; walk_at "lk") | (refine dp_mono ?_ (by assumption); assumption))
local macro_rules | `(tactic| walk_at "r1") => `(tactic| first | ((with_reducible show tVar _ _ _ _); refine s_var rfl ?_) | with_reducible refine s_c ?_ | with_reducible refine s_op ?_ | with_reducible refine s_un ?_ | with_reducible refine s_neg ?_ | with_reducible refine s_test ?_ | with_reducible refine s_B ?_ | with_reducible refine s_bl ?_ | with_reducible refine s_not ?_ | with_reducible refine s_yes ?_ | with_reducible refine s_and ?_ | with_reducible refine s_or ?_ | with_reducible refine s_notV ?_ | with_reducible refine s_andV ?_ | with_reducible refine s_orV ?_ | with_reducible refine s_if ?_ | with_reducible refine s_cT ?_ | with_reducible refine s_cF ?_ | with_reducible refine s_nT ?_ | with_reducible refine s_nF ?_ | with_reducible refine s_addI ?_ | with_reducible refine s_eqI ?_ | with_reducible refine s_neI ?_ | with_reducible refine s_eqB ?_ | with_reducible refine s_neB ?_ | with_reducible refine s_I0 ?_ | with_reducible refine s_non ?_ | with_reducible refine s_int ?_ | with_reducible refine s_chain ?_ | with_reducible refine s_cons ?_ | with_reducible refine s_nil ?_ | with_reducible refine s_call ?_ | with_reducible refine s_cb ?_ | with_reducible refine s_meth ?_ | with_reducible refine s_make ?_ | with_reducible refine s_tup ?_ | with_reducible refine s_lst ?_ | with_reducible refine s_bm ?_ | with_reducible refine s_bm0 ?_ | with_reducible refine s_bmT ?_ | with_reducible refine s_fld ?_ | with_reducible refine s_dget ?_ | with_reducible refine s_sl ?_ | with_reducible refine s_part ?_ | with_reducible refine s_nopart ?_ | with_reducible refine s_seq ?_ | with_reducible refine s_next ?_ | with_reducible refine s_asg ?_ | with_reducible refine s_gn ?_ | with_reducible refine s_gc ?_ | with_reducible refine s_g0 ?_ | with_reducible refine s_gs ?_ | with_reducible refine s_ret ?_ | with_reducible refine s_ifS ?_ | with_reducible refine s_drop ?_ | with_reducible refine s_augS ?_ | ((with_reducible show tAug _ _ _ _ _ _); refine s_aug rfl ?_) | with_reducible refine s_ipI ?_ | with_reducible refine s_for ?_ | with_reducible refine s_iseq ?_ | with_reducible refine s_rng1 ?_ | with_reducible refine s_izip ?_ | with_reducible refine s_lc ?_ | with_reducible refine s_lc2 ?_ | with_reducible refine s_lstRg ?_ | with_reducible refine s_rg1 ?_ | with_reducible refine s_sfld ?_ | with_reducible refine s_ienum ?_ | with_reducible refine s_disp ?_ | with_reducible refine s_pc ?_ | with_reducible refine s_pn ?_)
local macro_rules | `(tactic| walk_at "rd") => `(tactic| repeat walk_at "r1")

section
variable {P : Program} {w : World} {K : PySem.W.Frag} {mg : Str → Option Value} {base : Heap} {C : Addr}
abbrev s_Bench_is_stand : Stmt := inClass (topS 26) 9
abbrev n_Bench_is_stand : List Str := ["self", "thing"]
theorem sc_Bench_is_stand : FnScope ["self", "thing"] ["self", "thing"] (defScope s_Bench_is_stand) := ⟨rfl, rfl, rfl, by decide +kernel, rfl, by decide +kernel, by decide +kernel⟩
theorem all_isInt (ns : List Int) : (ns.map V.int).all isInt = true := by
  rw [List.all_map]
  exact List.all_eq_true.mpr fun _ _ => rfl
theorem kn_int {H : Hp} {ns : List Int} : ∀ x ∈ ns.map V.int, Kn K H x := fun x h => by
  obtain ⟨n, _, rfl⟩ := List.mem_map.mp h
  exact .inl ⟨n, rfl⟩
/-- is_stand of a thing whose kind is known -/
def spIsStand (K : PySem.W.Frag) (C : Addr) : Sp := fun vs H Q _ => ∃ b B, BOk B ∧ BenchAt K C H b B ∧ ((∃ a xs, vs = [.ref b, .ref a] ∧ SqT K H a xs ∧ xs.length ≤ 1000 ∧ (∀ x ∈ xs, Kn K H x) ∧ ∀ H', Same H H' → Q (.bl (decide (xs.length = B.heavy.length) && xs.all isInt)) H') ∨
  (∃ x, vs = [.ref b, x] ∧ ((∃ n, x = .int n) ∨ (∃ b, x = .bl b) ∨ x = .non ∨ (∃ z, x = .str z) ∨ (∃ a xs, x = .ref a ∧ SqL K H a xs)) ∧ Q (.bl false) H))
theorem ok_is_stand (B0 : Blt mg) (T : Txt K mg C) (d_are_wholes : Def P w K mg base 2 "are_wholes" ["thing", "many"] (spAreWholes K)) (F : MethAt K C "is_stand" "Bench.is_stand" s_Bench_is_stand ["self", "thing"]) : DefM P w K mg base 3 C "is_stand" ["self", "thing"] (spIsStand K C) := by
  refine F.def (k := 2) sc_Bench_is_stand (fun vs H Q E h => ?_) (fun f cdv A outer s H vs Q E hr h => ?_)
  · obtain ⟨b, B, _, _, ⟨a, xs, rfl, _⟩ | ⟨x, rfl, _⟩⟩ := h
    · rfl
    · rfl
  · obtain ⟨b, B1, ok, hB, h⟩ := h
    obtain ⟨dx, l1, l2, l3, l4, hb, h1, h2, h3, h4⟩ := hB.ex
    have B := B0
    rcases h with ⟨a, xs, rfl, ht, hl, hk, q⟩ | ⟨x, rfl, hx, q⟩
    · refine ⟨_, (pss_one (ps_ret (pe_d d_are_wholes (hr.mono (by decide)) (by rfl) (pa_cons (pv 1) (pa_cons (pe_callB (k_len (K := K) rfl) (by rfl) B.len bb_len (pa_cons (k_fld (K := K) rfl (pv 0) rfl) pa_nil)) pa_nil))))), ?_⟩; refine start_eq (σ' := [some (.ref b), some (.ref a)]) rfl ?_
      walk_at "rd"
      refine ⟨_, _, _, _, _, rfl, hb, T.cl, T.n_heavy, fl_heavy, ?_⟩
      walk_at "rd"
      refine s_lenL h3 ?_
      walk_at "rd"
      refine .inl ⟨a, _, xs, rfl, ht, hl, hk, fun H' e => ?_⟩
      have := q H' e
      rw [List.length_map]
      have e2 : decide ((xs.length : Int) = (B1.heavy.length : Int)) = decide (xs.length = B1.heavy.length) := by
        by_cases h : xs.length = B1.heavy.length
        · simp [h]
        · simp [h]
          omega
      rw [e2]
      exact this
    · refine ⟨_, (pss_one (ps_ret (pe_d d_are_wholes (hr.mono (by decide)) (by rfl) (pa_cons (pv 1) (pa_cons (pe_callB (k_len (K := K) rfl) (by rfl) B.len bb_len (pa_cons (k_fld (K := K) rfl (pv 0) rfl) pa_nil)) pa_nil))))), ?_⟩; refine start_eq (σ' := [some (.ref b), some (x)]) rfl ?_
      walk_at "rd"
      refine ⟨_, _, _, _, _, rfl, hb, T.cl, T.n_heavy, fl_heavy, ?_⟩
      walk_at "rd"
      refine s_lenL h3 ?_
      walk_at "rd"
      exact .inr ⟨x, _, rfl, hx, q⟩
abbrev s_Bench_sure_stand : Stmt := inClass (topS 26) 10
abbrev n_Bench_sure_stand : List Str := ["self", "thing"]
theorem sc_Bench_sure_stand : FnScope ["self", "thing"] ["self", "thing"] (defScope s_Bench_sure_stand) := ⟨rfl, rfl, rfl, by decide +kernel, rfl, by decide +kernel, by decide +kernel⟩
def spSureStand (K : PySem.W.Frag) (C : Addr) : Sp := fun vs H Q _ => ∃ b B s hs, vs = [.ref b, .ref s] ∧ GB K C H b s B hs ∧ ∀ H', Same H H' → Q .non H'
theorem ok_sure_stand (B0 : Blt mg) (T : Txt K mg C) (d_Bench_is_stand : DefM P w K mg base 3 C "is_stand" ["self", "thing"] (spIsStand K C)) (F : MethAt K C "sure_stand" "Bench.sure_stand" s_Bench_sure_stand ["self", "thing"]) : DefM P w K mg base 4 C "sure_stand" ["self", "thing"] (spSureStand K C) := by
  refine F.def (k := 3) sc_Bench_sure_stand (fun vs H Q E h => ?_) (fun f cdv A outer s H vs Q E hr h => ?_)
  · obtain ⟨b, B, s, hs, rfl, _⟩ := h
    rfl
  · obtain ⟨b, B1, st, hs, rfl, g, q⟩ := h
    obtain ⟨dx, l1, l2, l3, l4, hb, h1, h2, h3, h4⟩ := g.bench.ex
    have B := B0
    have hl := g.ok.heavy_lt
    refine ⟨_, (pss_one (ps_if (pt_not (pt_val (pe_dm d_Bench_is_stand (hr.mono (by decide)) T.cl (pv 0) (pa_cons (pv 1) pa_nil)))) (pss_one ps_never) pss_nil)), ?_⟩; refine start_eq (σ' := [some (.ref b), some (.ref st)]) rfl ?_
    walk_at "rd"
    refine ⟨_, _, _, rfl, hb, rfl, ?_⟩
    walk_at "rd"
    refine ⟨b, B1, g.ok, g.bench, .inl ⟨st, hs.map V.int, rfl, g.stand, by rw [List.length_map, g.len]; omega, kn_int, fun H' e => ?_⟩⟩
    rw [all_isInt, List.length_map, decide_eq_true g.len]
    walk_at "rd"
    exact q H' e
abbrev s_Bench_sure_number : Stmt := inClass (topS 26) 11
abbrev n_Bench_sure_number : List Str := ["self", "number"]
theorem sc_Bench_sure_number : FnScope ["self", "number"] ["self", "number"] (defScope s_Bench_sure_number) := ⟨rfl, rfl, rfl, by decide +kernel, rfl, by decide +kernel, by decide +kernel⟩
def spSureNumber (K : PySem.W.Frag) (C : Addr) : Sp := fun vs H Q _ => ∃ b B k, vs = [.ref b, .int (k : Nat)] ∧ BOk B ∧ BenchAt K C H b B ∧ k < B.told.length ∧ Q .non H
theorem ok_sure_number (B0 : Blt mg) (T : Txt K mg C) (d_is_whole : Def P w K mg base 1 "is_whole" ["thing", "low", "high"] (spIsWhole K)) (F : MethAt K C "sure_number" "Bench.sure_number" s_Bench_sure_number ["self", "number"]) : DefM P w K mg base 2 C "sure_number" ["self", "number"] (spSureNumber K C) := by
  refine F.def (k := 1) sc_Bench_sure_number (fun vs H Q E h => ?_) (fun f cdv A outer s H vs Q E hr h => ?_)
  · obtain ⟨b, B, k, rfl, _⟩ := h
    rfl
  · obtain ⟨b, B1, k, rfl, ok, hB, hk, q⟩ := h
    obtain ⟨dx, l1, l2, l3, l4, hb, h1, h2, h3, h4⟩ := hB.ex
    obtain ⟨xs, e1, e2⟩ := dp_list h2
    have xlen : xs.length = B1.told.length := by rw [dpAll_len e2, List.length_map]
    have B := B0
    refine ⟨_, (pss_one (ps_if (pt_not (pt_val (pe_d d_is_whole (hr.mono (by decide)) (by rfl) (pa_cons (pv 1) (pa_cons pe_int (pa_cons (pe_op op_sub (pe_callB (k_len (K := K) rfl) (by rfl) B.len bb_len (pa_cons (k_fld (K := K) rfl (pv 0) rfl) pa_nil)) pe_int) pa_nil)))))) (pss_one ps_never) pss_nil)), ?_⟩; refine start_eq (σ' := [some (.ref b), some (.int k)]) rfl ?_
    walk_at "rd"
    refine ⟨_, _, _, _, _, rfl, hb, T.cl, T.n_told, fl_told, ?_⟩
    walk_at "rd"
    refine s_lenL e1 ?_
    walk_at "rd"
    refine ⟨.int k, some 0, some ((xs.length : Int) - 1), rfl, .inl ⟨_, rfl⟩, ?_⟩
    have e : wholeV (.int k) (some 0) (some ((xs.length : Int) - 1)) = true := by
      show (decide ((0 : Int) ≤ k) && decide ((k : Int) ≤ (xs.length : Int) - 1)) = true
      rw [decide_eq_true (by omega), decide_eq_true (by omega)]
      rfl
    rw [e]
    walk_at "rd"
    exact q
def spIsRest (K : PySem.W.Frag) (C : Addr) : Sp := fun vs H Q _ => ∃ b B s hs, vs = [.ref b, .ref s] ∧ GB K C H b s B hs ∧ ∀ H', Same H H' → Q (.bl (decide (taking B hs = []))) H'
end
end G

namespace G
open PySem PySem.Spec PyProof.Rows L2
local macro_rules | `(tactic| walk_at "lk") => `(tactic| first | assumption | exact rT_at | exact rL_at | exact upd_same | (refine sqT_mono ?_ (by assumption); assumption) | (refine sqL_mono ?_ (by assumption); assumption) | (refine rT_new (by assumption) ?_; walk_at "lk") | (refine rL_new (by assumption) ?_; walk_at "lk") | (refine rH_new (by assumption) ?_; walk_at "lk") | (refine rD_new (by assumption) ?_; walk_at "lk") | (refine dp_mono ?_ (by assumption); assumption))
local macro_rules | `(tactic| walk_at "r1") => `(tactic| first | ((with_reducible show tVar _ _ _ _); refine s_var rfl ?_) | with_reducible refine s_c ?_ | with_reducible refine s_op ?_ | with_reducible refine s_un ?_ | with_reducible refine s_neg ?_ | with_reducible refine s_test ?_ | with_reducible refine s_B ?_ | with_reducible refine s_bl ?_ | with_reducible refine s_not ?_ | with_reducible refine s_yes ?_ | with_reducible refine s_and ?_ | with_reducible refine s_or ?_ | with_reducible refine s_notV ?_ | with_reducible refine s_andV ?_ | with_reducible refine s_orV ?_ | with_reducible refine s_if ?_ | with_reducible refine s_cT ?_ | with_reducible refine s_cF ?_ | with_reducible refine s_nT ?_ | with_reducible refine s_nF ?_ | with_reducible refine s_addI ?_ | with_reducible refine s_eqI ?_ | with_reducible refine s_neI ?_ | with_reducible refine s_eqB ?_ | with_reducible refine s_neB ?_ | with_reducible refine s_I0 ?_ | with_reducible refine s_non ?_ | with_reducible refine s_int ?_ | with_reducible refine s_chain ?_ | with_reducible refine s_cons ?_ | with_reducible refine s_nil ?_ | with_reducible refine s_call ?_ | with_reducible refine s_cb ?_ | with_reducible refine s_meth ?_ | with_reducible refine s_make ?_ | with_reducible refine s_tup ?_ | with_reducible refine s_lst ?_ | with_reducible refine s_bm ?_ | with_reducible refine s_bm0 ?_ | with_reducible refine s_bmT ?_ | with_reducible refine s_fld ?_ | with_reducible refine s_dget ?_ | with_reducible refine s_sl ?_ | with_reducible refine s_part ?_ | with_reducible refine s_nopart ?_ | with_reducible refine s_seq ?_ | with_reducible refine s_next ?_ | with_reducible refine s_asg ?_ | with_reducible refine s_gn ?_ | with_reducible refine s_gc ?_ | with_reducible refine s_g0 ?_ | with_reducible refine s_gs ?_ | with_reducible refine s_ret ?_ | with_reducible refine s_ifS ?_ | with_reducible refine s_drop ?_ | with_reducible refine s_augS ?_ | ((with_reducible show tAug _ _ _ _ _ _); refine s_aug rfl ?_) | with_reducible refine s_ipI ?_ | with_reducible refine s_for ?_ | with_reducible refine s_iseq ?_ | with_reducible refine s_rng1 ?_ | with_reducible refine s_izip ?_ | with_reducible refine s_lc ?_ | with_reducible refine s_lc2 ?_ | with_reducible refine s_lstRg ?_ | with_reducible refine s_rg1 ?_ | with_reducible refine s_sfld ?_ | with_reducible refine s_ienum ?_ | with_reducible refine s_disp ?_ | with_reducible refine s_pc ?_ | with_reducible refine s_pn ?_)
local macro_rules | `(tactic| walk_at "rd") => `(tactic| repeat walk_at "r1")

section
variable {P : Program} {w : World} {K : PySem.W.Frag} {mg : Str → Option Value} {base : Heap} {C : Addr}
abbrev s_is_hardness : Stmt := topS 23
abbrev n_is_hardness : List Str := ["thing", "one"]
theorem sc_is_hardness : FnScope ["thing", "one"] ["thing"] (defScope s_is_hardness) := ⟨rfl, rfl, rfl, by decide +kernel, rfl, by decide +kernel, by decide +kernel⟩
theorem kn_mono {H H' : Hp} {x : V} (e : Same H H') (h : Kn K H x) : Kn K H' x := by
  rcases h with h | h | h | h | ⟨b, ys, h1, h2⟩ | ⟨b, ys, h1, h2⟩
  · exact .inl h
  · exact .inr (.inl h)
  · exact .inr (.inr (.inl h))
  · exact .inr (.inr (.inr (.inl h)))
  · exact .inr (.inr (.inr (.inr (.inl ⟨b, ys, h1, sqL_mono e h2⟩))))
  · exact .inr (.inr (.inr (.inr (.inr ⟨b, ys, h1, sqT_mono e h2⟩))))
/-- of a list of things whose kinds are known -/
def spIsHard (K : PySem.W.Frag) : Sp := fun vs H Q _ => ∃ a xs, vs = [.ref a] ∧ SqL K H a xs ∧ xs.length ≤ 1000 ∧ (∀ x ∈ xs, Kn K H x) ∧ ∀ H', Same H H' → Q (.bl (decide (2 ≤ xs.length ∧ xs.length ≤ 4) && xs.all fun x => wholeV x (some 1) (some 9))) H'
theorem ok_is_hardness (B : Blt mg) (T : Txt K mg C) (d_is_whole : Def P w K mg base 1 "is_whole" ["thing", "low", "high"] (spIsWhole K)) (F : FunAt K mg "is_hardness" s_is_hardness ["thing"]) : Def P w K mg base 2 "is_hardness" ["thing"] (spIsHard K) := by
  refine F.def (k := 1) sc_is_hardness (fun vs H Q E h => ?_) (fun f cdv A outer s H vs Q E hr h => ?_)
  · obtain ⟨a, xs, rfl, _⟩ := h
    rfl
  · obtain ⟨a, xs, rfl, ha, hl, hk, q⟩ := h
    obtain ⟨_, g_MOST_PLATES⟩ := T.g_MOST_PLATES
    obtain ⟨_, g_MOST_HARDNESS⟩ := T.g_MOST_HARDNESS
    refine ⟨_, (pss_cons (ps_if (PW.pt (pw_or (pt_not (pt_val (pe_callB (k_isi (K := K) rfl) (by rfl) B.isinstance bb_isinstance (pa_cons (pv 0) (pa_cons (pe_bltn (v := .ty "list") (by rfl) B.list bb_list rfl) pa_nil))))) (pw_or1 (pt_not (pt_chain op_le op_le pe_int (pe_callB (k_len (K := K) rfl) (by rfl) B.len bb_len (pa_cons (pv 0) pa_nil)) (pe_glob (v := .int 4) rfl g_MOST_PLATES ⟨_, rfl⟩)))))) (pss_one (ps_ret pe_bl)) pss_nil) (pss_one (ps_ret (pe_callB (k_all (K := K) rfl rfl) (by rfl) B.all bb_all (pa_cons (pe_lc (own := [("one", 1)]) rfl sc_is_hardness.nd (k_seq (K := K) rfl (pv 0)) (blkOk_by (own := [("one", 1)]) (N := n_is_hardness) (sc := defScope s_is_hardness) (by decide +kernel)) (fun _ _ _ _ _ => (pg_name (i := 1) sc_is_hardness.nd rfl (Or.inl rfl))) (fun _ _ _ _ _ => pts_nil) (fun _ _ _ _ _ => (pe_d d_is_whole (hr.mono (by decide)) (by rfl) (pa_cons (pv 1) (pa_cons pe_int (pa_cons (pe_glob (v := .int 9) rfl g_MOST_HARDNESS ⟨_, rfl⟩) pa_nil)))))) pa_nil))))), ?_⟩; refine start_eq (σ' := [some (.ref a), none]) rfl ?_
    walk_at "rd"
    refine isB (ty_lst ha) kb_ll ?_
    walk_at "rd"
    refine s_lenL ha ?_
    walk_at "rd"
    have no : ¬ (2 ≤ xs.length ∧ xs.length ≤ 4) → Q (.bl false) H := fun h => by
      have := q H (Same.refl H)
      rw [decide_eq_false h] at this
      exact this
    refine s_d2 (fun e1 => ?_) (fun e1 => ?_)
    · walk_at "rd"
      refine s_n2 (fun e2 => ?_) (fun e2 => ?_)
      · walk_at "rd"
        exact no (by omega)
      · walk_at "rd"
        refine .inl ⟨_, rfl, ⟨_, ha⟩, ?_⟩
        refine lc_map (walk_list (xs := xs)) (F := H) (Same.refl H) (by omega) (fun H' e' => sqL_mono e' ha) (fun i _ v => ∃ x, xs[i]? = some x ∧ v = .bl (wholeV x (some 1) (some 9))) (fun _ _ _ _ _ h => h) (fun i x F' H1 H2 D Z hi ex _ _ hy hz => ?_) (fun D ys F' H' hD ex hd hlen hR => ?_)
        · obtain ⟨rfl, hx⟩ := hy
          walk_at "rd"
          refine ⟨rfl, ?_⟩
          walk_at "rd"
          exact ⟨x, some 1, some 9, rfl, kn_mono ex.hh (hk x (List.mem_of_getElem? hx)), hz _ F' _ (Ext.refl ex.fh) ⟨x, hx, rfl⟩⟩
        · walk_at "rd"
          have hys : ys = (xs.map fun x => wholeV x (some 1) (some 9)).map V.bl := by
            refine List.ext_getElem? fun i => ?_
            cases hv : ys[i]? with
            | none =>
              have : ys.length ≤ i := List.getElem?_eq_none_iff.mp hv
              rw [List.getElem?_eq_none (by simp; omega)]
            | some v =>
              obtain ⟨x, h1, rfl⟩ := hR i v hv
              simp [h1]
          subst hys
          refine s_all (.inl (.inl (ex.fh _ _ hd))) ?_
          have := q H' ex.hh
          rw [decide_eq_true (by omega), Bool.true_and] at this
          rw [List.all_map]
          exact this
    · walk_at "rd"
      exact no (by omega)
abbrev s_is_turn : Stmt := topS 24
abbrev n_is_turn : List Str := ["thing", "places"]
theorem sc_is_turn : FnScope ["thing", "places"] ["thing", "places"] (defScope s_is_turn) := ⟨rfl, rfl, rfl, by decide +kernel, rfl, by decide +kernel, by decide +kernel⟩
/-- of a turn that is one -/
def spIsTurn (K : PySem.W.Frag) : Sp := fun vs H Q _ => ∃ a, ∃ (tn : List Nat) (n : Nat), vs = [.ref a, .int n] ∧ SqT K H a (tn.map fun (x : Nat) => V.int x) ∧ tn.Perm (List.range n) ∧ n ≤ 50 ∧ ∀ H', Same H H' → Q (.bl true) H'
theorem natV (l : List Nat) : (l.map fun (x : Nat) => V.int x) = (l.map fun (x : Nat) => (x : Int)).map V.int := by rw [List.map_map]; rfl
theorem range_up (n : Nat) : ((List.range n).map fun (x : Nat) => (x : Int)).Pairwise (· ≤ ·) := by
  rw [List.pairwise_map]
  exact List.pairwise_lt_range.imp fun h => by omega
theorem rgV_nat (n : Nat) : rgV 0 n = ((List.range n).map fun (x : Nat) => (x : Int)).map V.int := by
  unfold rgV
  rw [List.map_map]
  simp
theorem ok_is_turn (B : Blt mg) (d_are_wholes : Def P w K mg base 2 "are_wholes" ["thing", "many"] (spAreWholes K)) (F : FunAt K mg "is_turn" s_is_turn ["thing", "places"]) : Def P w K mg base 3 "is_turn" ["thing", "places"] (spIsTurn K) := by
  refine F.def (k := 2) sc_is_turn (fun vs H Q E h => ?_) (fun f cdv A outer s H vs Q E hr h => ?_)
  · obtain ⟨a, tn, n, rfl, _⟩ := h
    rfl
  · obtain ⟨a, tn, n, rfl, ht, hp, hn, q⟩ := h
    rw [natV] at ht
    have len : tn.length = n := by rw [hp.length_eq, List.length_range]
    refine ⟨_, (pss_one (ps_ret (pe_and (pe_d d_are_wholes (hr.mono (by decide)) (by rfl) (pa_cons (pv 0) (pa_cons (pv 1) pa_nil))) (pe_one (pe_cmpR (k_eq (K := K) rfl hr.units) (pe_callB (k_sorted (K := K) rfl) (by rfl) B.sorted bb_sorted (pa_cons (pv 0) pa_nil)) (pe_listRg rfl (by rfl) B.list (prg_1 (by rfl) B.range (pv 1))) (nomark _)))))), ?_⟩; refine start_eq (σ' := [some (.ref a), some (.int n)]) rfl ?_
    walk_at "rd"
    refine .inl ⟨a, n, _, rfl, ht, by simp; omega, kn_int, fun H1 s1 => ?_⟩
    rw [all_isInt, List.length_map, List.length_map, decide_eq_true (by omega), Bool.true_and]
    walk_at "rd"
    refine .inr ⟨a, _, rfl, sqT_mono s1 ht, by simp; omega, fun ns p perm up np => ?_⟩
    walk_at "rd"
    refine ⟨RgOk.of_le (by omega) (by omega) (by omega) (by omega), fun o no => ?_⟩
    have e : ns = (List.range n).map fun (x : Nat) => (x : Int) := (perm.trans (hp.map _)).eq_of_pairwise (fun _ _ _ _ a b => Int.le_antisymm a b) up (range_up n)
    rw [rgV_nat, ← e]
    refine s_eqD (dp_lstI (rL_new no rL_at)) (dp_lstI rL_at) (sh_shaped (sh_listI _)) (sh_shaped (sh_listI _)) ?_
    rw [eqv_self (sh_listI ns)]
    exact q _ ((s1.trans (same_upd np)).trans (same_upd no))
abbrev s_is_grinding : Stmt := topS 25
abbrev n_is_grinding : List Str := ["thing", "plates", "places"]
theorem sc_is_grinding : FnScope ["thing", "plates", "places"] ["thing", "plates", "places"] (defScope s_is_grinding) := ⟨rfl, rfl, rfl, by decide +kernel, rfl, by decide +kernel, by decide +kernel⟩
def spIsGrind (K : PySem.W.Frag) : Sp := fun vs H Q _ => ∃ v, ∃ (g : Nat × Nat × List Nat) (m n : Nat), vs = [v, .int m, .int n] ∧ Dp K H v (gD g) ∧ g.1 < m ∧ g.2.1 < m ∧ g.1 ≠ g.2.1 ∧ g.2.2.Perm (List.range n) ∧ n ≤ 50 ∧ ∀ H', Same H H' → Q (.bl true) H'
theorem gD_at {H : Hp} {v : V} {g : Nat × Nat × List Nat} (h : Dp K H v (gD g)) : ∃ a c, v = .ref a ∧ SqT K H a [.int g.1, .int g.2.1, .ref c] ∧ SqT K H c (g.2.2.map fun (x : Nat) => V.int x) := by
  obtain ⟨a, xs, rfl, h1, h2⟩ := dp_refT h
  cases h2 with
  | cons e1 h2 =>
    cases h2 with
    | cons e2 h2 =>
      cases h2 with
      | cons e3 h2 =>
        cases h2
        cases e1
        cases e2
        obtain ⟨c, ys, rfl, h3, h4⟩ := dp_refT e3
        have : ys = (g.2.2.map fun (x : Nat) => (x : Int)).map V.int := dpAll_ints (by rw [List.map_map]; exact h4)
        subst this
        rw [← natV] at h3
        exact ⟨a, c, rfl, h1, h3⟩
theorem whole_in {k m : Nat} (h : k < m) : wholeV (.int k) (some 0) (some ((m : Int) - 1)) = true := by
  show (decide ((0 : Int) ≤ k) && decide ((k : Int) ≤ (m : Int) - 1)) = true
  rw [decide_eq_true (by omega), decide_eq_true (by omega)]
  rfl
theorem ok_is_grinding (B : Blt mg) (d_is_whole : Def P w K mg base 1 "is_whole" ["thing", "low", "high"] (spIsWhole K)) (d_is_turn : Def P w K mg base 3 "is_turn" ["thing", "places"] (spIsTurn K)) (F : FunAt K mg "is_grinding" s_is_grinding ["thing", "plates", "places"]) : Def P w K mg base 4 "is_grinding" ["thing", "plates", "places"] (spIsGrind K) := by
  refine F.def (k := 3) sc_is_grinding (fun vs H Q E h => ?_) (fun f cdv A outer s H vs Q E hr h => ?_)
  · obtain ⟨v, g, m, n, rfl, _⟩ := h
    rfl
  · obtain ⟨v, g, m, n, rfl, hg, h1, h2, h3, h4, hn, q⟩ := h
    obtain ⟨a, c, rfl, ha, hc⟩ := gD_at hg
    refine ⟨_, (pss_cons (ps_if (PW.pt (pw_or (pt_not (pt_val (pe_callB (k_isi (K := K) rfl) (by rfl) B.isinstance bb_isinstance (pa_cons (pv 0) (pa_cons (pe_bltn (v := .ty "tuple") (by rfl) B.tuple bb_tuple rfl) pa_nil))))) (pw_or1 (pt_cmpR (k_ne (K := K) rfl hr.units) (pe_callB (k_len (K := K) rfl) (by rfl) B.len bb_len (pa_cons (pv 0) pa_nil)) pe_int (nomark _))))) (pss_one (ps_ret pe_bl)) pss_nil) (pss_cons (ps_if (PW.pt (pw_or (pt_not (pt_val (pe_d d_is_whole (hr.mono (by decide)) (by rfl) (pa_cons (pe_ix (k_ix (K := K) rfl) (pv 0) pe_int (fun _ _ => rfl)) (pa_cons pe_int (pa_cons (pe_op op_sub (pv 1) pe_int) pa_nil)))))) (pw_or1 (pt_not (pt_val (pe_d d_is_whole (hr.mono (by decide)) (by rfl) (pa_cons (pe_ix (k_ix (K := K) rfl) (pv 0) pe_int (fun _ _ => rfl)) (pa_cons pe_int (pa_cons (pe_op op_sub (pv 1) pe_int) pa_nil))))))))) (pss_one (ps_ret pe_bl)) pss_nil) (pss_one (ps_ret (pe_and (pe_cmpR (k_ne (K := K) rfl hr.units) (pe_ix (k_ix (K := K) rfl) (pv 0) pe_int (fun _ _ => rfl)) (pe_ix (k_ix (K := K) rfl) (pv 0) pe_int (fun _ _ => rfl)) (nomark _)) (pe_one (pe_d d_is_turn (hr.mono (by decide)) (by rfl) (pa_cons (pe_ix (k_ix (K := K) rfl) (pv 0) pe_int (fun _ _ => rfl)) (pa_cons (pv 2) pa_nil))))))))), ?_⟩; refine start_eq (σ' := [some (.ref a), some (.int m), some (.int n)]) rfl ?_
    walk_at "rd"
    refine isB (ty_tup ha) kb_tt ?_
    walk_at "rd"
    refine s_lenT ha ?_
    walk_at "rd"
    refine s_n2 (fun e => absurd rfl e) (fun _ => ?_)
    walk_at "rd"
    refine s_ixT ha rfl ?_
    walk_at "rd"
    refine ⟨.int g.1, some 0, some ((m : Int) - 1), rfl, .inl ⟨_, rfl⟩, ?_⟩
    rw [whole_in h1]
    walk_at "rd"
    refine s_ixT ha rfl ?_
    walk_at "rd"
    refine ⟨.int g.2.1, some 0, some ((m : Int) - 1), rfl, .inl ⟨_, rfl⟩, ?_⟩
    rw [whole_in h2]
    walk_at "rd"
    refine s_ixT ha rfl ?_
    walk_at "rd"
    refine s_ixT ha rfl ?_
    walk_at "rd"
    rw [decide_eq_false (show ¬ ((g.1 : Int) = (g.2.1 : Int)) by omega)]
    walk_at "rd"
    refine s_ixT ha rfl ?_
    walk_at "rd"
    exact ⟨c, g.2.2, n, rfl, hc, h4, hn, q⟩
abbrev s_Bench_pairs_of : Stmt := inClass (topS 26) 1
abbrev n_Bench_pairs_of : List Str := ["self", "grinding", "plate", "other", "turn", "place"]
theorem sc_Bench_pairs_of : FnScope ["self", "grinding", "plate", "other", "turn", "place"] ["self", "grinding"] (defScope s_Bench_pairs_of) := ⟨rfl, rfl, rfl, by decide +kernel, rfl, by decide +kernel, by decide +kernel⟩
def spPairsOf (K : PySem.W.Frag) (C : Addr) : Sp := fun vs H Q _ => ∃ b dx fs, ∃ (n : Nat) (g : Nat × Nat × List Nat) (gv : V) (F : Hp), vs = [.ref b, gv] ∧ H b = some (.ins C dx fs) ∧ fs.lookup ("places" : Str) = some (.int n) ∧ Dp K H gv (gD g) ∧ g.2.2.length = n ∧ n ≤ 50 ∧ g.1 ≤ 50 ∧ g.2.1 ≤ 50 ∧ Same F H ∧
  ∀ v F' H', Ext F H F' H' → Dp K F' v (.list ((pairsOf n g).map pD)) → Q v H'
theorem ok_pairs_of (B : Blt mg) (T : Txt K mg C) (F : MethAt K C "pairs_of" "Bench.pairs_of" s_Bench_pairs_of ["self", "grinding"]) : DefM P w K mg base 1 C "pairs_of" ["self", "grinding"] (spPairsOf K C) := by
  refine F.def (k := 0) sc_Bench_pairs_of (fun vs H Q E h => ?_) (fun f cdv A outer s H vs Q E hr h => ?_)
  · obtain ⟨b, dx, fs, n, g, gv, F, rfl, _⟩ := h
    rfl
  · obtain ⟨b, dx, fs, n, g, gv, F, rfl, hb, hfs, hg, hl, hn, hg1, hg2, hF, q⟩ := h
    obtain ⟨a, c, rfl, ha, hc⟩ := gD_at hg
    rw [natV] at hc
    refine ⟨_, (pss_cons (ps_asg (pv 1) (k_tup (K := K) (n := 3) rfl rfl (pgs_cons (pg_name (i := 2) sc_Bench_pairs_of.nd rfl (Or.inr rfl)) (pgs_cons (pg_name (i := 3) sc_Bench_pairs_of.nd rfl (Or.inr rfl)) (pgs_cons (pg_name (i := 4) sc_Bench_pairs_of.nd rfl (Or.inr rfl)) pgs_nil))))) (pss_one (ps_ret (pe_lc (own := [("place", 5)]) rfl sc_Bench_pairs_of.nd (pi_range1 (by rfl) B.range (pa_cons (k_fld (K := K) rfl (pv 0) rfl) pa_nil)) (blkOk_by (own := [("place", 5)]) (N := n_Bench_pairs_of) (sc := defScope s_Bench_pairs_of) (by decide +kernel)) (fun _ _ _ _ _ => (pg_name (i := 5) sc_Bench_pairs_of.nd rfl (Or.inl rfl))) (fun _ _ _ _ _ => pts_nil) (fun _ _ _ _ _ => (pe_tup (pa_cons (pe_op (k_add (K := K) rfl) (pe_op opMulU (pv 2) (k_fld (K := K) rfl (pv 0) rfl)) (pv 5)) (pa_cons (pe_op (k_add (K := K) rfl) (pe_op opMulU (pv 3) (k_fld (K := K) rfl (pv 0) rfl)) (pe_ix (k_ix (K := K) rfl) (pv 4) (pv 5) (fun _ _ => rfl))) pa_nil)))))))), ?_⟩; refine start_eq (σ' := [some (.ref b), some (.ref a), none, none, none, none]) rfl ?_
    walk_at "rd"
    refine s_gt ha rfl ?_
    walk_at "rd"
    refine ⟨_, _, _, _, _, rfl, hb, T.cl, T.n_places, hfs, ?_⟩
    walk_at "rd"
    refine ⟨_, rfl, by omega, by omega, ?_⟩
    refine lc_map walk_range hF (by omega) (fun _ _ => trivial) (fun i F' v => Dp K F' v (pD (g.1 * n + i, g.2.1 * n + g.2.2.getD i 0))) (fun _ _ _ _ e h => dp_mono e h) (fun i x F' H1 H2 D Z hi ex fd _ hy hz => ?_) (fun D ys F' H' hD ex hd hlen hR => ?_)
    · obtain ⟨rfl, rfl⟩ := hy
      have hi' : i < n := by omega
      walk_at "rd"
      refine ⟨rfl, ?_⟩
      walk_at "rd"
      refine ⟨_, _, _, _, _, rfl, ex.hh _ _ hb, T.cl, T.n_places, hfs, ?_⟩
      refine s_mulI (.inl ⟨by omega, by omega⟩) ?_
      walk_at "rd"
      refine ⟨_, _, _, _, _, rfl, ex.hh _ _ hb, T.cl, T.n_places, hfs, ?_⟩
      refine s_mulI (.inl ⟨by omega, by omega⟩) ?_
      walk_at "rd"
      refine s_ixT (sqT_mono ex.hh hc) (by rw [Int.zero_add]; exact at_int (by simp; omega)) ?_
      walk_at "rd"
      refine ⟨by show 2 ≤ sizeLine; decide, fun p hp => ?_⟩
      refine hz (.ref p) _ _ ((Ext.refl ex.fh).new hp) ?_
      have e1 : ((g.2.2.map fun (x : Nat) => (x : Int)).getD i 0) = ((g.2.2.getD i 0 : Nat) : Int) := by
        rw [List.getD_eq_getElem?_getD, List.getD_eq_getElem?_getD, List.getElem?_map]
        cases g.2.2[i]? <;> rfl
      rw [e1, Int.zero_add]
      refine dp_tupI (ns := [_, _]) ?_
      simp only [List.map_cons, List.map_nil, Int.natCast_add, Int.natCast_mul]
      exact rT_at
    · refine q (.ref D) F' H' ex (.lst (.inl (.inl hd)) (dpAll_of ?_ fun i v d h1 h2 => ?_))
      · rw [hlen, List.length_map]
        simp [pairsOf]
      · have hi : i < n := by
          have := (List.getElem?_eq_some_iff.mp h1).1
          omega
        rw [List.getElem?_map] at h2
        simp only [pairsOf, List.getElem?_map, List.getElem?_range hi, Option.map_some] at h2
        cases h2
        exact hR i v h1
end
end G

namespace G
open PySem PySem.Spec PyProof.Rows L2
local macro_rules | `(tactic| walk_at "lk") => `(tactic| first | assumption | exact rT_at | exact rL_at | exact upd_same | (refine sqT_mono ?_ (by assumption); assumption) | (refine sqL_mono ?_ (by assumption); assumption) | (refine rT_new (by assumption) ?_; walk_at "lk") | (refine rL_new (by assumption) ?_; walk_at "lk") | (refine rH_new (by assumption) ?_; walk_at "lk") | (refine rD_new (by assumption) ?_; walk_at "lk") | (refine dp_mono ?_ (by assumption); assumption))
local macro_rules | `(tactic| walk_at "r1") => `(tactic| first | ((with_reducible show tVar _ _ _ _); refine s_var rfl ?_) | with_reducible refine s_c ?_ | with_reducible refine s_op ?_ | with_reducible refine s_un ?_ | with_reducible refine s_neg ?_ | with_reducible refine s_test ?_ | with_reducible refine s_B ?_ | with_reducible refine s_bl ?_ | with_reducible refine s_not ?_ | with_reducible refine s_yes ?_ | with_reducible refine s_and ?_ | with_reducible refine s_or ?_ | with_reducible refine s_notV ?_ | with_reducible refine s_andV ?_ | with_reducible refine s_orV ?_ | with_reducible refine s_if ?_ | with_reducible refine s_cT ?_ | with_reducible refine s_cF ?_ | with_reducible refine s_nT ?_ | with_reducible refine s_nF ?_ | with_reducible refine s_addI ?_ | with_reducible refine s_eqI ?_ | with_reducible refine s_neI ?_ | with_reducible refine s_eqB ?_ | with_reducible refine s_neB ?_ | with_reducible refine s_I0 ?_ | with_reducible refine s_non ?_ | with_reducible refine s_int ?_ | with_reducible refine s_chain ?_ | with_reducible refine s_cons ?_ | with_reducible refine s_nil ?_ | with_reducible refine s_call ?_ | with_reducible refine s_cb ?_ | with_reducible refine s_meth ?_ | with_reducible refine s_make ?_ | with_reducible refine s_tup ?_ | with_reducible refine s_lst ?_ | with_reducible refine s_bm ?_ | with_reducible refine s_bm0 ?_ | with_reducible refine s_bmT ?_ | with_reducible refine s_fld ?_ | with_reducible refine s_dget ?_ | with_reducible refine s_sl ?_ | with_reducible refine s_part ?_ | with_reducible refine s_nopart ?_ | with_reducible refine s_seq ?_ | with_reducible refine s_next ?_ | with_reducible refine s_asg ?_ | with_reducible refine s_gn ?_ | with_reducible refine s_gc ?_ | with_reducible refine s_g0 ?_ | with_reducible refine s_gs ?_ | with_reducible refine s_ret ?_ | with_reducible refine s_ifS ?_ | with_reducible refine s_drop ?_ | with_reducible refine s_augS ?_ | ((with_reducible show tAug _ _ _ _ _ _); refine s_aug rfl ?_) | with_reducible refine s_ipI ?_ | with_reducible refine s_for ?_ | with_reducible refine s_iseq ?_ | with_reducible refine s_rng1 ?_ | with_reducible refine s_izip ?_ | with_reducible refine s_lc ?_ | with_reducible refine s_lc2 ?_ | with_reducible refine s_lstRg ?_ | with_reducible refine s_rg1 ?_ | with_reducible refine s_sfld ?_ | with_reducible refine s_ienum ?_ | with_reducible refine s_disp ?_ | with_reducible refine s_pc ?_ | with_reducible refine s_pn ?_)
local macro_rules | `(tactic| walk_at "rd") => `(tactic| repeat walk_at "r1")

section
variable {P : Program} {w : World} {K : PySem.W.Frag} {mg : Str → Option Value} {base : Heap} {C : Addr}
abbrev s_Bench___init__ : Stmt := inClass (topS 26) 0
abbrev n_Bench___init__ : List Str := ["self", "hardness", "places", "grindings", "at", "thing", "one", "place"]
theorem sc_Bench___init__ : FnScope ["self", "hardness", "places", "grindings", "at", "thing", "one", "place"] ["self", "hardness", "places", "grindings"] (defScope s_Bench___init__) := ⟨rfl, rfl, rfl, by decide +kernel, rfl, by decide +kernel, by decide +kernel⟩
/-- H1, F1: all and its frozen part ahead of the new instance x -/
def spInit (K : PySem.W.Frag) (C : Addr) : Sp := fun vs H Q _ => ∃ x dx lh lg B H1 F1, vs = [.ref x, .ref lh, .int (B.places : Int), .ref lg] ∧ H = upd (upd H1 dx (.own x)) x (.ins C dx []) ∧ H1 x = none ∧ H1 dx = none ∧ dx ≠ x ∧ Same F1 H1 ∧ BOk B ∧ SqL K F1 lh (B.hard.map V.int) ∧ Dp K F1 (.ref lg) (.list (B.told.map gD)) ∧
  ∀ F' H', Ext F1 H1 F' H' → BenchAt K C F' x B → Q .non H'
theorem hard_whole {B : BD} (ok : BOk B) : ((B.hard.map V.int).all fun x => wholeV x (some 1) (some 9)) = true := by
  rw [List.all_map]
  refine List.all_eq_true.mpr fun x hx => ?_
  have := ok.hard x hx
  show (decide ((1 : Int) ≤ x) && decide (x ≤ (9 : Int))) = true
  rw [decide_eq_true (by omega), decide_eq_true (by omega)]
  rfl
theorem whole_pl {n : Nat} (h1 : 1 ≤ n) (h2 : n ≤ 3) : wholeV (.int n) (some 1) (some 3) = true := by
  show (decide ((1 : Int) ≤ n) && decide ((n : Int) ≤ 3)) = true
  rw [decide_eq_true (by omega), decide_eq_true (by omega)]
  rfl
theorem heavy_flat (l : List Int) (n : Nat) : (l.map fun h => List.replicate n (V.int h)).flatten = (l.flatMap fun h => List.replicate n h).map V.int := by
  induction l with
  | nil => rfl
  | cons a l ih => simp [ih]
theorem pf {f : Str} {v : V} {fs : List (Str × V)} {k : Nat} (h : fs.length ≤ k) : (putF f v fs).length ≤ k + 1 := by
  induction fs generalizing k with
  | nil => simp [putF]
  | cons p fs ih =>
    simp only [putF]
    split
    · simp at h ⊢; omega
    · simp at h ⊢
      have := ih (k := k - 1) (by omega)
      omega
theorem pf0 : ([] : List (Str × V)).length ≤ 0 := Nat.le_refl 0
theorem ok_init (B0 : Blt mg) (T : Txt K mg C) (d_is_hardness : Def P w K mg base 2 "is_hardness" ["thing"] (spIsHard K)) (d_is_whole : Def P w K mg base 1 "is_whole" ["thing", "low", "high"] (spIsWhole K)) (d_is_grinding : Def P w K mg base 4 "is_grinding" ["thing", "plates", "places"] (spIsGrind K))
    (d_Bench_pairs_of : DefM P w K mg base 1 C "pairs_of" ["self", "grinding"] (spPairsOf K C)) {f : Addr} {fd : FuncData} (F : Fun K "__init__" "Bench.__init__" s_Bench___init__ f fd) : FnOk P w K mg base CX0 5 f fd ["self", "hardness", "places", "grindings"] (spInit K C) := by
  refine F.ok (k := 4) sc_Bench___init__ (fun vs H Q E h => ?_) (fun cdv A outer s H vs Q E hr h => ?_)
  · obtain ⟨x, dx, lh, lg, B, H1, F1, rfl, _⟩ := h
    rfl
  · obtain ⟨x, dx, lh, lg, B1, H1, F1, rfl, rfl, nx, ndx, nex, hF, ok, hh, hg, q⟩ := h
    obtain ⟨_, g_MOST_PLACES⟩ := T.g_MOST_PLACES
    obtain ⟨_, g_MOST_GRINDINGS⟩ := T.g_MOST_GRINDINGS
    have B := B0
    obtain ⟨gx, hgx, hga⟩ := dp_list hg
    have glen : gx.length = B1.told.length := by rw [dpAll_len hga, List.length_map]
    have e0 : Ext F1 H1 F1 (upd (upd H1 dx (.own x)) x (.ins C dx [])) := by
      refine Ext.mut (Ext.mut (Ext.refl hF) ndx) ?_
      rw [upd_ne (Ne.symm nex)]
      exact nx
    have hx0 : (upd (upd H1 dx (.own x)) x (.ins C dx [])) x = some (.ins C dx []) := upd_same
    generalize upd (upd H1 dx (.own x)) x (.ins C dx []) = H at *
    have p1 := ok.plates
    have p2 := ok.places
    have p3 := ok.told
    refine ⟨_, (pss_cons (ps_if (pt_not (pt_val (pe_d d_is_hardness (hr.mono (by decide)) (by rfl) (pa_cons (pv 1) pa_nil)))) (pss_one ps_never) pss_nil) (pss_cons (ps_if (pt_not (pt_val (pe_d d_is_whole (hr.mono (by decide)) (by rfl) (pa_cons (pv 2) (pa_cons pe_int (pa_cons (pe_glob (v := .int 3) rfl g_MOST_PLACES ⟨_, rfl⟩) pa_nil)))))) (pss_one ps_never) pss_nil) (pss_cons (ps_if (PW.pt (pw_or (pt_not (pt_val (pe_callB (k_isi (K := K) rfl) (by rfl) B.isinstance bb_isinstance (pa_cons (pv 3) (pa_cons (pe_bltn (v := .ty "list") (by rfl) B.list bb_list rfl) pa_nil))))) (pw_or1 (pt_not (pt_chain op_le op_le pe_int (pe_callB (k_len (K := K) rfl) (by rfl) B.len bb_len (pa_cons (pv 3) pa_nil)) (pe_glob (v := .int 6) rfl g_MOST_GRINDINGS ⟨_, rfl⟩)))))) (pss_one ps_never) pss_nil) (pss_cons (ps_for PassesOwn.never rfl (k_enum (K := K) rfl (by rfl) B.enumerate (pa_cons (pv 3) pa_nil)) (k_tup (K := K) (n := 2) rfl rfl (pgs_cons (pg_name (i := 4) sc_Bench___init__.nd rfl (Or.inl rfl)) (pgs_cons (pg_name (i := 5) sc_Bench___init__.nd rfl (Or.inl rfl)) pgs_nil))) (pss_one (ps_if (pt_not (pt_val (pe_d d_is_grinding (hr.mono (by decide)) (by rfl) (pa_cons (pv 5) (pa_cons (pe_callB (k_len (K := K) rfl) (by rfl) B.len bb_len (pa_cons (pv 1) pa_nil)) (pa_cons (pv 2) pa_nil)))))) (pss_one ps_never) pss_nil))) (pss_cons (k_sfld (K := K) rfl (pv 0) (pe_callTy (k_list (K := K) rfl) (by rfl) B.list bb_list (pa_cons (pv 1) pa_nil)) rfl) (pss_cons (k_sfld (K := K) rfl (pv 0) (pv 2) rfl) (pss_cons (k_sfld (K := K) rfl (pv 0) (pe_callTy (k_list (K := K) rfl) (by rfl) B.list bb_list (pa_cons (pv 3) pa_nil)) rfl) (pss_cons (k_sfld (K := K) rfl (pv 0) (pe_lc2 (own := [("one", 6), ("place", 7)]) (vs1 := [7]) rfl sc_Bench___init__.nd (k_seq (K := K) rfl (pv 1)) (blkOk_by (own := [("one", 6), ("place", 7)]) (N := n_Bench___init__) (sc := defScope s_Bench___init__) (by decide +kernel)) (by decide) (fun _ _ _ _ _ => (pg_name (i := 6) sc_Bench___init__.nd rfl (Or.inl rfl))) (fun _ _ _ _ _ => pts_nil) (fun _ _ _ _ _ => (pi_range1 (by rfl) B.range (pa_cons (pv 2) pa_nil))) (fun _ _ _ _ _ => (pg_name (i := 7) sc_Bench___init__.nd rfl (Or.inl rfl))) (fun _ _ _ _ _ => pts_nil) (fun _ _ _ _ _ => (pv 6))) rfl) (pss_one (k_sfld (K := K) rfl (pv 0) (pe_lc (own := [("thing", 5)]) rfl sc_Bench___init__.nd (k_seq (K := K) rfl (pv 3)) (blkOk_by (own := [("thing", 5)]) (N := n_Bench___init__) (sc := defScope s_Bench___init__) (by decide +kernel)) (fun _ _ _ _ _ => (pg_name (i := 5) sc_Bench___init__.nd rfl (Or.inl rfl))) (fun _ _ _ _ _ => pts_nil) (fun _ _ _ _ _ => (pe_dm d_Bench_pairs_of (hr.mono (by decide)) T.cl (pv 0) (pa_cons (pv 5) pa_nil)))) rfl)))))))))), ?_⟩; refine start_eq (σ' := [some (.ref x), some (.ref lh), some (.int (B1.places : Int)), some (.ref lg), none, none, none, none]) rfl ?_
    walk_at "rd"
    have hhH := sqL_mono (e0.fh) hh
    refine ⟨lh, _, rfl, hhH, by simp; omega, kn_int, fun H2 s2 => ?_⟩
    rw [hard_whole ok, List.length_map, decide_eq_true (by omega), Bool.true_and]
    have e2 : Ext F1 H1 F1 H2 := ⟨e0.hh.trans s2, Same.refl _, e0.fh.trans s2, fun _ _ h => h⟩
    have hx2 := s2 _ _ hx0
    walk_at "rd"
    refine ⟨.int B1.places, some 1, some 3, rfl, .inl ⟨_, rfl⟩, ?_⟩
    rw [whole_pl p2.1 p2.2]
    walk_at "rd"
    refine isB (ty_lst (sqL_mono e2.fh hgx)) kb_ll ?_
    walk_at "rd"
    refine s_lenL (sqL_mono e2.fh hgx) ?_
    walk_at "rd"
    rw [decide_eq_true (show (1 : Int) ≤ (gx.length : Int) by omega)]
    walk_at "rd"
    rw [decide_eq_true (show (gx.length : Int) ≤ 6 by omega)]
    walk_at "rd"
    refine ⟨lg, gx, rfl, sqL_mono e2.fh hgx, ?_⟩
    refine for_w (walk_enum (xs := gx)) (fun i σ H3 => ∃ y4 y5, σ = [some (.ref x), some (.ref lh), some (.int (B1.places : Int)), some (.ref lg), y4, y5, none, none] ∧ Ext F1 H1 F1 H3 ∧ H3 x = some (.ins C dx [])) ?_ ?_ ?_ ?_
    · exact ⟨none, none, rfl, e2, hx2⟩
    · rintro i σ H3 _ ⟨_, _, _, e, _⟩
      exact sqL_mono e.fh hgx
    · rintro i v σ H3 H4 hi ⟨y4, y5, rfl, e, hx3⟩ ⟨Tp, x1, x2, rfl, nT, rfl, g1, g2⟩
      cases g1
      have g2 : gx[i]? = some x2 := g2
      have hti : B1.told[i]? = some (B1.told[i]'(by omega)) := List.getElem?_eq_getElem (by omega)
      obtain ⟨v, hv, dv⟩ := dpAll_get (i := i) hga (by rw [List.getElem?_map, hti]; rfl)
      rw [g2] at hv
      cases hv
      have ein := ok.each _ (List.mem_of_getElem? hti)
      have e4 : Ext F1 H1 F1 (upd H3 Tp (.tup [.int i, x2])) := e.mut nT
      have hx4 : (upd H3 Tp (.tup [.int i, x2])) x = some (.ins C dx []) := rH_new nT hx3
      refine s_gt rT_at rfl ?_
      generalize upd H3 Tp (.tup [.int i, x2]) = H5 at *
      walk_at "rd"
      refine s_lenL (sqL_mono e4.fh hh) ?_
      walk_at "rd"
      refine ⟨x2, _, B1.hard.length, B1.places, by simp, dp_mono e4.fh dv, ein.1, ein.2.1, ein.2.2.1, ein.2.2.2, by omega, fun H6 s6 => ?_⟩
      walk_at "rd"
      exact ⟨_, _, rfl, ⟨e4.hh.trans s6, Same.refl _, e4.fh.trans s6, fun _ _ h => h⟩, s6 _ _ hx4⟩
    · rintro σ H3 ⟨y4, y5, rfl, e, hx3⟩
      walk_at "rd"
      -- self.hard
      refine s_listL (sqL_mono e.fh hh) fun l1 n1 => ?_
      walk_at "rd"
      refine ⟨_, _, _, _, rfl, rH_new n1 hx3, T.cl, T.n_hard, by decide, ?_⟩
      have m1 : l1 ≠ x := fun z => by rw [z, hx3] at n1; cases n1
      have fx : F1 x = none := sub_none hF nx
      have e5 : Ext F1 H1 (upd F1 l1 (.lst (B1.hard.map V.int))) (upd (upd H3 l1 (.lst (B1.hard.map V.int))) x (.ins C dx (putF "hard" (.ref l1) []))) := (e.new n1).chg nx (by rw [upd_ne (Ne.symm m1)]; exact fx)
      have hx5 : (upd (upd H3 l1 (.lst (B1.hard.map V.int))) x (.ins C dx (putF "hard" (.ref l1) []))) x = some (.ins C dx (putF "hard" (.ref l1) [])) := upd_same
      have f5 : (upd F1 l1 (.lst (B1.hard.map V.int))) l1 = some (.lst (B1.hard.map V.int)) := upd_same
      have fx5 : (upd F1 l1 (.lst (B1.hard.map V.int))) x = none := by rw [upd_ne (Ne.symm m1)]; exact fx
      generalize upd (upd H3 l1 (.lst (B1.hard.map V.int))) x (.ins C dx (putF "hard" (.ref l1) [])) = H5 at *
      generalize upd F1 l1 (.lst (B1.hard.map V.int)) = F5 at *
      -- self.places
      walk_at "rd"
      refine ⟨_, _, _, _, rfl, hx5, T.cl, T.n_places, Nat.lt_of_le_of_lt (pf pf0) (by decide), ?_⟩
      have e6 := e5.chg (o := .ins C dx (putF "places" (.int (B1.places : Int)) (putF "hard" (.ref l1) []))) nx fx5
      have hx6 : (upd H5 x (.ins C dx (putF "places" (.int (B1.places : Int)) (putF "hard" (.ref l1) [])))) x = some (.ins C dx (putF "places" (.int (B1.places : Int)) (putF "hard" (.ref l1) []))) := upd_same
      generalize upd H5 x (.ins C dx (putF "places" (.int (B1.places : Int)) (putF "hard" (.ref l1) []))) = H6 at *
      -- self.told
      walk_at "rd"
      refine s_listL (sqL_mono (e6.ff.trans e6.fh) hgx) fun l2 n2 => ?_
      walk_at "rd"
      refine ⟨_, _, _, _, rfl, rH_new n2 hx6, T.cl, T.n_told, Nat.lt_of_le_of_lt (pf (pf pf0)) (by decide), ?_⟩
      have m2 : l2 ≠ x := fun z => by rw [z, hx6] at n2; cases n2
      have fx7 : (upd F5 l2 (.lst gx)) x = none := by rw [upd_ne (Ne.symm m2)]; exact fx5
      have e7 := ((e6.new (o := .lst gx) n2)).chg (o := .ins C dx (putF "told" (.ref l2) (putF "places" (.int (B1.places : Int)) (putF "hard" (.ref l1) [])))) nx fx7
      have hx7 : (upd (upd H6 l2 (.lst gx)) x (.ins C dx (putF "told" (.ref l2) (putF "places" (.int (B1.places : Int)) (putF "hard" (.ref l1) []))))) x = some (.ins C dx (putF "told" (.ref l2) (putF "places" (.int (B1.places : Int)) (putF "hard" (.ref l1) [])))) := upd_same
      have f7 : (upd F5 l2 (.lst gx)) l2 = some (.lst gx) := upd_same
      have s57 : Same F5 (upd F5 l2 (.lst gx)) := same_upd (sub_none e6.fh n2)
      generalize upd (upd H6 l2 (.lst gx)) x (.ins C dx (putF "told" (.ref l2) (putF "places" (.int (B1.places : Int)) (putF "hard" (.ref l1) [])))) = H7 at *
      generalize upd F5 l2 (.lst gx) = F7 at *
      -- self.heavy
      walk_at "rd"
      refine .inl ⟨_, rfl, ⟨_, sqL_mono (e7.ff.trans e7.fh) hh⟩, ?_⟩
      refine lc2_map (walk_list (xs := B1.hard.map V.int)) e7.fh (fun H' s' => sqL_mono (e7.ff.trans s') hh) (B1.hard.map fun h => List.replicate B1.places (V.int h)) (by simp) ?_ ?_ ?_
      · rw [heavy_flat, List.length_map]
        have := ok.heavy_lt
        exact Nat.lt_of_le_of_lt this (by decide)
      · intro i v row F' Ha Hb D Nx hrow ex fd hacc hy hz
        obtain ⟨rfl, hv⟩ := hy
        have hi : i < B1.hard.length := by
          have := (List.getElem?_eq_some_iff.mp hrow).1
          simpa using this
        have ev : v = .int B1.hard[i] := by
          rw [List.getElem?_map, List.getElem?_eq_getElem hi] at hv
          exact (Option.some.inj hv).symm
        have er : row = List.replicate B1.places (V.int B1.hard[i]) := by
          rw [List.getElem?_map, List.getElem?_eq_getElem hi] at hrow
          exact (Option.some.inj hrow).symm
        subst ev er
        obtain ⟨acc, ha, hal⟩ := hacc
        walk_at "rd"
        refine ⟨rfl, ?_⟩
        walk_at "rd"
        refine ⟨_, rfl, by omega, by omega, ?_⟩
        refine in_map walk_range (F := F') ex.fh (fun _ _ => trivial) fd ha (List.replicate B1.places (V.int B1.hard[i])) (by simp) (by simp at hal ⊢; omega) ?_ ?_
        · intro j v2 y Hc Hd Z hrj _ _ hy2 hz2
          obtain ⟨rfl, rfl⟩ := hy2
          have : y = .int B1.hard[i] := by
            have := List.mem_of_getElem? hrj
            exact (List.mem_replicate.mp this).2
          subst this
          walk_at "rd"
          refine ⟨rfl, ?_⟩
          walk_at "rd"
          exact hz2 _ (Same.refl _)
        · intro H'' f1 f2 f3
          exact hz acc ha H'' f1 f2 f3
      · intro l3 F8 H8 n3 e8 f8
        rw [heavy_flat] at f8
        have e18 := e7.trans e8
        have m3 : l3 ≠ x := fun z => by rw [z, hx7] at n3; cases n3
        have fx8 : F8 x = none := e8.fr x (by rw [hx7]; simp) fx7
        have hx8 := e8.hh _ _ hx7
        walk_at "rd"
        refine ⟨_, _, _, _, rfl, hx8, T.cl, T.n_heavy, Nat.lt_of_le_of_lt (pf (pf (pf pf0))) (by decide), ?_⟩
        have e9 := e18.chg (o := .ins C dx (putF "heavy" (.ref l3) (putF "told" (.ref l2) (putF "places" (.int (B1.places : Int)) (putF "hard" (.ref l1) []))))) nx fx8
        have hx9 : (upd H8 x (.ins C dx (putF "heavy" (.ref l3) (putF "told" (.ref l2) (putF "places" (.int (B1.places : Int)) (putF "hard" (.ref l1) [])))))) x = some (.ins C dx (putF "heavy" (.ref l3) (putF "told" (.ref l2) (putF "places" (.int (B1.places : Int)) (putF "hard" (.ref l1) []))))) := upd_same
        generalize upd H8 x (.ins C dx (putF "heavy" (.ref l3) (putF "told" (.ref l2) (putF "places" (.int (B1.places : Int)) (putF "hard" (.ref l1) []))))) = H9 at *
        -- self.meets
        walk_at "rd"
        refine .inl ⟨_, rfl, ⟨_, sqL_mono (e9.ff.trans e9.fh) hgx⟩, ?_⟩
        refine lc_map (walk_list (xs := gx)) e9.fh (by omega) (fun H' s' => sqL_mono (e9.ff.trans s') hgx) (fun i F' v => ∃ g, B1.told[i]? = some g ∧ Dp K F' v (.list ((pairsOf B1.places g).map pD))) (fun _ _ _ _ s' h => by obtain ⟨g, h1, h2⟩ := h; exact ⟨g, h1, dp_mono s' h2⟩) (fun i v F' Ha Hb D Z hi ex fd _ hy hz => ?_) (fun l4 ys F' H' n4 ex hd hlen hR => ?_)
        · obtain ⟨rfl, hv⟩ := hy
          have hti : B1.told[i]? = some (B1.told[i]'(by omega)) := List.getElem?_eq_getElem (by omega)
          obtain ⟨v', hv', dv⟩ := dpAll_get (i := i) hga (by rw [List.getElem?_map, hti]; rfl)
          rw [hv] at hv'
          cases hv'
          have ein := ok.each _ (List.mem_of_getElem? hti)
          walk_at "rd"
          refine ⟨rfl, ?_⟩
          walk_at "rd"
          refine ⟨_, _, _, rfl, ex.hh _ _ hx9, rfl, ?_⟩
          walk_at "rd"
          refine ⟨x, dx, _, B1.places, _, v, F', rfl, ex.hh _ _ hx9, rfl, dp_mono (e9.ff.trans (ex.ff.trans ex.fh)) dv, ?_, by omega, by omega, by omega, ex.fh, fun u F4 H4 e4 d4 => ?_⟩
          · rw [ein.2.2.2.length_eq, List.length_range]
          · exact hz u F4 H4 e4 ⟨_, hti, d4⟩
        · have e19 := e9.trans ex
          have fx9 : F' x = none := ex.fr x (by rw [hx9]; simp) fx8
          walk_at "rd"
          refine ⟨_, _, _, _, rfl, ex.hh _ _ hx9, T.cl, T.n_meets, Nat.lt_of_le_of_lt (pf (pf (pf (pf pf0)))) (by decide), ?_⟩
          have e20 := e19.chg (o := .ins C dx (putF "meets" (.ref l4) (putF "heavy" (.ref l3) (putF "told" (.ref l2) (putF "places" (.int (B1.places : Int)) (putF "hard" (.ref l1) [])))))) nx fx9
          have e21 := e20.frz nx fx9 upd_same
          refine q _ _ e21 ⟨dx, l1, l2, l3, l4, ?_, ?_, ?_, ?_, ?_⟩
          · rw [upd_same]
            rfl
          · exact sqL_mono (((s57.trans e8.ff).trans ex.ff).trans (same_upd fx9)) (.inl (.inl f5))
          · exact dp_mono ((e8.ff.trans ex.ff).trans (same_upd fx9)) (.lst (.inl (.inl f7)) (dpAll_mono e7.ff hga))
          · exact sqL_mono (ex.ff.trans (same_upd fx9)) (.inl (.inl f8))
          · refine dp_mono (same_upd fx9) (.lst (.inl (.inl hd)) (dpAll_of ?_ fun i v d h1 h2 => ?_))
            · rw [hlen, glen, List.length_map, B1.meets_len]
            · obtain ⟨g, h3, h4⟩ := hR i v h1
              simp only [BD.meets, List.getElem?_map, h3, Option.map_some] at h2
              cases h2
              exact h4
end
end G

namespace G
open PySem PySem.Spec PyProof.Rows L2
local macro_rules | `(tactic| walk_at "lk") => `(tactic| first | assumption | exact rT_at | exact rL_at | exact upd_same | (refine sqT_mono ?_ (by assumption); assumption) | (refine sqL_mono ?_ (by assumption); assumption) | (refine rT_new (by assumption) ?_; walk_at "lk") | (refine rL_new (by assumption) ?_; walk_at "lk") | (refine rH_new (by assumption) ?_; walk_at "lk") | (refine rD_new (by assumption) ?_; walk_at "lk") | (refine dp_mono ?_ (by assumption); assumption))
local macro_rules | `(tactic| walk_at "r1") => `(tactic| first | ((with_reducible show tVar _ _ _ _); refine s_var rfl ?_) | with_reducible refine s_c ?_ | with_reducible refine s_op ?_ | with_reducible refine s_un ?_ | with_reducible refine s_neg ?_ | with_reducible refine s_test ?_ | with_reducible refine s_B ?_ | with_reducible refine s_bl ?_ | with_reducible refine s_not ?_ | with_reducible refine s_yes ?_ | with_reducible refine s_and ?_ | with_reducible refine s_or ?_ | with_reducible refine s_notV ?_ | with_reducible refine s_andV ?_ | with_reducible refine s_orV ?_ | with_reducible refine s_if ?_ | with_reducible refine s_cT ?_ | with_reducible refine s_cF ?_ | with_reducible refine s_nT ?_ | with_reducible refine s_nF ?_ | with_reducible refine s_addI ?_ | with_reducible refine s_eqI ?_ | with_reducible refine s_neI ?_ | with_reducible refine s_eqB ?_ | with_reducible refine s_neB ?_ | with_reducible refine s_I0 ?_ | with_reducible refine s_non ?_ | with_reducible refine s_int ?_ | with_reducible refine s_chain ?_ | with_reducible refine s_cons ?_ | with_reducible refine s_nil ?_ | with_reducible refine s_call ?_ | with_reducible refine s_cb ?_ | with_reducible refine s_meth ?_ | with_reducible refine s_make ?_ | with_reducible refine s_tup ?_ | with_reducible refine s_lst ?_ | with_reducible refine s_bm ?_ | with_reducible refine s_bm0 ?_ | with_reducible refine s_bmT ?_ | with_reducible refine s_fld ?_ | with_reducible refine s_dget ?_ | with_reducible refine s_sl ?_ | with_reducible refine s_part ?_ | with_reducible refine s_nopart ?_ | with_reducible refine s_seq ?_ | with_reducible refine s_next ?_ | with_reducible refine s_asg ?_ | with_reducible refine s_gn ?_ | with_reducible refine s_gc ?_ | with_reducible refine s_g0 ?_ | with_reducible refine s_gs ?_ | with_reducible refine s_ret ?_ | with_reducible refine s_ifS ?_ | with_reducible refine s_drop ?_ | with_reducible refine s_augS ?_ | ((with_reducible show tAug _ _ _ _ _ _); refine s_aug rfl ?_) | with_reducible refine s_ipI ?_ | with_reducible refine s_for ?_ | with_reducible refine s_iseq ?_ | with_reducible refine s_rng1 ?_ | with_reducible refine s_izip ?_ | with_reducible refine s_lc ?_ | with_reducible refine s_lc2 ?_ | with_reducible refine s_lstRg ?_ | with_reducible refine s_rg1 ?_ | with_reducible refine s_sfld ?_ | with_reducible refine s_ienum ?_ | with_reducible refine s_disp ?_ | with_reducible refine s_pc ?_ | with_reducible refine s_pn ?_)
local macro_rules | `(tactic| walk_at "rd") => `(tactic| repeat walk_at "r1")

section
variable {P : Program} {w : World} {K : PySem.W.Frag} {mg : Str → Option Value} {base : Heap} {C : Addr}
abbrev s__law_digit : Stmt := topS 29
abbrev n__law_digit : List Str := ["_law_state", "_law_base", "_law_found", "_law_mixed"]
theorem sc__law_digit : FnScope ["_law_state", "_law_base", "_law_found", "_law_mixed"] ["_law_state", "_law_base"] (defScope s__law_digit) := ⟨rfl, rfl, rfl, by decide +kernel, rfl, by decide +kernel, by decide +kernel⟩
def spDigit (K : PySem.W.Frag) : Sp := fun vs H Q _ => ∃ st s, ∃ b : Int, vs = [.ref st, .int b] ∧ H st = some (.lst s) ∧ StOk s ∧ (∀ n, CDivW n b) ∧
  ∀ d s' H', 0 ≤ d → d < b → StOk s' → (∀ a o, a ≠ st → H a = some o → H' a = some o) → H' st = some (.lst s') → Q (.int d) H'
theorem ok_digit (B : Blt mg) (F : FunAt K mg "_law_digit" s__law_digit ["_law_state", "_law_base"]) : Def P w K mg base 1 "_law_digit" ["_law_state", "_law_base"] (spDigit K) := by
  refine F.def (k := 0) sc__law_digit (fun vs H Q E h => ?_) (fun f cdv A outer s H vs Q E hr h => ?_)
  · obtain ⟨st, s, b, rfl, _⟩ := h
    rfl
  · obtain ⟨st, s, b, rfl, hst, ok, hb, q⟩ := h
    have b0 : 0 < b := (hb 0).1
    refine ⟨_, (pss_cons (ps_if (pt_cmpR (k_eq (K := K) rfl hr.units) (pe_callB (k_len (K := K) rfl) (by rfl) B.len bb_len (pa_cons (pv 0) pa_nil)) pe_int (nomark _)) (pss_one (ps_expr (k_bm (K := K) rfl PySem.F.plainAttrs_list PySem.F.slot_list_extend PySem.F.type_list_extend mt_extend (pv 0) (pa_cons (pe_lst (pa_cons (pe_op op_mod (pe_ix (k_ix (K := K) rfl) (pv 0) pe_int (fun _ _ => rfl)) pe_int) (pa_cons pe_int pa_nil))) pa_nil)))) pss_nil) (pss_cons (ps_if (pt_cmpR op_ge (pe_ix (k_ix (K := K) rfl) (pv 0) pe_int (fun _ _ => rfl)) (pv 1) (nomark _)) (pss_cons (ps_set (i := 2) sc__law_digit.nd rfl (Or.inl rfl) (pe_op op_mod (pe_ix (k_ix (K := K) rfl) (pv 0) pe_int (fun _ _ => rfl)) (pv 1))) (pss_cons (ps_asg (pe_op op_fdivW (pe_ix (k_ix (K := K) rfl) (pv 0) pe_int (fun _ _ => rfl)) (pv 1)) (pg_sub (pv 0) pe_int set_list)) (pss_one (ps_ret (pv 2))))) pss_nil) (pss_cons (ps_asg (pe_op (k_add (K := K) rfl) (pe_ix (k_ix (K := K) rfl) (pv 0) pe_int (fun _ _ => rfl)) pe_int) (pg_sub (pv 0) pe_int set_list)) (pss_cons (ps_set (i := 3) sc__law_digit.nd rfl (Or.inl rfl) (pe_op op_mod (pe_op opMulU (pe_op (k_add (K := K) rfl) (pe_ix (k_ix (K := K) rfl) (pv 0) pe_int (fun _ _ => rfl)) (pe_op opMulU pe_int (pe_ix (k_ix (K := K) rfl) (pv 0) pe_int (fun _ _ => rfl)))) pe_int) pe_int)) (pss_one (ps_ret (pe_op op_mod (pe_op op_fdivW (pe_op op_mod (pe_op opMulU (pe_op (k_add (K := K) rfl) (pv 3) (pe_op op_fdivW (pv 3) pe_int)) (pe_op (k_add (K := K) rfl) (pe_op op_fdivW (pv 3) pe_int) pe_int)) pe_int) pe_int) (pv 1)))))))), ?_⟩; refine start_eq (σ' := [some (.ref st), some (.int b), none, none]) rfl ?_
    refine s_cut (fun σ H2 => ∃ n m c : Int, σ = [some (.ref st), some (.int b), none, none] ∧ (∀ a o, a ≠ st → H a = some o → H2 a = some o) ∧ H2 st = some (.lst [.int n, .int m, .int c])) (fun U hU => ?_) ?_
    · rcases ok with ⟨n, rfl⟩ | ⟨n, m, c, rfl⟩
      · walk_at "rd"
        refine s_lenL (.inl (.inl hst)) ?_
        walk_at "rd"
        refine s_dT rfl ?_
        walk_at "rd"
        refine ⟨tyV_lst hst, ?_⟩
        walk_at "rd"
        refine s_ixL (.inl (.inl hst)) rfl ?_
        walk_at "rd"
        refine s_I (show (0 : Int) < 2147483647 by decide) ?_
        walk_at "rd"
        refine ⟨by show 2 ≤ sizeLine; decide, fun p np => ?_⟩
        walk_at "rd"
        refine s_extd (rH_new np hst) upd_same (by show 3 ≤ 100000; decide) ?_
        walk_at "rd"
        refine hU _ _ ⟨n, _, _, rfl, fun a o ha h => ?_, upd_same⟩
        rw [upd_ne ha]
        exact rH_new np h
      · walk_at "rd"
        refine s_lenL (.inl (.inl hst)) ?_
        walk_at "rd"
        refine s_dF (by simp) ?_
        walk_at "rd"
        exact hU _ _ ⟨n, m, c, rfl, fun a o _ h => h, hst⟩
    · rintro σ H2 ⟨n, m, c, rfl, keep, hst⟩
      walk_at "rd"
      refine s_ixL (.inl (.inl hst)) rfl ?_
      walk_at "rd"
      refine s_d2 (fun e => ?_) (fun e => ?_)
      · walk_at "rd"
        refine s_ixL (.inl (.inl hst)) rfl ?_
        walk_at "rd"
        refine s_I b0 ?_
        walk_at "rd"
        refine s_ixL (.inl (.inl hst)) rfl ?_
        walk_at "rd"
        refine s_I (hb n) ?_
        walk_at "rd"
        refine s_setL hst rfl ?_
        walk_at "rd"
        refine q _ [.int (n / b), .int m, .int c] _ (Int.emod_nonneg _ (by omega)) (Int.emod_lt_of_pos _ b0) (.inr ⟨_, _, _, rfl⟩) (fun a o ha h => ?_) upd_same
        rw [upd_ne ha]
        exact keep a o ha h
      · walk_at "rd"
        refine s_ixL (.inl (.inl hst)) rfl ?_
        walk_at "rd"
        refine s_setL hst rfl ?_
        walk_at "rd"
        refine s_ixL rL_at rfl ?_
        walk_at "rd"
        refine s_ixL rL_at rfl ?_
        walk_at "rd"
        refine s_mulI (.inl ⟨by decide, by decide⟩) ?_
        walk_at "rd"
        refine s_mulI (.inr ⟨by decide, by decide⟩) ?_
        walk_at "rd"
        refine s_I (show (0 : Int) < 2147483647 by decide) ?_
        generalize hm : (m + 7919 * (c + 1)) * 48271 % 2147483647 = mx
        have m0 : 0 ≤ mx := by rw [← hm]; exact Int.emod_nonneg _ (by decide)
        have m1 : mx < 2147483647 := by rw [← hm]; exact Int.emod_lt_of_pos _ (by decide)
        walk_at "rd"
        refine s_I (div_small (by decide) (by decide)) ?_
        walk_at "rd"
        refine s_I (div_small (by decide) (by decide)) ?_
        walk_at "rd"
        refine s_mulI (.inl ⟨by omega, by omega⟩) ?_
        walk_at "rd"
        refine s_I (show (0 : Int) < 2147483629 by decide) ?_
        walk_at "rd"
        refine s_I (div_small (by decide) (by decide)) ?_
        walk_at "rd"
        refine s_I b0 ?_
        refine q _ [.int n, .int m, .int (c + 1)] _ (Int.emod_nonneg _ (by omega)) (Int.emod_lt_of_pos _ b0) (.inr ⟨_, _, _, rfl⟩) (fun a o ha h => ?_) upd_same
        rw [upd_ne ha]
        exact keep a o ha h
/-- a draw, as its callers see it -/
theorem draw {st : Addr} {F0 H0 F H : Hp} {Q : VK} {b : Int} (e : SExt st F0 H0 F H) (hb : ∀ n, CDivW n b) (q : ∀ d H', 0 ≤ d → d < b → SExt st F0 H0 F H' → (∀ a o, a ≠ st → H a = some o → H' a = some o) → Q (.int d) H') : spDigit K [.ref st, .int b] H Q E0 := by
  obtain ⟨s, hs, ok⟩ := e.st
  refine ⟨st, s, b, rfl, hs, ok, hb, fun d s' H' h0 h1 ok' k hs' => q d H' h0 h1 ⟨?_, s', hs', ok'⟩ k⟩
  refine ⟨e.ext.hh.trans fun a o h => ?_, e.ext.ff, fun a o h => ?_, e.ext.fr⟩
  · have : a ≠ st := fun z => by rw [z, del_same] at h; cases h
    rw [del_ne this] at h ⊢
    exact k a o this h
  · have h' := e.ext.fh a o h
    have : a ≠ st := fun z => by rw [z, del_same] at h'; cases h'
    rw [del_ne this] at h' ⊢
    exact k a o this h'
theorem small_b {b : Int} (h1 : 0 < b) (h2 : b ≤ 1000000) : ∀ n, CDivW n b := fun n => div_small h1 h2
abbrev s__law_made : Stmt := topS 30
abbrev n__law_made : List Str := ["_law_hard", "_law_places", "_law_told", "_law_meets", "_law_one", "_law_other", "_law_turn", "_law_heavy", "_law_plate", "_law_at"]
theorem sc__law_made : FnScope ["_law_hard", "_law_places", "_law_told", "_law_meets", "_law_one", "_law_other", "_law_turn", "_law_heavy", "_law_plate", "_law_at"] ["_law_hard", "_law_places", "_law_told"] (defScope s__law_made) := ⟨rfl, rfl, rfl, by decide +kernel, rfl, by decide +kernel, by decide +kernel⟩
def spMade (K : PySem.W.Frag) : Sp := fun vs H Q _ => ∃ lh lg B F, vs = [.ref lh, .int (B.places : Int), .ref lg] ∧ Same F H ∧ BOk B ∧ SqL K F lh (B.hard.map V.int) ∧ Dp K F (.ref lg) (.list (B.told.map gD)) ∧
  ∀ m F' H', Ext F H F' H' → ModelAt K F' m B → Q (.ref m) H'
theorem flat_take (l : List Int) (n : Nat) (i : Nat) (h : i < l.length) : ((l.take (i + 1)).flatMap fun h => List.replicate n h) = ((l.take i).flatMap fun h => List.replicate n h) ++ List.replicate n l[i] := by
  rw [List.take_add_one, List.getElem?_eq_getElem h, List.flatMap_append]
  simp
theorem ok_made (B0 : Blt mg) (F : FunAt K mg "_law_made" s__law_made ["_law_hard", "_law_places", "_law_told"]) : Def P w K mg base 1 "_law_made" ["_law_hard", "_law_places", "_law_told"] (spMade K) := by
  refine F.def (k := 0) sc__law_made (fun vs H Q E h => ?_) (fun f cdv A outer s H vs Q E hr h => ?_)
  · obtain ⟨lh, lg, B, F, rfl, _⟩ := h
    rfl
  · obtain ⟨lh, lg, B1, F, rfl, hF, ok, hh, hg, q⟩ := h
    have B := B0
    obtain ⟨gx, hgx, hga⟩ := dp_list hg
    have glen : gx.length = B1.told.length := by rw [dpAll_len hga, List.length_map]
    have p1 := ok.plates
    have p2 := ok.places
    have p3 := ok.told
    refine ⟨_, (pss_cons (ps_set (i := 3) sc__law_made.nd rfl (Or.inl rfl) (pe_lst pa_nil)) (pss_cons (ps_for PassesOwn.never rfl (k_seq (K := K) rfl (pv 2)) (k_tup (K := K) (n := 3) rfl rfl (pgs_cons (pg_name (i := 4) sc__law_made.nd rfl (Or.inr rfl)) (pgs_cons (pg_name (i := 5) sc__law_made.nd rfl (Or.inr rfl)) (pgs_cons (pg_name (i := 6) sc__law_made.nd rfl (Or.inr rfl)) pgs_nil)))) (pss_one (ps_expr (k_bm (K := K) rfl PySem.F.plainAttrs_list PySem.F.slot_list_append PySem.F.type_list_append mt_append (pv 3) (pa_cons (pe_lc (own := [("_law_at", 9)]) rfl sc__law_made.nd (pi_range1 (by rfl) B.range (pa_cons (pv 1) pa_nil)) (blkOk_by (own := [("_law_at", 9)]) (N := n__law_made) (sc := defScope s__law_made) (by decide +kernel)) (fun _ _ _ _ _ => (pg_name (i := 9) sc__law_made.nd rfl (Or.inl rfl))) (fun _ _ _ _ _ => pts_nil) (fun _ _ _ _ _ => (pe_tup (pa_cons (pe_op (k_add (K := K) rfl) (pe_op opMulU (pv 4) (pv 1)) (pv 9)) (pa_cons (pe_op (k_add (K := K) rfl) (pe_op opMulU (pv 5) (pv 1)) (pe_ix (k_ix (K := K) rfl) (pv 6) (pv 9) (fun _ _ => rfl))) pa_nil))))) pa_nil))))) (pss_cons (ps_set (i := 7) sc__law_made.nd rfl (Or.inl rfl) (pe_lst pa_nil)) (pss_cons (ps_for PassesOwn.never rfl (k_seq (K := K) rfl (pv 0)) (pg_name (i := 8) sc__law_made.nd rfl (Or.inl rfl)) (pss_one (ps_expr (k_bm (K := K) rfl PySem.F.plainAttrs_list PySem.F.slot_list_extend PySem.F.type_list_extend mt_extend (pv 7) (pa_cons (pe_op opMulU (pe_lst (pa_cons (pv 8) pa_nil)) (pv 1)) pa_nil))))) (pss_one (ps_ret (pe_disp (pps_cons pe_str (pv 0) (pps_cons pe_str (pv 1) (pps_cons pe_str (pv 2) (pps_cons pe_str (pv 7) (pps_cons pe_str (pv 3) pps_nil))))) (by rfl) (by rfl) (fun z => by cases z) (by decide)))))))), ?_⟩; refine start_eq (σ' := [some (.ref lh), some (.int (B1.places : Int)), some (.ref lg), none, none, none, none, none, none, none]) rfl ?_
    walk_at "rd"
    refine ⟨Nat.zero_le _, fun lm nm => ?_⟩
    have e1 : Ext F H F (upd H lm (.lst [])) := (Ext.refl hF).mut nm
    have hm1 : (upd H lm (.lst [])) lm = some (.lst []) := upd_same
    generalize upd H lm (.lst []) = H1 at *
    walk_at "rd"
    refine .inl ⟨lg, rfl, ⟨_, sqL_mono e1.fh hgx⟩, ?_⟩
    refine for_w (walk_list (xs := gx)) (fun i σ H2 => ∃ y4 y5 y6 F2 acc, σ = [some (.ref lh), some (.int (B1.places : Int)), some (.ref lg), some (.ref lm), y4, y5, y6, none, none, none] ∧ Ext F H F2 H2 ∧ F2 lm = none ∧ H2 lm = some (.lst acc) ∧ acc.length = i ∧
      ∀ (j : Nat) v, acc[j]? = some v → ∃ g, B1.told[j]? = some g ∧ Dp K F2 v (.list ((pairsOf B1.places g).map pD))) ?_ ?_ ?_ ?_
    · exact ⟨none, none, none, F, [], rfl, e1, sub_none hF nm, hm1, rfl, fun j v h => by simp at h⟩
    · rintro i σ H2 _ ⟨_, _, _, F2, acc, _, e, _⟩
      exact sqL_mono (e.ff.trans e.fh) hgx
    · rintro i v σ H2 H3 hi ⟨y4, y5, y6, F2, acc, rfl, e, fm, hm, hl, hr⟩ ⟨rfl, hv⟩
      have hti : B1.told[i]? = some (B1.told[i]'(by omega)) := List.getElem?_eq_getElem (by omega)
      obtain ⟨v', hv', dv⟩ := dpAll_get (i := i) hga (by rw [List.getElem?_map, hti]; rfl)
      rw [hv] at hv'
      cases hv'
      have ein := ok.each _ (List.mem_of_getElem? hti)
      generalize B1.told[i]'(by omega) = g at *
      obtain ⟨a, c, rfl, ha, hc⟩ := gD_at dv
      rw [natV] at hc
      have s0 := e.ff.trans e.fh
      have tl : g.2.2.length = B1.places := by rw [ein.2.2.2.length_eq, List.length_range]
      refine s_gt (sqT_mono s0 ha) rfl ?_
      walk_at "rd"
      refine ⟨tyV_lst hm, ?_⟩
      walk_at "rd"
      refine ⟨_, rfl, by omega, by omega, ?_⟩
      refine lc_map walk_range e.fh (by omega) (fun _ _ => trivial) (fun i F' v => Dp K F' v (pD (g.1 * B1.places + i, g.2.1 * B1.places + g.2.2.getD i 0))) (fun _ _ _ _ e h => dp_mono e h) (fun i x F' Ha Hb D Z hi ex fd _ hy hz => ?_) (fun D ys F' H' hD ex hd hlen hR => ?_)
      · obtain ⟨rfl, rfl⟩ := hy
        have hi' : i < B1.places := by omega
        walk_at "rd"
        refine ⟨rfl, ?_⟩
        walk_at "rd"
        refine s_mulI (.inl ⟨by omega, by omega⟩) ?_
        walk_at "rd"
        refine s_mulI (.inl ⟨by omega, by omega⟩) ?_
        walk_at "rd"
        refine s_ixT (sqT_mono (s0.trans ex.hh) hc) (by rw [Int.zero_add]; exact at_int (by simp; omega)) ?_
        walk_at "rd"
        refine ⟨by show 2 ≤ sizeLine; decide, fun p hp => ?_⟩
        refine hz (.ref p) _ _ ((Ext.refl ex.fh).new hp) ?_
        have e1 : ((g.2.2.map fun (x : Nat) => (x : Int)).getD i 0) = ((g.2.2.getD i 0 : Nat) : Int) := by
          rw [List.getD_eq_getElem?_getD, List.getD_eq_getElem?_getD, List.getElem?_map]
          cases g.2.2[i]? <;> rfl
        rw [e1, Int.zero_add]
        refine dp_tupI (ns := [_, _]) ?_
        simp only [List.map_cons, List.map_nil, Int.natCast_add, Int.natCast_mul]
        exact rT_at
      · have dnew : Dp K F' (.ref D) (.list ((pairsOf B1.places g).map pD)) := by
          refine .lst (.inl (.inl hd)) (dpAll_of ?_ fun i v d h1 h2 => ?_)
          · rw [hlen, List.length_map]
            simp [pairsOf]
          · have hi : i < B1.places := by
              have := (List.getElem?_eq_some_iff.mp h1).1
              omega
            rw [List.getElem?_map] at h2
            simp only [pairsOf, List.getElem?_map, List.getElem?_range hi, Option.map_some] at h2
            cases h2
            exact hR i v h1
        have fm' : F' lm = none := ex.fr lm (by rw [hm]; simp) fm
        walk_at "rd"
        refine s_app (ex.hh _ _ hm) (by omega) ?_
        refine ⟨_, _, _, F', acc ++ [.ref D], rfl, (e.trans ex).chg nm fm', fm', upd_same, by simp [hl], fun j v hv => ?_⟩
        by_cases hj : j < acc.length
        · rw [List.getElem?_append_left hj] at hv
          obtain ⟨g', h1, h2⟩ := hr j v hv
          exact ⟨g', h1, dp_mono ex.ff h2⟩
        · have : j = acc.length := by
            have := (List.getElem?_eq_some_iff.mp hv).1
            simp at this
            omega
          subst this
          rw [List.getElem?_append_right (Nat.le_refl _)] at hv
          simp at hv
          subst hv
          exact ⟨g, by rw [hl]; exact hti, dnew⟩
    · rintro σ H2 ⟨y4, y5, y6, F2, acc, rfl, e, fm, hm, hl, hr⟩
      walk_at "rd"
      refine ⟨Nat.zero_le _, fun lv nv => ?_⟩
      have m1 : lm ≠ lv := fun z => by rw [z, nv] at hm; cases hm
      have e2 : Ext F H F2 (upd H2 lv (.lst [])) := e.mut nv
      have hm2 : (upd H2 lv (.lst [])) lm = some (.lst acc) := rH_new nv hm
      have hv2 : (upd H2 lv (.lst [])) lv = some (.lst []) := upd_same
      have fv2 : F2 lv = none := sub_none e.fh nv
      have nvH : H lv = none := e.hh.free nv
      generalize upd H2 lv (.lst []) = H3 at *
      walk_at "rd"
      refine .inl ⟨lh, rfl, ⟨_, sqL_mono (e2.ff.trans e2.fh) hh⟩, ?_⟩
      refine for_w (walk_list (xs := B1.hard.map V.int)) (fun i σ H4 => ∃ y8, σ = [some (.ref lh), some (.int (B1.places : Int)), some (.ref lg), some (.ref lm), y4, y5, y6, some (.ref lv), y8, none] ∧ Ext F H F2 H4 ∧ H4 lm = some (.lst acc) ∧ H4 lv = some (.lst (((B1.hard.take i).flatMap fun h => List.replicate B1.places h).map V.int))) ?_ ?_ ?_ ?_
      · exact ⟨none, rfl, e2, hm2, by rw [hv2]; rfl⟩
      · rintro i σ H4 _ ⟨_, _, e4, _⟩
        exact sqL_mono (e4.ff.trans e4.fh) hh
      · rintro i v σ H4 H5 hi ⟨y8, rfl, e4, hm4, hv4⟩ ⟨rfl, hv⟩
        have hi' : i < B1.hard.length := by simpa using hi
        have ev : v = .int B1.hard[i] := by
          rw [List.getElem?_map, List.getElem?_eq_getElem hi'] at hv
          exact (Option.some.inj hv).symm
        subst ev
        have fl : ((B1.hard.take i).flatMap fun h => List.replicate B1.places h).length ≤ 100 := by
          rw [flat_len]
          have : (B1.hard.take i).length ≤ 4 := by simp; omega
          calc (B1.hard.take i).length * B1.places ≤ 4 * 3 := Nat.mul_le_mul this p2.2
            _ ≤ 100 := by decide
        walk_at "rd"
        refine ⟨tyV_lst hv4, ?_⟩
        walk_at "rd"
        refine ⟨by show 1 ≤ sizeLine; decide, fun p hp => ?_⟩
        walk_at "rd"
        refine .inr ⟨p, _, _, rfl, rfl, upd_same, by omega, by omega, ?_, fun p2 hp2 => ?_⟩
        · refine Nat.le_trans (?_ : _ ≤ 3) (by decide)
          simp
          omega
        walk_at "rd"
        have mp : lv ≠ p := fun z => by rw [z, hp] at hv4; cases hv4
        refine s_extd (rH_new hp2 (rH_new hp hv4)) upd_same ?_ ?_
        · rw [List.length_map]
          refine Nat.le_trans (Nat.add_le_add fl (?_ : _ ≤ 3)) (by decide)
          simp
          omega
        refine ⟨_, rfl, ((e4.mut hp).mut hp2).chg nvH fv2, ?_, ?_⟩
        · rw [upd_ne m1]
          exact rH_new hp2 (rH_new hp hm4)
        · rw [upd_same, flat_take B1.hard B1.places i hi', List.map_append]
          simp
      · rintro σ H4 ⟨y8, rfl, e4, hm4, hv4⟩
        rw [List.length_map, List.take_of_length_le (Nat.le_refl _)] at hv4
        walk_at "rd"
        intro m nmm
        have m3 : m ≠ lm := fun z => by rw [z, hm4] at nmm; cases nmm
        have m4 : m ≠ lv := fun z => by rw [z, hv4] at nmm; cases nmm
        walk_at "rd"
        refine ⟨upd_same, mkvs lh (B1.places : Int) lg lv lm, rfl, by show 5 ≤ 15; decide, ?_⟩
        rw [merge_mkvs, upd_upd]
        have e5 := (((e4.new (o := .dK (mkvs lh (B1.places : Int) lg lv lm)) nmm).frz nm (by rw [upd_ne (Ne.symm m3)]; exact fm) (rH_new nmm hm4))).frz nvH (by rw [upd_ne (Ne.symm m1), upd_ne (Ne.symm m4)]; exact fv2) (rH_new nmm hv4)
        have s1 : Same F2 (upd F2 m (.dK (mkvs lh (B1.places : Int) lg lv lm))) := same_upd (sub_none e4.fh nmm)
        have s2 : Same (upd F2 m (.dK (mkvs lh (B1.places : Int) lg lv lm))) (upd (upd F2 m (.dK (mkvs lh (B1.places : Int) lg lv lm))) lm (.lst acc)) := same_upd (by rw [upd_ne (Ne.symm m3)]; exact fm)
        have s3 : Same (upd (upd F2 m (.dK (mkvs lh (B1.places : Int) lg lv lm))) lm (.lst acc)) (upd (upd (upd F2 m (.dK (mkvs lh (B1.places : Int) lg lv lm))) lm (.lst acc)) lv (.lst (B1.heavy.map V.int))) := same_upd (by rw [upd_ne (Ne.symm m1), upd_ne (Ne.symm m4)]; exact fv2)
        refine q m _ _ e5 ⟨lh, lg, lv, lm, ?_, ?_, ?_, ?_, ?_⟩
        · exact s3 _ _ (s2 _ _ upd_same)
        · exact sqL_mono e5.ff hh
        · exact dp_mono e5.ff hg
        · exact .inl (.inl upd_same)
        · refine .lst (sqL_mono s3 (.inl (.inl upd_same))) (dpAll_of ?_ fun i v d h1 h2 => ?_)
          · rw [hl, glen, List.length_map, B1.meets_len]
          · obtain ⟨g, h3, h4⟩ := hr i v h1
            simp only [BD.meets, List.getElem?_map, h3, Option.map_some] at h2
            cases h2
            exact dp_mono ((s1.trans s2).trans s3) h4
end
end G

namespace G
open PySem PySem.Spec PyProof.Rows L2
local macro_rules | `(tactic| walk_at "lk") => `(tactic| first | assumption | exact rT_at | exact rL_at | exact upd_same | (refine sqT_mono ?_ (by assumption); assumption) | (refine sqL_mono ?_ (by assumption); assumption) | (refine rT_new (by assumption) ?_; walk_at "lk") | (refine rL_new (by assumption) ?_; walk_at "lk") | (refine rH_new (by assumption) ?_; walk_at "lk") | (refine rD_new (by assumption) ?_; walk_at "lk") | (refine dp_mono ?_ (by assumption); assumption))
local macro_rules | `(tactic| walk_at "r1") => `(tactic| first | ((with_reducible show tVar _ _ _ _); refine s_var rfl ?_) | with_reducible refine s_c ?_ | with_reducible refine s_op ?_ | with_reducible refine s_un ?_ | with_reducible refine s_neg ?_ | with_reducible refine s_test ?_ | with_reducible refine s_B ?_ | with_reducible refine s_bl ?_ | with_reducible refine s_not ?_ | with_reducible refine s_yes ?_ | with_reducible refine s_and ?_ | with_reducible refine s_or ?_ | with_reducible refine s_notV ?_ | with_reducible refine s_andV ?_ | with_reducible refine s_orV ?_ | with_reducible refine s_if ?_ | with_reducible refine s_cT ?_ | with_reducible refine s_cF ?_ | with_reducible refine s_nT ?_ | with_reducible refine s_nF ?_ | with_reducible refine s_addI ?_ | with_reducible refine s_eqI ?_ | with_reducible refine s_neI ?_ | with_reducible refine s_eqB ?_ | with_reducible refine s_neB ?_ | with_reducible refine s_I0 ?_ | with_reducible refine s_non ?_ | with_reducible refine s_int ?_ | with_reducible refine s_chain ?_ | with_reducible refine s_cons ?_ | with_reducible refine s_nil ?_ | with_reducible refine s_call ?_ | with_reducible refine s_cb ?_ | with_reducible refine s_meth ?_ | with_reducible refine s_make ?_ | with_reducible refine s_tup ?_ | with_reducible refine s_lst ?_ | with_reducible refine s_bm ?_ | with_reducible refine s_bm0 ?_ | with_reducible refine s_bmT ?_ | with_reducible refine s_fld ?_ | with_reducible refine s_dget ?_ | with_reducible refine s_sl ?_ | with_reducible refine s_part ?_ | with_reducible refine s_nopart ?_ | with_reducible refine s_seq ?_ | with_reducible refine s_next ?_ | with_reducible refine s_asg ?_ | with_reducible refine s_gn ?_ | with_reducible refine s_gc ?_ | with_reducible refine s_g0 ?_ | with_reducible refine s_gs ?_ | with_reducible refine s_ret ?_ | with_reducible refine s_ifS ?_ | with_reducible refine s_drop ?_ | with_reducible refine s_augS ?_ | ((with_reducible show tAug _ _ _ _ _ _); refine s_aug rfl ?_) | with_reducible refine s_ipI ?_ | with_reducible refine s_for ?_ | with_reducible refine s_iseq ?_ | with_reducible refine s_rng1 ?_ | with_reducible refine s_izip ?_ | with_reducible refine s_lc ?_ | with_reducible refine s_lc2 ?_ | with_reducible refine s_lstRg ?_ | with_reducible refine s_rg1 ?_ | with_reducible refine s_sfld ?_ | with_reducible refine s_ienum ?_ | with_reducible refine s_disp ?_ | with_reducible refine s_pc ?_ | with_reducible refine s_pn ?_)
local macro_rules | `(tactic| walk_at "rd") => `(tactic| repeat walk_at "r1")

theorem pop_perm : ∀ (l : List Nat) (k : Nat) (h : k < l.length), (l[k] :: l.eraseIdx k).Perm l
  | [], _, h => by simp at h
  | _ :: _, 0, _ => List.Perm.refl _
  | a :: l, k + 1, h => by
    have hk : k < l.length := by simpa using h
    have := pop_perm l k hk
    show (l[k] :: a :: l.eraseIdx k).Perm (a :: l)
    exact (List.Perm.swap a _ _).trans (this.cons a)
theorem er_map {α β : Type} (f : α → β) : ∀ (l : List α) (k : Nat), (l.map f).eraseIdx k = (l.eraseIdx k).map f
  | [], _ => rfl
  | _ :: _, 0 => rfl
  | a :: l, k + 1 => by
    show f a :: (l.map f).eraseIdx k = f a :: (l.eraseIdx k).map f
    rw [er_map f l k]
theorem idx_map (l : List Nat) (a : Nat) : (l.map fun (x : Nat) => (x : Int)).idxOf (a : Int) = l.idxOf a := by
  induction l with
  | nil => rfl
  | cons b l ih =>
    simp only [List.map_cons, List.idxOf_cons, ih]
    by_cases h : b = a
    · subst h; simp
    · have : ((b : Int) == (a : Int)) = false := by simp; omega
      have h2 : (b == a) = false := by simp [h]
      rw [this, h2]
/-- a turn told from the other plate -/
def backT (n : Nat) (tn : List Nat) : List Nat := (List.range n).map fun a => tn.idxOf a
theorem back_perm {n : Nat} {tn : List Nat} (h : tn.Perm (List.range n)) : (backT n tn).Perm (List.range n) := by
  have nd : tn.Nodup := h.nodup_iff.mpr List.nodup_range
  have len : tn.length = n := by rw [h.length_eq, List.length_range]
  have mem : ∀ a, a ∈ tn ↔ a < n := fun a => by rw [h.mem_iff, List.mem_range]
  have ix : ∀ a, a < n → ∃ hlt : tn.idxOf a < tn.length, tn[tn.idxOf a] = a := fun a ha => ⟨List.idxOf_lt_length_iff.mpr ((mem a).mpr ha), List.getElem_idxOf _⟩
  refine (List.perm_ext_iff_of_nodup ?_ List.nodup_range).mpr fun x => ?_
  · refine List.pairwise_map.mpr ?_
    refine List.Pairwise.imp_of_mem (fun {a b} ha hb hab => ?_) List.nodup_range
    intro e
    obtain ⟨h1, e1⟩ := ix a (List.mem_range.mp ha)
    obtain ⟨h2, e2⟩ := ix b (List.mem_range.mp hb)
    have : tn[tn.idxOf a] = tn[tn.idxOf b] := by simp only [e]
    exact hab (e1.symm.trans (this.trans e2))
  · constructor
    · intro hx
      obtain ⟨a, ha, rfl⟩ := List.mem_map.mp hx
      obtain ⟨h1, _⟩ := ix a (List.mem_range.mp ha)
      rw [List.mem_range]
      omega
    · intro hx
      have hx' : x < tn.length := by rw [len]; exact List.mem_range.mp hx
      refine List.mem_map.mpr ⟨tn[x], List.mem_range.mpr ((mem _).mp (List.getElem_mem _)), nd.idxOf_getElem x hx'⟩
abbrev tpo (ob : Obj) (tk : List Nat) : HO := .frz ob (.tup ((tk.map fun (x : Nat) => (x : Int)).map V.int))
theorem tpo_sq {K : PySem.W.Frag} {F : Hp} {p : Addr} {ob : Obj} {tk : List Nat} (h : F p = some (tpo ob tk)) : SqT K F p ((tk.map fun (x : Nat) => (x : Int)).map V.int) := .inl (.inr ⟨ob, h⟩)
def GOk (m n : Nat) (g : Nat × Nat × List Nat) : Prop := g.1 < m ∧ g.2.1 < m ∧ g.1 ≠ g.2.1 ∧ g.2.2.Perm (List.range n)
theorem cut6 (xs : List V) : cutV xs none (some 6) = xs.take 6 := by
  unfold cutV
  rw [HT.sIx_none, show HT.sIx xs.length xs.length (some 6) = min 6 xs.length from HT.sIx_nat xs.length xs.length 6]
  simp
section
variable {P : Program} {w : World} {K : PySem.W.Frag} {mg : Str → Option Value} {base : Heap} {C : Addr}
theorem gmk {F : Hp} {p c : Addr} {a b : Nat} {tn : List Nat} (hp : F p = some (.tup [.int a, .int b, .ref c])) (hc : SqT K F c ((tn.map fun (x : Nat) => (x : Int)).map V.int)) : Dp K F (.ref p) (gD (a, b, tn)) := by
  refine .tup (.inl (.inl hp)) (.cons (.int _) (.cons (.int _) (.cons ?_ .nil)))
  have := dp_tupI hc
  rw [List.map_map] at this
  exact this
theorem gs_of {F : Hp} {m n : Nat} : ∀ (acc : List V), (∀ v ∈ acc, ∃ g, GOk m n g ∧ Dp K F v (gD g)) → ∃ gs : List (Nat × Nat × List Nat), DpAll K F acc (gs.map gD) ∧ ∀ g ∈ gs, GOk m n g
  | [], _ => ⟨[], .nil, fun g h => by cases h⟩
  | v :: acc, h => by
    obtain ⟨g, h1, h2⟩ := h v (List.mem_cons_self ..)
    obtain ⟨gs, h3, h4⟩ := gs_of acc fun x hx => h x (List.mem_cons_of_mem _ hx)
    exact ⟨g :: gs, .cons h2 h3, fun x hx => by
      rcases List.mem_cons.mp hx with rfl | hx
      · exact h1
      · exact h4 x hx⟩
abbrev s__law_bench : Stmt := topS 31
abbrev n__law_bench : List Str := ["_law_state", "_law_plates", "_law_places", "_law_many", "_law_size", "_law_kind", "_law_same", "_law_hard", "_law_told", "_law_k", "_law_one", "_law_other", "_law_left", "_law_turn", "_law_back", "_law_at"]
theorem sc__law_bench : FnScope ["_law_state", "_law_plates", "_law_places", "_law_many", "_law_size", "_law_kind", "_law_same", "_law_hard", "_law_told", "_law_k", "_law_one", "_law_other", "_law_left", "_law_turn", "_law_back", "_law_at"] ["_law_state", "_law_plates", "_law_places"] (defScope s__law_bench) := ⟨rfl, rfl, rfl, by decide +kernel, rfl, by decide +kernel, by decide +kernel⟩
def spBench (K : PySem.W.Frag) : Sp := fun vs H Q _ => ∃ st s F, ∃ pl pc : Nat, vs = [.ref st, .int pl, .int pc] ∧ 2 ≤ pl ∧ pl ≤ 4 ∧ 1 ≤ pc ∧ pc ≤ 3 ∧ H st = some (.lst s) ∧ StOk s ∧ Same F (del H st) ∧
  ∀ m B F' H', BOk B → B.hard.length ≤ pl → B.places ≤ pc → SExt st F H F' H' → ModelAt K F' m B → Q (.ref m) H'
theorem ok_bench (B0 : Blt mg) (d__law_digit : Def P w K mg base 1 "_law_digit" ["_law_state", "_law_base"] (spDigit K)) (d__law_made : Def P w K mg base 1 "_law_made" ["_law_hard", "_law_places", "_law_told"] (spMade K)) (F : FunAt K mg "_law_bench" s__law_bench ["_law_state", "_law_plates", "_law_places"]) :
    Def P w K mg base 2 "_law_bench" ["_law_state", "_law_plates", "_law_places"] (spBench K) := by
  refine F.def (k := 1) sc__law_bench (fun vs H Q E h => ?_) (fun f cdv A outer s H vs Q E hr h => ?_)
  · obtain ⟨st, s, F, pl, pc, rfl, _⟩ := h
    rfl
  · obtain ⟨st, s, F, pl, pc, rfl, pl2, pl4, pc1, pc3, hst, sok, hF, q⟩ := h
    have B := B0
    have r0 : SExt st F H F H := SExt.refl hF hst sok
    refine ⟨_, (pss_cons (ps_set (i := 3) sc__law_bench.nd rfl (Or.inl rfl) (pe_op (k_add (K := K) rfl) pe_int (pe_d d__law_digit (hr.mono (by decide)) (by rfl) (pa_cons (pv 0) (pa_cons (pe_op op_sub (pv 1) pe_int) pa_nil))))) (pss_cons (ps_set (i := 4) sc__law_bench.nd rfl (Or.inl rfl) (pe_op (k_add (K := K) rfl) pe_int (pe_d d__law_digit (hr.mono (by decide)) (by rfl) (pa_cons (pv 0) (pa_cons (pv 2) pa_nil))))) (pss_cons (ps_set (i := 5) sc__law_bench.nd rfl (Or.inr rfl) (pe_d d__law_digit (hr.mono (by decide)) (by rfl) (pa_cons (pv 0) (pa_cons pe_int pa_nil)))) (pss_cons (ps_set (i := 6) sc__law_bench.nd rfl (Or.inr rfl) (pe_op (k_add (K := K) rfl) pe_int (pe_d d__law_digit (hr.mono (by decide)) (by rfl) (pa_cons (pv 0) (pa_cons pe_int pa_nil))))) (pss_cons (ps_setLc (i := 7) (own := [("_law_k", 9)]) rfl sc__law_bench.nd rfl rfl (sw_true rfl rfl rfl (by decide +kernel)) (pi_range1 (by rfl) B.range (pa_cons (pv 3) pa_nil)) (blkOk_by (own := [("_law_k", 9)]) (N := n__law_bench) (sc := defScope s__law_bench) (by decide +kernel)) (fun _ _ _ _ _ => (pg_name (i := 9) sc__law_bench.nd rfl (Or.inl rfl))) (fun _ _ _ _ _ => pts_nil) (fun _ _ _ _ _ => (pe_ix (k_ix (K := K) rfl) (pe_lst (pa_cons (pv 6) (pa_cons (pe_op (k_add (K := K) rfl) pe_int (pe_d d__law_digit (hr.mono (by decide)) (by rfl) (pa_cons (pv 0) (pa_cons pe_int pa_nil)))) (pa_cons (pe_op (k_add (K := K) rfl) pe_int (pe_d d__law_digit (hr.mono (by decide)) (by rfl) (pa_cons (pv 0) (pa_cons pe_int pa_nil)))) pa_nil)))) (pv 5) (fun _ _ => rfl)))) (pss_cons (ps_set (i := 8) sc__law_bench.nd rfl (Or.inl rfl) (pe_lst pa_nil)) (pss_cons (ps_for PassesOwn.never rfl (pi_range1 (by rfl) B.range (pa_cons (pe_op (k_add (K := K) rfl) pe_int (pe_d d__law_digit (hr.mono (by decide)) (by rfl) (pa_cons (pv 0) (pa_cons pe_int pa_nil)))) pa_nil)) (pg_name (i := 9) sc__law_bench.nd rfl (Or.inl rfl)) (pss_cons (ps_set (i := 10) sc__law_bench.nd rfl (Or.inl rfl) (pe_d d__law_digit (hr.mono (by decide)) (by rfl) (pa_cons (pv 0) (pa_cons (pv 3) pa_nil)))) (pss_cons (ps_set (i := 11) sc__law_bench.nd rfl (Or.inl rfl) (pe_op op_mod (pe_op (k_add (K := K) rfl) (pe_op (k_add (K := K) rfl) (pv 10) pe_int) (pe_d d__law_digit (hr.mono (by decide)) (by rfl) (pa_cons (pv 0) (pa_cons (pe_op op_sub (pv 3) pe_int) pa_nil)))) (pv 3))) (pss_cons (ps_set (i := 12) sc__law_bench.nd rfl (Or.inr rfl) (pe_listRg rfl (by rfl) B.list (prg_1 (by rfl) B.range (pv 4)))) (pss_cons (ps_set (i := 13) sc__law_bench.nd rfl (Or.inr rfl) (pe_callTy (k_tupleF (K := K) rfl) (by rfl) B.tuple bb_tuple (pa_cons (pe_lc (own := [("_law_at", 15)]) rfl sc__law_bench.nd (pi_range1 (by rfl) B.range (pa_cons (pv 4) pa_nil)) (blkOk_by (own := [("_law_at", 15)]) (N := n__law_bench) (sc := defScope s__law_bench) (by decide +kernel)) (fun _ _ _ _ _ => (pg_name (i := 15) sc__law_bench.nd rfl (Or.inl rfl))) (fun _ _ _ _ _ => pts_nil) (fun _ _ _ _ _ => (k_bm (K := K) rfl PySem.F.plainAttrs_list PySem.F.slot_list_pop PySem.F.type_list_pop mt_popAt (pv 12) (pa_cons (pe_d d__law_digit (hr.mono (by decide)) (by rfl) (pa_cons (pv 0) (pa_cons (pe_callB (k_len (K := K) rfl) (by rfl) B.len bb_len (pa_cons (pv 12) pa_nil)) pa_nil))) pa_nil)))) pa_nil))) (pss_cons (ps_expr (k_bm (K := K) rfl PySem.F.plainAttrs_list PySem.F.slot_list_append PySem.F.type_list_append mt_append (pv 8) (pa_cons (pe_tup (pa_cons (pv 10) (pa_cons (pv 11) (pa_cons (pv 13) pa_nil)))) pa_nil))) (pss_one (ps_if (pt_cmpR (k_eq (K := K) rfl hr.units) (pe_d d__law_digit (hr.mono (by decide)) (by rfl) (pa_cons (pv 0) (pa_cons pe_int pa_nil))) pe_int (nomark _)) (pss_cons (ps_set (i := 14) sc__law_bench.nd rfl (Or.inl rfl) (pe_callTy (k_tupleF (K := K) rfl) (by rfl) B.tuple bb_tuple (pa_cons (pe_lc (own := [("_law_at", 15)]) rfl sc__law_bench.nd (pi_range1 (by rfl) B.range (pa_cons (pv 4) pa_nil)) (blkOk_by (own := [("_law_at", 15)]) (N := n__law_bench) (sc := defScope s__law_bench) (by decide +kernel)) (fun _ _ _ _ _ => (pg_name (i := 15) sc__law_bench.nd rfl (Or.inl rfl))) (fun _ _ _ _ _ => pts_nil) (fun _ _ _ _ _ => (pe_bmT PySem.F.slot_tuple_index PySem.F.type_tuple_index (k_tupIx (K := K) rfl) (pv 13) (pa_cons (pv 15) pa_nil)))) pa_nil))) (pss_one (ps_expr (k_bm (K := K) rfl PySem.F.plainAttrs_list PySem.F.slot_list_append PySem.F.type_list_append mt_append (pv 8) (pa_cons (pe_ix (k_ix (K := K) rfl) (pe_lst (pa_cons (pe_tup (pa_cons (pv 10) (pa_cons (pv 11) (pa_cons (pv 13) pa_nil)))) (pa_cons (pe_tup (pa_cons (pv 11) (pa_cons (pv 10) (pa_cons (pv 14) pa_nil)))) pa_nil))) (pe_d d__law_digit (hr.mono (by decide)) (by rfl) (pa_cons (pv 0) (pa_cons pe_int pa_nil))) (fun _ _ => rfl)) pa_nil))))) pss_nil)))))))) (pss_one (ps_ret (pe_d d__law_made (hr.mono (by decide)) (by rfl) (pa_cons (pv 7) (pa_cons (pv 4) (pa_cons (pe_slice (k_sl (K := K) rfl) (pv 8) po_none (po_some pe_int)) pa_nil))))))))))))), ?_⟩; refine start_eq (σ' := [some (.ref st), some (.int pl), some (.int pc), none, none, none, none, none, none, none, none, none, none, none, none, none]) rfl ?_
    walk_at "rd"
    refine draw r0 (small_b (by omega) (by omega)) fun d0 H1 a0 b0 r1 _ => ?_
    walk_at "rd"
    refine draw r1 (small_b (by omega) (by omega)) fun d1 H2 a1 b1 r2 _ => ?_
    walk_at "rd"
    refine draw r2 (small_b (by decide) (by decide)) fun kd H3 a2 b2 r3 _ => ?_
    walk_at "rd"
    refine draw r3 (small_b (by decide) (by decide)) fun d3 H4 a3 b3 r4 _ => ?_
    obtain ⟨many, hmany⟩ : ∃ many : Nat, 2 + d0 = (many : Int) := ⟨(2 + d0).toNat, by omega⟩
    obtain ⟨size, hsize⟩ : ∃ size : Nat, 1 + d1 = (size : Int) := ⟨(1 + d1).toNat, by omega⟩
    rw [hmany, hsize]
    walk_at "rd"
    refine ⟨_, rfl, by omega, by omega, ?_⟩
    refine lc_mapS walk_range r4 (by omega) (fun _ _ => trivial) (fun i _ v => ∃ h : Int, v = .int h ∧ 1 ≤ h ∧ h ≤ 9) (fun _ _ _ _ _ h => h) (fun i x F' Ha Hb D Z hi ex fd hd nD hy hz => ?_) (fun lh ys F5 H5 nh r5 fh hlen hR => ?_)
    · obtain ⟨rfl, rfl⟩ := hy
      have ex0 : SExt st F' Hb F' Hb := by
        obtain ⟨s, hs, ok⟩ := ex.st
        exact SExt.refl ex.ext.fh hs ok
      walk_at "rd"
      refine ⟨rfl, ?_⟩
      walk_at "rd"
      refine draw ex0 (small_b (by decide) (by decide)) fun e1 Hc c1 c2 x1 _ => ?_
      walk_at "rd"
      refine draw x1 (small_b (by decide) (by decide)) fun e2 Hd c3 c4 x2 _ => ?_
      walk_at "rd"
      refine ⟨by show 3 ≤ sizeLine; decide, fun p hp => ?_⟩
      have x3 := x2.mut (o := .lst [.int (1 + d3), .int (1 + e1), .int (1 + e2)]) hp
      walk_at "rd"
      have k3 : kd = 0 ∨ kd = 1 ∨ kd = 2 := by omega
      rcases k3 with rfl | rfl | rfl
      · exact s_ixL rL_at rfl (hz _ _ _ x3 ⟨_, rfl, by omega, by omega⟩)
      · exact s_ixL rL_at rfl (hz _ _ _ x3 ⟨_, rfl, by omega, by omega⟩)
      · exact s_ixL rL_at rfl (hz _ _ _ x3 ⟨_, rfl, by omega, by omega⟩)
    · have r05 : SExt st F H F5 H5 := r4.trans r5
      obtain ⟨hard, hys, hh9⟩ : ∃ hard : List Int, ys = hard.map V.int ∧ ∀ h ∈ hard, 1 ≤ h ∧ h ≤ 9 := by
        clear hlen fh
        have : ∀ v ∈ ys, ∃ h : Int, v = .int h ∧ 1 ≤ h ∧ h ≤ 9 := fun v hv => by
          obtain ⟨i, hi⟩ := List.getElem?_of_mem hv
          exact hR i v hi
        clear hR
        induction ys with
        | nil => exact ⟨[], rfl, fun h z => by cases z⟩
        | cons v ys ih =>
          obtain ⟨h, rfl, h9⟩ := this v (List.mem_cons_self ..)
          obtain ⟨hs, rfl, hs9⟩ := ih fun x hx => this x (List.mem_cons_of_mem _ hx)
          exact ⟨h :: hs, rfl, fun x hx => by
            rcases List.mem_cons.mp hx with rfl | hx
            · exact h9
            · exact hs9 x hx⟩
      subst hys
      have hardlen : hard.length = many := by
        rw [List.length_map] at hlen
        omega
      walk_at "rd"
      refine ⟨Nat.zero_le _, fun lt nt => ?_⟩
      have tne : lt ≠ st := r05.ne nt
      have ntH : H lt = none := r05.back nt
      have r6 : SExt st F H F5 (upd H5 lt (.lst [])) := r05.mut nt
      have ht6 : (upd H5 lt (.lst [])) lt = some (.lst []) := upd_same
      have ft5 : F5 lt = none := sub_none r05.fh nt
      generalize upd H5 lt (.lst []) = H6 at *
      walk_at "rd"
      refine draw r6 (small_b (by decide) (by decide)) fun d4 H7 a4 b4 r7 k7 => ?_
      have ht7 := k7 _ _ tne ht6
      obtain ⟨turns, hturns⟩ : ∃ turns : Nat, 1 + d4 = (turns : Int) := ⟨(1 + d4).toNat, by omega⟩
      refine s_addI ?_
      rw [hturns]
      walk_at "rd"
      refine ⟨_, rfl, by omega, by omega, ?_⟩
      refine for_w walk_range (fun i σ Hx => ∃ y9 y10 y11 y12 y13 y14 Fx acc, σ = [some (.ref st), some (.int pl), some (.int pc), some (.int many), some (.int size), some (.int kd), some (.int (1 + d3)), some (.ref lh), some (.ref lt), y9, y10, y11, y12, y13, y14, none] ∧ SExt st F H Fx Hx ∧ Same F5 Fx ∧ Fx lt = none ∧ Hx lt = some (.lst acc) ∧ i ≤ acc.length ∧ acc.length ≤ 2 * i ∧ ∀ v ∈ acc, ∃ g, GOk many size g ∧ Dp K Fx v (gD g)) ?_ ?_ ?_ ?_
      · exact ⟨none, none, none, none, none, none, F5, [], rfl, r7, Same.refl _, ft5, ht7, Nat.le_refl _, Nat.le_refl _, fun v h => by cases h⟩
      · intro _ _ _ _ _
        trivial
      · rintro i x σ Hx Hy hi ⟨y9, y10, y11, y12, y13, y14, Fx, acc, rfl, rx, sx, fx, hx, l1, l2, hacc⟩ ⟨rfl, rfl⟩
        walk_at "rd"
        refine draw rx (small_b (by omega) (by omega)) fun d5 H8 a5 b5 r8 k8 => ?_
        walk_at "rd"
        refine draw r8 (small_b (by omega) (by omega)) fun d6 H9 a6 b6 r9 k9 => ?_
        have hx9 := k9 _ _ tne (k8 _ _ tne hx)
        walk_at "rd"
        refine s_I (show (0 : Int) < (many : Int) by omega) ?_
        obtain ⟨one, hone⟩ : ∃ one : Nat, d5 = (one : Int) := ⟨d5.toNat, by omega⟩
        obtain ⟨other, hother⟩ : ∃ other : Nat, (d5 + 1 + d6) % (many : Int) = (other : Int) := ⟨((d5 + 1 + d6) % (many : Int)).toNat, by have := Int.emod_nonneg (d5 + 1 + d6) (show (many : Int) ≠ 0 by omega); omega⟩
        have o1 : one < many := by omega
        have o2 : other < many := by
          have := Int.emod_lt_of_pos (d5 + 1 + d6) (show (0 : Int) < (many : Int) by omega)
          omega
        have o3 : one ≠ other := by
          intro e
          have e1 := Int.emod_add_mul_ediv (d5 + 1 + d6) (many : Int)
          rw [hother] at e1
          have hq : (d5 + 1 + d6) / (many : Int) = 0 ∨ (d5 + 1 + d6) / (many : Int) = 1 := by
            have q0 : 0 ≤ (d5 + 1 + d6) / (many : Int) := Int.ediv_nonneg (by omega) (by omega)
            have q2 : (d5 + 1 + d6) / (many : Int) < 2 := Int.ediv_lt_of_lt_mul (by omega) (by omega)
            omega
          rcases hq with hq | hq
          · rw [hq] at e1; omega
          · rw [hq] at e1; omega
        rw [hother]
        subst hone
        walk_at "rd"
        refine ⟨RgOk.of_le (by omega) (by omega) (by omega) (by omega), fun ll nl => ?_⟩
        have lne : ll ≠ st := r9.ne nl
        have nlH : H ll = none := r9.back nl
        have ltl : lt ≠ ll := fun z => by rw [z, nl] at hx9; cases hx9
        have fl : Fx ll = none := sub_none r9.fh nl
        have r10 := r9.mut (o := .lst (rgV 0 (size : Int))) nl
        have hl10 : (upd H9 ll (.lst (rgV 0 (size : Int)))) ll = some (.lst (((List.range size).map fun (x : Nat) => (x : Int)).map V.int)) := by rw [upd_same, rgV_nat]
        have hx10 : (upd H9 ll (.lst (rgV 0 (size : Int)))) lt = some (.lst acc) := rH_new nl hx9
        generalize upd H9 ll (.lst (rgV 0 (size : Int))) = H10 at *
        walk_at "rd"
        refine ⟨_, rfl, by omega, by omega, ?_⟩
        intro D nD
        have Dne : D ≠ st := r10.ne nD
        have nDH : H D = none := r10.back nD
        have Dl : D ≠ ll := fun z => by rw [z, hl10] at nD; cases nD
        have Dt : D ≠ lt := fun z => by rw [z, hx10] at nD; cases nD
        have fD : Fx D = none := sub_none r10.fh nD
        refine lc_it walk_range (fun j Hj => ∃ tk rem : List Nat, SExt st F H Fx Hj ∧ Hj lt = some (.lst acc) ∧ Hj ll = some (.lst ((rem.map fun (x : Nat) => (x : Int)).map V.int)) ∧ Hj D = some (.lst ((tk.map fun (x : Nat) => (x : Int)).map V.int)) ∧ tk.length = j ∧ rem.length + j = size ∧ (tk ++ rem).Perm (List.range size)) ?_ ?_ ?_ ?_
        · exact ⟨[], List.range size, r10.mut nD, rH_new nD hx10, rH_new nD hl10, upd_same, rfl, by simp, List.Perm.refl _⟩
        · intro _ _ _ _
          trivial
        · rintro j xj Hj Hk hj ⟨tk, rem, rj, tj, lj, dj, tkl, reml, perm⟩ ⟨rfl, rfl⟩
          walk_at "rd"
          refine ⟨rfl, ?_⟩
          walk_at "rd"
          refine ⟨tyV_lst lj, ?_⟩
          walk_at "rd"
          refine s_lenL (.inl (.inl lj)) ?_
          rw [List.length_map, List.length_map]
          walk_at "rd"
          refine draw rj (small_b (by omega) (by omega)) fun d7 Hm a7 b7 rm km => ?_
          walk_at "rd"
          obtain ⟨k, hk⟩ : ∃ k : Nat, d7 = (k : Int) := ⟨d7.toNat, by omega⟩
          subst hk
          have kl : k < rem.length := by omega
          have lm := km _ _ lne lj
          have tm := km _ _ tne tj
          have dm := km _ _ Dne dj
          refine ⟨ll, _, (k : Int), k, .int ((rem[k] : Nat) : Int), rfl, rfl, lm, by omega, by omega, by rw [seqIndex_of (by omega) (by simp; omega)]; simp, by simp [kl], ?_⟩
          have e : ((rem.map fun (x : Nat) => (x : Int)).map V.int).eraseIdx k = ((rem.eraseIdx k).map fun (x : Nat) => (x : Int)).map V.int := by rw [er_map, er_map]
          rw [e]
          refine ⟨_, by rw [upd_ne Dl]; exact dm, Nat.lt_of_le_of_lt (show _ ≤ 100 by simp; omega) (by decide), tk ++ [rem[k]], rem.eraseIdx k, ?_, ?_, ?_, ?_, by simp [tkl], by rw [List.length_eraseIdx_of_lt kl]; omega, ?_⟩
          · exact (rm.chg lne nlH fl).chg Dne nDH fD
          · rw [upd_ne (Ne.symm Dt), upd_ne ltl]
            exact tm
          · rw [upd_ne (Ne.symm Dl), upd_same]
          · rw [upd_same]
            simp
          · rw [List.append_assoc]
            exact ((pop_perm rem k kl).append_left tk).trans perm
        · rintro Hj ⟨tk, rem, rj, tj, lj, dj, tkl, reml, perm⟩
          have rem0 : rem = [] := List.eq_nil_of_length_eq_zero (by omega)
          subst rem0
          rw [List.append_nil] at perm
          walk_at "rd"
          refine s_tupleF (.inl (.inl dj)) fun tp ob obd np => ?_
          have r11 := rj.new (o := tpo ob tk) np
          have t11 : (upd Hj tp (tpo ob tk)) lt = some (.lst acc) := rH_new np tj
          have f11 : (upd Fx tp (tpo ob tk)) tp = some (tpo ob tk) := upd_same
          have ftp : Fx tp = none := sub_none rj.fh np
          have s11 : Same Fx (upd Fx tp (tpo ob tk)) := same_upd ftp
          have ft11 : (upd Fx tp (tpo ob tk)) lt = none := by
            rw [upd_ne]
            · exact fx
            · intro z; rw [← z, tj] at np; cases np
          generalize upd Hj tp (tpo ob tk) = H11 at *
          generalize upd Fx tp (tpo ob tk) = F11 at *
          walk_at "rd"
          refine ⟨tyV_lst t11, ?_⟩
          walk_at "rd"
          refine ⟨by show 3 ≤ sizeLine; decide, fun gp ngp => ?_⟩
          have r12 := r11.new (o := .tup [.int one, .int other, .ref tp]) ngp
          have t12 : (upd H11 gp (.tup [.int one, .int other, .ref tp])) lt = some (.lst acc) := rH_new ngp t11
          have s12 : Same F11 (upd F11 gp (.tup [.int one, .int other, .ref tp])) := same_upd (sub_none r11.fh ngp)
          have f12 : (upd F11 gp (.tup [.int one, .int other, .ref tp])) gp = some (.tup [.int one, .int other, .ref tp]) := upd_same
          have ft12 : (upd F11 gp (.tup [.int one, .int other, .ref tp])) lt = none := by
            rw [upd_ne]
            · exact ft11
            · intro z; rw [← z, t11] at ngp; cases ngp
          generalize upd H11 gp (.tup [.int one, .int other, .ref tp]) = H12 at *
          generalize upd F11 gp (.tup [.int one, .int other, .ref tp]) = F12 at *
          have dg := gmk (K := K) f12 (tpo_sq (s12 _ _ f11))
          walk_at "rd"
          refine s_app t12 (by omega) ?_
          have r13 := r12.chg (o := .lst (acc ++ [.ref gp])) tne ntH ft12
          have t13 : (upd H12 lt (.lst (acc ++ [.ref gp]))) lt = some (.lst (acc ++ [.ref gp])) := upd_same
          have hacc2 : ∀ v ∈ acc ++ [.ref gp], ∃ g, GOk many size g ∧ Dp K F12 v (gD g) := fun v hv => by
            rcases List.mem_append.mp hv with hv | hv
            · obtain ⟨g, h1, h2⟩ := hacc v hv
              exact ⟨g, h1, dp_mono (s11.trans s12) h2⟩
            · rw [List.mem_singleton.mp hv]
              exact ⟨_, ⟨o1, o2, o3, perm⟩, dg⟩
          have sF : Same F5 F12 := (sx.trans s11).trans s12
          generalize upd H12 lt (.lst (acc ++ [.ref gp])) = H13 at *
          walk_at "rd"
          refine draw r13 (small_b (by decide) (by decide)) fun d8 H14 a8 b8 r14 k14 => ?_
          have t14 := k14 _ _ tne t13
          walk_at "rd"
          refine s_d2 (fun e8 => ?_) (fun e8 => ?_)
          · walk_at "rd"
            refine ⟨_, rfl, by omega, by omega, ?_⟩
            refine lc_mapS walk_range r14 (by omega) (fun _ _ => trivial) (fun j _ v => v = .int ((tk.idxOf j : Nat) : Int)) (fun _ _ _ _ _ h => h) (fun j x F' Ha Hb D Z hj ex fd hd nD hy hz => ?_) (fun D ys F15 H15 nD r15 fD hlen hR => ?_)
            · obtain ⟨rfl, rfl⟩ := hy
              have ex0 : SExt st F' Hb F' Hb := by
                obtain ⟨s, hs, ok⟩ := ex.st
                exact SExt.refl ex.ext.fh hs ok
              walk_at "rd"
              refine ⟨rfl, ?_⟩
              walk_at "rd"
              have htf := ex.fh _ _ (ex.ext.ff _ _ (s12 _ _ f11))
              have htp : SqT K Hb tp ((tk.map fun (x : Nat) => (x : Int)).map V.int) := tpo_sq htf
              refine ⟨⟨tp, ob, _, rfl, htf, obd⟩, ?_⟩
              walk_at "rd"
              refine ⟨tp, _, _, rfl, rfl, htp, ?_, ?_⟩
              · rw [Int.zero_add]
                refine List.mem_map.mpr ⟨j, ?_, rfl⟩
                rw [perm.mem_iff, List.mem_range]
                omega
              · rw [Int.zero_add, idx_map]
                exact hz _ _ _ ex0 rfl
            · have hys : ys = ((backT size tk).map fun (x : Nat) => (x : Int)).map V.int := by
                refine List.ext_getElem? fun i => ?_
                cases hv : ys[i]? with
                | none =>
                  have : ys.length ≤ i := List.getElem?_eq_none_iff.mp hv
                  rw [List.getElem?_eq_none (by simp [backT]; omega)]
                | some v =>
                  have hi : i < ys.length := (List.getElem?_eq_some_iff.mp hv).1
                  have hi2 : i < size := by omega
                  rw [hR i v hv]
                  simp [backT, hi2]
              subst hys
              have t15 := r15.keep tne t14
              have ft15 := r15.fr tne (by rw [t14]; simp) ft12
              have r015 := r14.trans r15
              walk_at "rd"
              refine s_tupleF (.inl (.inl (r15.fh _ _ fD))) fun bp ob2 ob2d nb => ?_
              have r16 := r015.new (o := tpo ob2 (backT size tk)) nb
              have t16 : (upd H15 bp (tpo ob2 (backT size tk))) lt = some (.lst (acc ++ [.ref gp])) := rH_new nb t15
              have s16 : Same F15 (upd F15 bp (tpo ob2 (backT size tk))) := same_upd (sub_none r015.fh nb)
              have f16 : (upd F15 bp (tpo ob2 (backT size tk))) bp = some (tpo ob2 (backT size tk)) := upd_same
              have ft16 : (upd F15 bp (tpo ob2 (backT size tk))) lt = none := by
                rw [upd_ne]
                · exact ft15
                · intro z; rw [← z, t15] at nb; cases nb
              generalize upd H15 bp (tpo ob2 (backT size tk)) = H16 at *
              generalize upd F15 bp (tpo ob2 (backT size tk)) = F16 at *
              walk_at "rd"
              refine ⟨tyV_lst t16, ?_⟩
              walk_at "rd"
              refine ⟨by show 3 ≤ sizeLine; decide, fun g1 ng1 => ?_⟩
              have r17 := r16.new (o := .tup [.int one, .int other, .ref tp]) ng1
              have t17 := rH_new (o := .tup [.int one, .int other, .ref tp]) ng1 t16
              have s17 : Same F16 (upd F16 g1 (.tup [.int one, .int other, .ref tp])) := same_upd (sub_none r16.fh ng1)
              have f17 : (upd F16 g1 (.tup [.int one, .int other, .ref tp])) g1 = some (.tup [.int one, .int other, .ref tp]) := upd_same
              have ft17 : (upd F16 g1 (.tup [.int one, .int other, .ref tp])) lt = none := by
                rw [upd_ne]
                · exact ft16
                · intro z; rw [← z, t16] at ng1; cases ng1
              generalize upd H16 g1 (.tup [.int one, .int other, .ref tp]) = H17 at *
              generalize upd F16 g1 (.tup [.int one, .int other, .ref tp]) = F17 at *
              walk_at "rd"
              refine ⟨by show 3 ≤ sizeLine; decide, fun g2 ng2 => ?_⟩
              have r18 := r17.new (o := .tup [.int other, .int one, .ref bp]) ng2
              have t18 := rH_new (o := .tup [.int other, .int one, .ref bp]) ng2 t17
              have s18 : Same F17 (upd F17 g2 (.tup [.int other, .int one, .ref bp])) := same_upd (sub_none r17.fh ng2)
              have f18 : (upd F17 g2 (.tup [.int other, .int one, .ref bp])) g2 = some (.tup [.int other, .int one, .ref bp]) := upd_same
              have ft18 : (upd F17 g2 (.tup [.int other, .int one, .ref bp])) lt = none := by
                rw [upd_ne]
                · exact ft17
                · intro z; rw [← z, t17] at ng2; cases ng2
              generalize upd H17 g2 (.tup [.int other, .int one, .ref bp]) = H18 at *
              generalize upd F17 g2 (.tup [.int other, .int one, .ref bp]) = F18 at *
              walk_at "rd"
              refine ⟨by show 2 ≤ sizeLine; decide, fun lp nlp => ?_⟩
              have r19 := r18.mut (o := .lst [.ref g1, .ref g2]) nlp
              have t19 := rH_new (o := .lst [.ref g1, .ref g2]) nlp t18
              have h19 : (upd H18 lp (.lst [.ref g1, .ref g2])) lp = some (.lst [.ref g1, .ref g2]) := upd_same
              have lpne : lp ≠ st := r18.ne nlp
              generalize upd H18 lp (.lst [.ref g1, .ref g2]) = H19 at *
              walk_at "rd"
              refine draw r19 (small_b (by decide) (by decide)) fun d9 H20 a9 b9 r20 k20 => ?_
              have t20 := k20 _ _ tne t19
              have h20 := k20 _ _ lpne h19
              have sA : Same F12 F18 := ((r15.ext.ff.trans s16).trans s17).trans s18
              have dg1 := gmk (K := K) (s18 _ _ f17) (tpo_sq (sA _ _ (s12 _ _ f11)))
              have dg2 := gmk (K := K) f18 (tpo_sq (s18 _ _ (s17 _ _ f16)))
              have fin : ∀ v, (∃ g, GOk many size g ∧ Dp K F18 v (gD g)) → ∃ y9 y10 y11 y12 y13 y14 Fx acc', [some (.ref st), some (.int pl), some (.int pc), some (.int many), some (.int size), some (.int kd), some (.int (1 + d3)), some (.ref lh), some (.ref lt), some (V.int (0 + (i : Int))), some (V.int (one : Int)), some (V.int (other : Int)), some (V.ref ll), some (V.ref tp), some (V.ref bp), none] = [some (.ref st), some (.int pl), some (.int pc), some (.int many), some (.int size), some (.int kd), some (.int (1 + d3)), some (.ref lh), some (.ref lt), y9, y10, y11, y12, y13, y14, none] ∧ SExt st F H Fx (upd H20 lt (.lst ((acc ++ [.ref gp]) ++ [v]))) ∧ Same F5 Fx ∧ Fx lt = none ∧ (upd H20 lt (.lst ((acc ++ [.ref gp]) ++ [v]))) lt = some (.lst acc') ∧ i + 1 ≤ acc'.length ∧ acc'.length ≤ 2 * (i + 1) ∧ ∀ v ∈ acc', ∃ g, GOk many size g ∧ Dp K Fx v (gD g) := fun v hv =>
                ⟨_, _, _, _, _, _, F18, _, rfl, r20.chg tne ntH ft18, sF.trans sA, ft18, upd_same, by simp; omega, by simp; omega, fun u hu => by
                  rcases List.mem_append.mp hu with hu | hu
                  · obtain ⟨g, h1, h2⟩ := hacc2 u hu
                    exact ⟨g, h1, dp_mono sA h2⟩
                  · rw [List.mem_singleton.mp hu]
                    exact hv⟩
              have d9' : d9 = 0 ∨ d9 = 1 := by omega
              rcases d9' with rfl | rfl
              · refine s_ixL (.inl (.inl h20)) rfl ?_
                walk_at "rd"
                refine s_app t20 (by simp; omega) ?_
                exact fin _ ⟨_, ⟨o1, o2, o3, perm⟩, dg1⟩
              · refine s_ixL (.inl (.inl h20)) rfl ?_
                walk_at "rd"
                refine s_app t20 (by simp; omega) ?_
                exact fin _ ⟨_, ⟨o2, o1, Ne.symm o3, back_perm perm⟩, dg2⟩
          · walk_at "rd"
            exact ⟨_, _, _, _, _, _, F12, _, rfl, r14, sF, ft12, t14, by simp; omega, by simp; omega, hacc2⟩
      · rintro σ Hx ⟨y9, y10, y11, y12, y13, y14, Fx, acc, rfl, rx, sx, fx, hx, l1, l2, hacc⟩
        walk_at "rd"
        refine .inl ⟨lt, _, rfl, .inl (.inl hx), fun sl nsl => ?_⟩
        rw [cut6]
        have r21 := rx.new (o := .lst (acc.take 6)) nsl
        have s21 : Same Fx (upd Fx sl (.lst (acc.take 6))) := same_upd (sub_none rx.fh nsl)
        have f21 : (upd Fx sl (.lst (acc.take 6))) sl = some (.lst (acc.take 6)) := upd_same
        obtain ⟨gs, hgs, gok⟩ := gs_of (K := K) (F := Fx) (m := many) (n := size) (acc.take 6) fun v hv => hacc v (List.mem_of_mem_take hv)
        have glen : gs.length = (acc.take 6).length := by
          have := dpAll_len hgs
          rw [List.length_map] at this
          exact this.symm
        generalize upd Hx sl (.lst (acc.take 6)) = H21 at *
        generalize upd Fx sl (.lst (acc.take 6)) = F21 at *
        have bok : BOk ⟨hard, size, gs⟩ := by
          refine ⟨⟨?_, ?_⟩, hh9, ⟨?_, ?_⟩, ⟨?_, ?_⟩, fun g hg => ?_⟩
          · show 2 ≤ hard.length; omega
          · show hard.length ≤ 4; omega
          · show 1 ≤ size; omega
          · show size ≤ 3; omega
          · show 1 ≤ gs.length
            rw [glen, List.length_take]
            have : (turns : Int).toNat = turns := by simp
            omega
          · show gs.length ≤ 6
            rw [glen, List.length_take]
            omega
          · have := gok g hg
            show g.1 < hard.length ∧ g.2.1 < hard.length ∧ _
            rw [hardlen]
            exact this
        walk_at "rd"
        refine ⟨lh, sl, ⟨hard, size, gs⟩, F21, rfl, r21.fh, bok, sqL_mono (sx.trans s21) (.inl (.inl fh)), .lst (.inl (.inl f21)) (dpAll_mono s21 hgs), fun m F' H' e' hm => ?_⟩
        exact q m _ F' H' bok (by show hard.length ≤ pl; omega) (by show size ≤ pc; omega) (r21.pure e') hm
end
end G

namespace G
open PySem PySem.Spec PyProof.Rows L2
local macro_rules | `(tactic| walk_at "lk") => `(tactic| first | assumption | exact rT_at | exact rL_at | exact upd_same | (refine sqT_mono ?_ (by assumption); assumption) | (refine sqL_mono ?_ (by assumption); assumption) | (refine rT_new (by assumption) ?_; walk_at "lk") | (refine rL_new (by assumption) ?_; walk_at "lk") | (refine rH_new (by assumption) ?_; walk_at "lk") | (refine rD_new (by assumption) ?_; walk_at "lk") | (refine dp_mono ?_ (by assumption); assumption))
local macro_rules | `(tactic| walk_at "r1") => `(tactic| first | ((with_reducible show tVar _ _ _ _); refine s_var rfl ?_) | with_reducible refine s_c ?_ | with_reducible refine s_op ?_ | with_reducible refine s_un ?_ | with_reducible refine s_neg ?_ | with_reducible refine s_test ?_ | with_reducible refine s_B ?_ | with_reducible refine s_bl ?_ | with_reducible refine s_not ?_ | with_reducible refine s_yes ?_ | with_reducible refine s_and ?_ | with_reducible refine s_or ?_ | with_reducible refine s_notV ?_ | with_reducible refine s_andV ?_ | with_reducible refine s_orV ?_ | with_reducible refine s_if ?_ | with_reducible refine s_cT ?_ | with_reducible refine s_cF ?_ | with_reducible refine s_nT ?_ | with_reducible refine s_nF ?_ | with_reducible refine s_addI ?_ | with_reducible refine s_eqI ?_ | with_reducible refine s_neI ?_ | with_reducible refine s_eqB ?_ | with_reducible refine s_neB ?_ | with_reducible refine s_I0 ?_ | with_reducible refine s_non ?_ | with_reducible refine s_int ?_ | with_reducible refine s_chain ?_ | with_reducible refine s_cons ?_ | with_reducible refine s_nil ?_ | with_reducible refine s_call ?_ | with_reducible refine s_cb ?_ | with_reducible refine s_meth ?_ | with_reducible refine s_make ?_ | with_reducible refine s_tup ?_ | with_reducible refine s_lst ?_ | with_reducible refine s_bm ?_ | with_reducible refine s_bm0 ?_ | with_reducible refine s_bmT ?_ | with_reducible refine s_fld ?_ | with_reducible refine s_dget ?_ | with_reducible refine s_sl ?_ | with_reducible refine s_part ?_ | with_reducible refine s_nopart ?_ | with_reducible refine s_seq ?_ | with_reducible refine s_next ?_ | with_reducible refine s_asg ?_ | with_reducible refine s_gn ?_ | with_reducible refine s_gc ?_ | with_reducible refine s_g0 ?_ | with_reducible refine s_gs ?_ | with_reducible refine s_ret ?_ | with_reducible refine s_ifS ?_ | with_reducible refine s_drop ?_ | with_reducible refine s_augS ?_ | ((with_reducible show tAug _ _ _ _ _ _); refine s_aug rfl ?_) | with_reducible refine s_ipI ?_ | with_reducible refine s_for ?_ | with_reducible refine s_iseq ?_ | with_reducible refine s_rng1 ?_ | with_reducible refine s_izip ?_ | with_reducible refine s_lc ?_ | with_reducible refine s_lc2 ?_ | with_reducible refine s_lstRg ?_ | with_reducible refine s_rg1 ?_ | with_reducible refine s_sfld ?_ | with_reducible refine s_ienum ?_ | with_reducible refine s_disp ?_ | with_reducible refine s_pc ?_ | with_reducible refine s_pn ?_)
local macro_rules | `(tactic| walk_at "rd") => `(tactic| repeat walk_at "r1")

section
variable {P : Program} {w : World} {K : PySem.W.Frag} {mg : Str → Option Value} {base : Heap} {C : Addr}
theorem s_dgk {H : Hp} {a : Addr} {v : V} {A : V → Prop} {kvs : List (Key × V)} {s : Str} (h : H a = some (.dK kvs)) (hv : valV kvs (Sum.inr s) = some v) (q : A v) : ∃ a' v', V.ref a = .ref a' ∧ DGet H a' (.str s) (some v') ∧ A v' := ⟨a, v, rfl, hv ▸ DGet.k (k := Sum.inr s) h, q⟩
abbrev s__law_program : Stmt := topS 32
abbrev n__law_program : List Str := ["_law_model"]
theorem sc__law_program : FnScope ["_law_model"] ["_law_model"] (defScope s__law_program) := ⟨rfl, rfl, rfl, by decide +kernel, rfl, by decide +kernel, by decide +kernel⟩
def spProgram (K : PySem.W.Frag) (C : Addr) : Sp := fun vs H Q _ => ∃ m B F, vs = [.ref m] ∧ Same F H ∧ BOk B ∧ ModelAt K F m B ∧ ∀ b F' H', Ext F H F' H' → BenchAt K C F' b B → Q (.ref b) H'
theorem ok_program (B0 : Blt mg) (c_Bench : DefC P w K mg base 5 C "Bench" ["self", "hardness", "places", "grindings"] (spInit K C)) (F : FunAt K mg "_law_program" s__law_program ["_law_model"]) : Def P w K mg base 7 "_law_program" ["_law_model"] (spProgram K C) := by
  refine F.def (k := 6) sc__law_program (fun vs H Q E h => ?_) (fun f cdv A outer s H vs Q E hr h => ?_)
  · obtain ⟨m, B, F, rfl, _⟩ := h
    rfl
  · obtain ⟨m, B1, F, rfl, hF, ok, hm, q⟩ := h
    obtain ⟨l1, l2, l3, l4, hd, h1, h2, h3, h4⟩ := hm.ex
    obtain ⟨gx, hgx, hga⟩ := dp_list h2
    have B := B0
    refine ⟨_, (pss_one (ps_ret (pe_mk c_Bench (hr.mono (by decide)) (by rfl) (pa_cons (pe_callTy (k_list (K := K) rfl) (by rfl) B.list bb_list (pa_cons (pe_dget (hu_of hr) (pv 0) pe_str (fun _ _ => rfl)) pa_nil)) (pa_cons (pe_dget (hu_of hr) (pv 0) pe_str (fun _ _ => rfl)) (pa_cons (pe_callTy (k_list (K := K) rfl) (by rfl) B.list bb_list (pa_cons (pe_dget (hu_of hr) (pv 0) pe_str (fun _ _ => rfl)) pa_nil)) pa_nil)))))), ?_⟩; refine start_eq (σ' := [some (.ref m)]) rfl ?_
    walk_at "rd"
    refine s_dgk (hF _ _ hd) mv_hard ?_
    walk_at "rd"
    refine s_listL (sqL_mono hF h1) fun a na => ?_
    have e1 := (Ext.refl hF).new (o := .lst (B1.hard.map V.int)) na
    have f1 : (upd F a (.lst (B1.hard.map V.int))) a = some (.lst (B1.hard.map V.int)) := upd_same
    generalize upd H a (.lst (B1.hard.map V.int)) = H1 at *
    generalize upd F a (.lst (B1.hard.map V.int)) = F1 at *
    walk_at "rd"
    refine s_dgk (e1.fh _ _ (e1.ff _ _ hd)) mv_places ?_
    walk_at "rd"
    refine s_dgk (e1.fh _ _ (e1.ff _ _ hd)) mv_told ?_
    walk_at "rd"
    refine s_listL (sqL_mono (e1.ff.trans e1.fh) hgx) fun c nc => ?_
    have e2 := e1.new (o := .lst gx) nc
    have f2 : (upd F1 c (.lst gx)) c = some (.lst gx) := upd_same
    have s2 : Same F1 (upd F1 c (.lst gx)) := same_upd (sub_none e1.fh nc)
    generalize upd H1 c (.lst gx) = H2 at *
    generalize upd F1 c (.lst gx) = F2 at *
    walk_at "rd"
    intro x dx nx ndx nex
    refine ⟨x, dx, a, c, B1, H2, F2, rfl, rfl, nx, ndx, nex, e2.fh, ok, .inl (.inl (s2 _ _ f1)), .lst (.inl (.inl f2)) (dpAll_mono e2.ff hga), fun F' H' e' hb => ⟨rfl, ?_⟩⟩
    exact q x F' H' (e2.trans e') hb
abbrev s__law_stand : Stmt := topS 33
abbrev n__law_stand : List Str := ["_law_state", "_law_model", "_law_most", "_law_many", "_law_k"]
theorem sc__law_stand : FnScope ["_law_state", "_law_model", "_law_most", "_law_many", "_law_k"] ["_law_state", "_law_model", "_law_most"] (defScope s__law_stand) := ⟨rfl, rfl, rfl, by decide +kernel, rfl, by decide +kernel, by decide +kernel⟩
def spStand (K : PySem.W.Frag) : Sp := fun vs H Q _ => ∃ st s F m B, ∃ most : Int, vs = [.ref st, .ref m, .int most] ∧ 0 ≤ most ∧ most < 2 ^ 200 ∧ H st = some (.lst s) ∧ StOk s ∧ Same F (del H st) ∧ BOk B ∧ ModelAt K F m B ∧
  ∀ p (hs : List Int) F' H', SExt st F H F' H' → F' p = some (.tup (hs.map V.int)) → hs.length = B.heavy.length → (∀ h ∈ hs, -most ≤ h ∧ h ≤ most) → Q (.ref p) H'
theorem big_b {b : Int} (h1 : 0 < b) (h2 : b < 2 ^ 250) : ∀ n, CDivW n b := fun n => wide_div (b := 250) h1 (by
  have e : ((2 ^ 250 : Nat) : Int) = (2 : Int) ^ 250 := Int.natCast_pow 2 250
  omega) (by decide) (by decide)
theorem ints_of {most : Int} (ys : List V) (h : ∀ (i : Nat) v, ys[i]? = some v → ∃ x : Int, v = .int x ∧ -most ≤ x ∧ x ≤ most) : ∃ hs : List Int, ys = hs.map V.int ∧ ∀ x ∈ hs, -most ≤ x ∧ x ≤ most := by
  have : ∀ v ∈ ys, ∃ x : Int, v = .int x ∧ -most ≤ x ∧ x ≤ most := fun v hv => by
    obtain ⟨i, hi⟩ := List.getElem?_of_mem hv
    exact h i v hi
  clear h
  induction ys with
  | nil => exact ⟨[], rfl, fun h z => by cases z⟩
  | cons v ys ih =>
    obtain ⟨h, rfl, h9⟩ := this v (List.mem_cons_self ..)
    obtain ⟨hs, rfl, hs9⟩ := ih fun x hx => this x (List.mem_cons_of_mem _ hx)
    exact ⟨h :: hs, rfl, fun x hx => by
      rcases List.mem_cons.mp hx with rfl | hx
      · exact h9
      · exact hs9 x hx⟩
theorem ok_stand (B0 : Blt mg) (d__law_digit : Def P w K mg base 1 "_law_digit" ["_law_state", "_law_base"] (spDigit K)) (F : FunAt K mg "_law_stand" s__law_stand ["_law_state", "_law_model", "_law_most"]) : Def P w K mg base 2 "_law_stand" ["_law_state", "_law_model", "_law_most"] (spStand K) := by
  refine F.def (k := 1) sc__law_stand (fun vs H Q E h => ?_) (fun f cdv A outer s H vs Q E hr h => ?_)
  · obtain ⟨st, s, F, m, B, most, rfl, _⟩ := h
    rfl
  · obtain ⟨st, s, F, m, B1, most, rfl, m0, m1, hst, sok, hF, ok, hm, q⟩ := h
    obtain ⟨l1, l2, l3, l4, hd, h1, h2, h3, h4⟩ := hm.ex
    have B := B0
    have r0 : SExt st F H F H := SExt.refl hF hst sok
    have hl := ok.heavy_lt
    have p200 : (2 : Int) ^ 200 * 4 ≤ 2 ^ 250 := by decide
    refine ⟨_, (pss_cons (ps_set (i := 3) sc__law_stand.nd rfl (Or.inl rfl) (pe_callB (k_len (K := K) rfl) (by rfl) B.len bb_len (pa_cons (pe_dget (hu_of hr) (pv 1) pe_str (fun _ _ => rfl)) pa_nil))) (pss_cons (ps_if (pt_cmpR (k_eq (K := K) rfl hr.units) (pe_d d__law_digit (hr.mono (by decide)) (by rfl) (pa_cons (pv 0) (pa_cons pe_int pa_nil))) pe_int (nomark _)) (pss_one (ps_ret (pe_callTy (k_tuple (K := K) rfl) (by rfl) B.tuple bb_tuple (pa_cons (pe_lc (own := [("_law_k", 4)]) rfl sc__law_stand.nd (pi_range1 (by rfl) B.range (pa_cons (pv 3) pa_nil)) (blkOk_by (own := [("_law_k", 4)]) (N := n__law_stand) (sc := defScope s__law_stand) (by decide +kernel)) (fun _ _ _ _ _ => (pg_name (i := 4) sc__law_stand.nd rfl (Or.inl rfl))) (fun _ _ _ _ _ => pts_nil) (fun _ _ _ _ _ => (pe_op opMulU (pe_op op_sub (pe_d d__law_digit (hr.mono (by decide)) (by rfl) (pa_cons (pv 0) (pa_cons pe_int pa_nil))) pe_int) (pe_d d__law_digit (hr.mono (by decide)) (by rfl) (pa_cons (pv 0) (pa_cons (pe_op (k_add (K := K) rfl) (pv 2) pe_int) pa_nil)))))) pa_nil)))) pss_nil) (pss_one (ps_ret (pe_callTy (k_tuple (K := K) rfl) (by rfl) B.tuple bb_tuple (pa_cons (pe_lc (own := [("_law_k", 4)]) rfl sc__law_stand.nd (pi_range1 (by rfl) B.range (pa_cons (pv 3) pa_nil)) (blkOk_by (own := [("_law_k", 4)]) (N := n__law_stand) (sc := defScope s__law_stand) (by decide +kernel)) (fun _ _ _ _ _ => (pg_name (i := 4) sc__law_stand.nd rfl (Or.inl rfl))) (fun _ _ _ _ _ => pts_nil) (fun _ _ _ _ _ => (pe_op op_sub (pe_d d__law_digit (hr.mono (by decide)) (by rfl) (pa_cons (pv 0) (pa_cons (pe_op (k_add (K := K) rfl) (pe_op opMulU pe_int (pv 2)) pe_int) pa_nil))) (pv 2)))) pa_nil)))))), ?_⟩; refine start_eq (σ' := [some (.ref st), some (.ref m), some (.int most), none, none]) rfl ?_
    walk_at "rd"
    refine s_dgk (r0.fh _ _ hd) mv_heavy ?_
    walk_at "rd"
    refine s_lenL (sqL_mono r0.fh h3) ?_
    rw [List.length_map]
    walk_at "rd"
    refine draw r0 (small_b (by decide) (by decide)) fun d0 H1 a0 b0 r1 _ => ?_
    walk_at "rd"
    have fin : ∀ D ys F' H', SExt st F H1 F' H' → F' D = some (.lst ys) → ys.length = ((B1.heavy.length : Int)).toNat → (∀ (i : Nat) v, ys[i]? = some v → ∃ x : Int, v = .int x ∧ -most ≤ x ∧ x ≤ most) → rTupleOf K [.ref D] H' Q := fun D ys F' H' e' hD hlen hR => by
      obtain ⟨hs, rfl, hb⟩ := ints_of ys hR
      refine s_tupleL (.inl (.inl (e'.fh _ _ hD))) fun p np => ?_
      refine q p hs _ _ ((r1.trans e').new np) upd_same ?_ hb
      rw [List.length_map] at hlen
      omega
    refine s_d2 (fun e0 => ?_) (fun e0 => ?_)
    · walk_at "rd"
      refine ⟨_, rfl, by omega, by omega, ?_⟩
      refine lc_mapS walk_range r1 (by omega) (fun _ _ => trivial) (fun i _ v => ∃ x : Int, v = .int x ∧ -most ≤ x ∧ x ≤ most) (fun _ _ _ _ _ h => h) (fun i x F' Ha Hb D Z hi ex fd hd nD hy hz => ?_) (fun D ys F5 H5 nh r5 fh hlen hR => ?_)
      · obtain ⟨rfl, rfl⟩ := hy
        have ex0 : SExt st F' Hb F' Hb := by
          obtain ⟨s, hs, ok⟩ := ex.st
          exact SExt.refl ex.ext.fh hs ok
        walk_at "rd"
        refine ⟨rfl, ?_⟩
        walk_at "rd"
        refine draw ex0 (small_b (by decide) (by decide)) fun e1 Hc c1 c2 x1 _ => ?_
        walk_at "rd"
        refine draw x1 (big_b (by omega) (by omega)) fun e2 Hd c3 c4 x2 _ => ?_
        refine s_mulI (.inl ⟨by omega, by omega⟩) ?_
        have k3 : e1 = 0 ∨ e1 = 1 ∨ e1 = 2 := by omega
        rcases k3 with rfl | rfl | rfl
        · exact hz _ _ _ x2 ⟨_, rfl, by omega, by omega⟩
        · exact hz _ _ _ x2 ⟨_, rfl, by omega, by omega⟩
        · exact hz _ _ _ x2 ⟨_, rfl, by omega, by omega⟩
      · walk_at "rd"
        exact fin D ys F5 H5 r5 fh hlen hR
    · walk_at "rd"
      refine ⟨_, rfl, by omega, by omega, ?_⟩
      refine lc_mapS walk_range r1 (by omega) (fun _ _ => trivial) (fun i _ v => ∃ x : Int, v = .int x ∧ -most ≤ x ∧ x ≤ most) (fun _ _ _ _ _ h => h) (fun i x F' Ha Hb D Z hi ex fd hd nD hy hz => ?_) (fun D ys F5 H5 nh r5 fh hlen hR => ?_)
      · obtain ⟨rfl, rfl⟩ := hy
        have ex0 : SExt st F' Hb F' Hb := by
          obtain ⟨s, hs, ok⟩ := ex.st
          exact SExt.refl ex.ext.fh hs ok
        walk_at "rd"
        refine ⟨rfl, ?_⟩
        walk_at "rd"
        refine s_mulI (.inl ⟨by decide, by decide⟩) ?_
        walk_at "rd"
        refine draw ex0 (big_b (by omega) (by omega)) fun e1 Hc c1 c2 x1 _ => ?_
        walk_at "rd"
        exact hz _ _ _ x1 ⟨_, rfl, by omega, by omega⟩
      · walk_at "rd"
        exact fin D ys F5 H5 r5 fh hlen hR
abbrev s__law_grains : Stmt := topS 34
abbrev n__law_grains : List Str := ["_law_model", "_law_heights", "_law_pair", "_law_spot", "_law_other", "_law_both", "_law_total", "_law_grains_here"]
theorem sc__law_grains : FnScope ["_law_model", "_law_heights", "_law_pair", "_law_spot", "_law_other", "_law_both", "_law_total", "_law_grains_here"] ["_law_model", "_law_heights", "_law_pair"] (defScope s__law_grains) := ⟨rfl, rfl, rfl, by decide +kernel, rfl, by decide +kernel, by decide +kernel⟩
def spLGrains (K : PySem.W.Frag) : Sp := fun vs H Q _ => ∃ m B s hs p, ∃ u v : Nat, vs = [.ref m, .ref s, .ref p] ∧ BOk B ∧ ModelAt K H m B ∧ SqT K H s (hs.map V.int) ∧ hs.length = B.heavy.length ∧ SqT K H p [.int u, .int v] ∧ u < B.heavy.length ∧ v < B.heavy.length ∧ Q (.int (grain B.heavy hs (u, v))) H
theorem ok_lgrains (B0 : Blt mg) (F : FunAt K mg "_law_grains" s__law_grains ["_law_model", "_law_heights", "_law_pair"]) : Def P w K mg base 1 "_law_grains" ["_law_model", "_law_heights", "_law_pair"] (spLGrains K) := by
  refine F.def (k := 0) sc__law_grains (fun vs H Q E h => ?_) (fun f cdv A outer s H vs Q E hr h => ?_)
  · obtain ⟨m, B, s, hs, p, u, v, rfl, _⟩ := h
    rfl
  · obtain ⟨m, B1, st, hs, p, u, v, rfl, ok, hm, hst, hl, hp, hu, hv, q⟩ := h
    obtain ⟨l1, l2, l3, l4, hd, h1, h2, h3, h4⟩ := hm.ex
    have B := B0
    have w1 := ok.w9 hu
    have w2 := ok.w9 hv
    refine ⟨_, (pss_cons (ps_asg (pv 2) (k_tup (K := K) (n := 2) rfl rfl (pgs_cons (pg_name (i := 3) sc__law_grains.nd rfl (Or.inl rfl)) (pgs_cons (pg_name (i := 4) sc__law_grains.nd rfl (Or.inl rfl)) pgs_nil)))) (pss_cons (ps_set (i := 5) sc__law_grains.nd rfl (Or.inl rfl) (pe_op (k_add (K := K) rfl) (pe_ix (k_ix (K := K) rfl) (pe_dget (hu_of hr) (pv 0) pe_str (fun _ _ => rfl)) (pv 3) (fun _ _ => rfl)) (pe_ix (k_ix (K := K) rfl) (pe_dget (hu_of hr) (pv 0) pe_str (fun _ _ => rfl)) (pv 4) (fun _ _ => rfl)))) (pss_cons (ps_set (i := 6) sc__law_grains.nd rfl (Or.inl rfl) (pe_op (k_add (K := K) rfl) (pe_ix (k_ix (K := K) rfl) (pv 1) (pv 3) (fun _ _ => rfl)) (pe_ix (k_ix (K := K) rfl) (pv 1) (pv 4) (fun _ _ => rfl)))) (pss_cons (ps_set (i := 7) sc__law_grains.nd rfl (Or.inl rfl) (pe_op op_fdivW (pe_callB call_abs (by rfl) B.abs bb_abs (pa_cons (pv 6) pa_nil)) (pv 5))) (pss_one (ps_ret (pe_ifExp (pt_cmpR op_gt (pv 6) pe_int (nomark _)) (pv 7) (pe_op op_sub pe_int (pv 7))))))))), ?_⟩; refine start_eq (σ' := [some (.ref m), some (.ref st), some (.ref p), none, none, none, none, none]) rfl ?_
    walk_at "rd"
    refine s_gt hp rfl ?_
    walk_at "rd"
    refine s_dgk hd mv_heavy ?_
    walk_at "rd"
    refine s_ixL h3 (at_int hu) ?_
    walk_at "rd"
    refine s_dgk hd mv_heavy ?_
    walk_at "rd"
    refine s_ixL h3 (at_int hv) ?_
    walk_at "rd"
    refine s_ixT hst (at_int (by omega)) ?_
    walk_at "rd"
    refine s_ixT hst (at_int (by omega)) ?_
    walk_at "rd"
    refine ⟨_, rfl, ?_⟩
    walk_at "rd"
    refine s_I (div_small (by omega) (by omega)) ?_
    walk_at "rd"
    have e := tn_law (hs.getD u 0 + hs.getD v 0) (B1.heavy.getD u 0 + B1.heavy.getD v 0)
    have q' : Q (.int (tn (hs.getD u 0 + hs.getD v 0) (B1.heavy.getD u 0 + B1.heavy.getD v 0))) H := q
    rw [← e] at q'
    refine s_d2 (fun h => ?_) (fun h => ?_)
    · rw [if_pos h] at q'
      walk_at "rd"
      exact q'
    · rw [if_neg h] at q'
      walk_at "rd"
      exact q'
/-- the law's own bench, a stand, a grinding's number -/
structure LA (K : PySem.W.Frag) (H : Hp) (m s : Addr) (B : BD) (hs : List Int) (r : List (Nat × Nat)) (k : Nat) : Prop where
  ok : BOk B
  model : ModelAt K H m B
  stand : SqT K H s (hs.map V.int)
  len : hs.length = B.heavy.length
  row : B.meets[k]? = some r
theorem LA.mono {H H' : Hp} {b s : Addr} {B : BD} {hs : List Int} {r : List (Nat × Nat)} {k : Nat} (e : Same H H') (h : LA K H b s B hs r k) : LA K H' b s B hs r k := ⟨h.ok, h.model.mono e, sqT_mono e h.stand, h.len, h.row⟩
theorem LA.mem {H : Hp} {b s : Addr} {B : BD} {hs : List Int} {r : List (Nat × Nat)} {k : Nat} (h : LA K H b s B hs r k) : r ∈ B.meets := List.mem_of_getElem? h.row
abbrev s__law_ground : Stmt := topS 35
abbrev n__law_ground : List Str := ["_law_model", "_law_heights", "_law_number", "_law_left", "_law_dust", "_law_spot", "_law_other", "_law_grains_here"]
theorem sc__law_ground : FnScope ["_law_model", "_law_heights", "_law_number", "_law_left", "_law_dust", "_law_spot", "_law_other", "_law_grains_here"] ["_law_model", "_law_heights", "_law_number"] (defScope s__law_ground) := ⟨rfl, rfl, rfl, by decide +kernel, rfl, by decide +kernel, by decide +kernel⟩
def spLGround (K : PySem.W.Frag) : Sp := fun vs H Q _ => ∃ m B s hs r k, vs = [.ref m, .ref s, .int (k : Nat)] ∧ LA K H m s B hs r k ∧
  ∀ H' p p1 p2, Same H H' → H p = none → H p1 = none → H p2 = none → H' p = some (.tup [.ref p1, .ref p2]) → H' p1 = some (.tup ((after B.heavy hs r).map V.int)) → H' p2 = some (.tup ((dust B.heavy hs r).map V.int)) → Q (.ref p) H'
theorem ok_lground (B0 : Blt mg) (d__law_grains : Def P w K mg base 1 "_law_grains" ["_law_model", "_law_heights", "_law_pair"] (spLGrains K)) (F : FunAt K mg "_law_ground" s__law_ground ["_law_model", "_law_heights", "_law_number"]) : Def P w K mg base 2 "_law_ground" ["_law_model", "_law_heights", "_law_number"] (spLGround K) := by
  refine F.def (k := 1) sc__law_ground (fun vs H Q E h => ?_) (fun f cdv A outer s H vs Q E hr h => ?_)
  · obtain ⟨m, B, s, hs, r, k, rfl, _⟩ := h
    rfl
  · obtain ⟨m, B1, st, hs, r, k, rfl, g, q⟩ := h
    obtain ⟨l1, l2, l3, l4, hd, h1, h2, h3, h4⟩ := g.model.ex
    obtain ⟨xs, a, ys, e1, e2, e3, e4⟩ := meets_at h4 g.row
    have B := B0
    have ylen : ys.length = r.length := by rw [dpAll_len e4, List.length_map]
    have rlen := g.ok.row_len g.mem
    have pl := g.ok.places
    refine ⟨_, (pss_cons (ps_set (i := 3) sc__law_ground.nd rfl (Or.inl rfl) (pe_callTy (k_list (K := K) rfl) (by rfl) B.list bb_list (pa_cons (pv 1) pa_nil))) (pss_cons (ps_set (i := 4) sc__law_ground.nd rfl (Or.inl rfl) (pe_lst pa_nil)) (pss_cons (ps_for PassesOwn.never rfl (k_seq (K := K) rfl (pe_ix (k_ix (K := K) rfl) (pe_dget (hu_of hr) (pv 0) pe_str (fun _ _ => rfl)) (pv 2) (fun _ _ => rfl))) (k_tup (K := K) (n := 2) rfl rfl (pgs_cons (pg_name (i := 5) sc__law_ground.nd rfl (Or.inl rfl)) (pgs_cons (pg_name (i := 6) sc__law_ground.nd rfl (Or.inl rfl)) pgs_nil))) (pss_cons (ps_set (i := 7) sc__law_ground.nd rfl (Or.inl rfl) (pe_d d__law_grains (hr.mono (by decide)) (by rfl) (pa_cons (pv 0) (pa_cons (pv 1) (pa_cons (pe_tup (pa_cons (pv 5) (pa_cons (pv 6) pa_nil))) pa_nil))))) (pss_cons (ps_asg (pe_op op_sub (pe_ix (k_ix (K := K) rfl) (pv 3) (pv 5) (fun _ _ => rfl)) (pe_op opMulU (pv 7) (pe_ix (k_ix (K := K) rfl) (pe_dget (hu_of hr) (pv 0) pe_str (fun _ _ => rfl)) (pv 6) (fun _ _ => rfl)))) (pg_sub (pv 3) (pv 5) set_list)) (pss_cons (ps_asg (pe_op op_sub (pe_ix (k_ix (K := K) rfl) (pv 3) (pv 6) (fun _ _ => rfl)) (pe_op opMulU (pv 7) (pe_ix (k_ix (K := K) rfl) (pe_dget (hu_of hr) (pv 0) pe_str (fun _ _ => rfl)) (pv 5) (fun _ _ => rfl)))) (pg_sub (pv 3) (pv 6) set_list)) (pss_one (ps_expr (k_bm (K := K) rfl PySem.F.plainAttrs_list PySem.F.slot_list_append PySem.F.type_list_append mt_append (pv 4) (pa_cons (pv 7) pa_nil)))))))) (pss_one (ps_ret (pe_tup (pa_cons (pe_callTy (k_tuple (K := K) rfl) (by rfl) B.tuple bb_tuple (pa_cons (pv 3) pa_nil)) (pa_cons (pe_callTy (k_tuple (K := K) rfl) (by rfl) B.tuple bb_tuple (pa_cons (pv 4) pa_nil)) pa_nil)))))))), ?_⟩; refine start_eq (σ' := [some (.ref m), some (.ref st), some (.int k), none, none, none, none, none]) rfl ?_
    walk_at "rd"
    refine s_listT g.stand fun l nl => ?_
    have s1 : Same H (upd H l (.lst (hs.map V.int))) := same_upd nl
    have hl1 : (upd H l (.lst (hs.map V.int))) l = some (.lst (hs.map V.int)) := upd_same
    generalize upd H l (.lst (hs.map V.int)) = H1 at *
    walk_at "rd"
    refine ⟨Nat.zero_le _, fun ld nd => ?_⟩
    have s2 : Same H (upd H1 ld (.lst [])) := s1.trans (same_upd nd)
    have hl2 : (upd H1 ld (.lst [])) l = some (.lst (hs.map V.int)) := rH_new nd hl1
    have hd2 : (upd H1 ld (.lst [])) ld = some (.lst []) := upd_same
    have lld : l ≠ ld := fun z => by rw [z, nd] at hl1; cases hl1
    have ndH : H ld = none := s1.free nd
    generalize upd H1 ld (.lst []) = H2 at *
    walk_at "rd"
    refine s_dgk (s2 _ _ hd) mv_meets ?_
    walk_at "rd"
    refine s_ixL (sqL_mono s2 e1) e2 ?_
    refine .inl ⟨a, rfl, ⟨_, sqL_mono s2 e3⟩, ?_⟩
    refine for_w (walk_list (xs := ys)) (fun i σ Hx => ∃ y5 y6 y7, σ = [some (.ref m), some (.ref st), some (.int k), some (.ref l), some (.ref ld), y5, y6, y7] ∧ Same H Hx ∧ Hx l = some (.lst ((takeAll B1.heavy hs (r.take i) ((dust B1.heavy hs r).take i)).map V.int)) ∧ Hx ld = some (.lst (((dust B1.heavy hs r).take i).map V.int))) ?_ ?_ ?_ ?_
    · exact ⟨none, none, none, rfl, s2, by rw [hl2]; simp [takeAll], by rw [hd2]; rfl⟩
    · rintro i σ Hx _ ⟨_, _, _, _, e, _⟩
      exact sqL_mono e e3
    · rintro i v σ Hx Hy hi ⟨y5, y6, y7, rfl, e, hlx, hdx⟩ ⟨rfl, hv⟩
      have hir : i < r.length := by omega
      have hri : r[i]? = some r[i] := List.getElem?_eq_getElem hir
      have hgi : (dust B1.heavy hs r)[i]? = some (grain B1.heavy hs r[i]) := by simp [dust, hri]
      obtain ⟨v', hv', dv⟩ := dpAll_get (i := i) e4 (by rw [List.getElem?_map, hri]; rfl)
      rw [hv] at hv'
      cases hv'
      obtain ⟨c, rfl, hc⟩ := pD_at dv
      obtain ⟨i1, i2⟩ := g.ok.row g.mem (List.getElem_mem hir)
      have tk := takeAll_take B1.heavy r (dust B1.heavy hs r) hs i r[i] _ hri hgi
      have dk : (dust B1.heavy hs r).take (i + 1) = (dust B1.heavy hs r).take i ++ [grain B1.heavy hs r[i]] := by rw [List.take_add_one, hgi]; rfl
      have gl := g.len
      obtain ⟨u, v⟩ : Nat × Nat := r[i]
      generalize hr : r[i] = rv at *
      obtain ⟨u, v⟩ := rv
      have tl := takeAll_len B1.heavy hs (r.take i) ((dust B1.heavy hs r).take i)
      generalize takeAll B1.heavy hs (r.take i) ((dust B1.heavy hs r).take i) = hs5 at *
      generalize hgr : grain B1.heavy hs (u, v) = gr at *
      have w1 := g.ok.w9 i1
      have w2 := g.ok.w9 i2
      refine s_gt (sqT_mono e hc) rfl ?_
      walk_at "rd"
      refine ⟨by show 2 ≤ sizeLine; decide, fun t nt => ?_⟩
      have s3 : Same H (upd Hy t (.tup [.int (u : Int), .int (v : Int)])) := e.trans (same_upd nt)
      have ht3 : SqT K (upd Hy t (.tup [.int (u : Int), .int (v : Int)])) t [.int u, .int v] := rT_at
      have hl3 := rH_new (o := .tup [.int (u : Int), .int (v : Int)]) nt hlx
      have hd3 := rH_new (o := .tup [.int (u : Int), .int (v : Int)]) nt hdx
      generalize upd Hy t (.tup [.int (u : Int), .int (v : Int)]) = H3 at *
      walk_at "rd"
      refine ⟨m, B1, st, hs, t, u, v, rfl, g.ok, g.model.mono s3, sqT_mono s3 g.stand, g.len, ht3, i1, i2, ?_⟩
      rw [hgr]
      walk_at "rd"
      refine s_ixL (.inl (.inl hl3)) (at_int (by omega)) ?_
      walk_at "rd"
      refine s_dgk (s3 _ _ hd) mv_heavy ?_
      walk_at "rd"
      refine s_ixL (sqL_mono s3 h3) (at_int i2) ?_
      refine s_mulI (.inr ⟨by omega, by omega⟩) ?_
      walk_at "rd"
      refine s_setL hl3 (ix_int (by simp; omega)) ?_
      rw [set_map]
      have s4 : Same H (upd H3 l (.lst ((hs5.set u (hs5.getD u 0 - gr * B1.heavy.getD v 0)).map V.int))) := same_updR s3 nl
      have hl4 : (upd H3 l (.lst ((hs5.set u (hs5.getD u 0 - gr * B1.heavy.getD v 0)).map V.int))) l = some (.lst ((hs5.set u (hs5.getD u 0 - gr * B1.heavy.getD v 0)).map V.int)) := upd_same
      have hd4 : (upd H3 l (.lst ((hs5.set u (hs5.getD u 0 - gr * B1.heavy.getD v 0)).map V.int))) ld = _ := (upd_ne (Ne.symm lld)).trans hd3
      generalize upd H3 l (.lst ((hs5.set u (hs5.getD u 0 - gr * B1.heavy.getD v 0)).map V.int)) = H4 at *
      walk_at "rd"
      refine s_ixL (.inl (.inl hl4)) (at_int (by simp; omega)) ?_
      walk_at "rd"
      refine s_dgk (s4 _ _ hd) mv_heavy ?_
      walk_at "rd"
      refine s_ixL (sqL_mono s4 h3) (at_int i1) ?_
      refine s_mulI (.inr ⟨by omega, by omega⟩) ?_
      walk_at "rd"
      refine s_setL hl4 (ix_int (by simp; omega)) ?_
      rw [set_map]
      walk_at "rd"
      have hd5 := (upd_ne (H := H4) (o := .lst (((hs5.set u (hs5.getD u 0 - gr * B1.heavy.getD v 0)).set v ((hs5.set u (hs5.getD u 0 - gr * B1.heavy.getD v 0)).getD v 0 - gr * B1.heavy.getD u 0)).map V.int)) (Ne.symm lld)).trans hd4
      refine ⟨tyV_lst hd5, ?_⟩
      walk_at "rd"
      refine s_app hd5 (by simp [dust]; omega) ?_
      refine ⟨_, _, _, rfl, same_updR (same_updR s4 nl) ndH, ?_, ?_⟩
      · rw [upd_ne lld, upd_same, tk]
        simp only [take1, Int.mul_comm gr]
      · rw [upd_same, dk, List.map_append]
        rfl
    · rintro σ Hx ⟨y5, y6, y7, rfl, e, hlx, hdx⟩
      rw [ylen, List.take_of_length_le (Nat.le_refl _), List.take_of_length_le (by simp [dust])] at hlx
      rw [ylen, List.take_of_length_le (by simp [dust])] at hdx
      walk_at "rd"
      refine s_tupleL (.inl (.inl hlx)) fun p1 n1 => ?_
      walk_at "rd"
      refine s_tupleL (rL_new n1 (.inl (.inl hdx))) fun p2 n2 => ?_
      walk_at "rd"
      refine ⟨by show 2 ≤ sizeLine; decide, fun p np => ?_⟩
      have t1 := e.trans (same_upd (o := .tup ((takeAll B1.heavy hs r (dust B1.heavy hs r)).map V.int)) n1)
      have t2 := t1.trans (same_upd (o := .tup ((dust B1.heavy hs r).map V.int)) n2)
      exact q _ p p1 p2 (t2.trans (same_upd np)) (t2.free np) (e.free n1) (t1.free n2) upd_same (rH_new np (rH_new n2 upd_same)) (rH_new np upd_same)
end
end G

namespace G
open PySem PySem.Spec PyProof.Rows L2
local macro_rules | `(tactic| walk_at "lk") => `(tactic| first | assumption | exact rT_at | exact rL_at | exact upd_same | (refine sqT_mono ?_ (by assumption); assumption) | (refine sqL_mono ?_ (by assumption); assumption) | (refine rT_new (by assumption) ?_; walk_at "lk") | (refine rL_new (by assumption) ?_; walk_at "lk") | (refine rH_new (by assumption) ?_; walk_at "lk") | (refine rD_new (by assumption) ?_; walk_at "lk") | (refine dp_mono ?_ (by assumption); assumption))
local macro_rules | `(tactic| walk_at "r1") => `(tactic| first | ((with_reducible show tVar _ _ _ _); refine s_var rfl ?_) | with_reducible refine s_c ?_ | with_reducible refine s_op ?_ | with_reducible refine s_un ?_ | with_reducible refine s_neg ?_ | with_reducible refine s_test ?_ | with_reducible refine s_B ?_ | with_reducible refine s_bl ?_ | with_reducible refine s_not ?_ | with_reducible refine s_yes ?_ | with_reducible refine s_and ?_ | with_reducible refine s_or ?_ | with_reducible refine s_notV ?_ | with_reducible refine s_andV ?_ | with_reducible refine s_orV ?_ | with_reducible refine s_if ?_ | with_reducible refine s_cT ?_ | with_reducible refine s_cF ?_ | with_reducible refine s_nT ?_ | with_reducible refine s_nF ?_ | with_reducible refine s_addI ?_ | with_reducible refine s_eqI ?_ | with_reducible refine s_neI ?_ | with_reducible refine s_eqB ?_ | with_reducible refine s_neB ?_ | with_reducible refine s_I0 ?_ | with_reducible refine s_non ?_ | with_reducible refine s_int ?_ | with_reducible refine s_chain ?_ | with_reducible refine s_cons ?_ | with_reducible refine s_nil ?_ | with_reducible refine s_call ?_ | with_reducible refine s_cb ?_ | with_reducible refine s_meth ?_ | with_reducible refine s_make ?_ | with_reducible refine s_tup ?_ | with_reducible refine s_lst ?_ | with_reducible refine s_bm ?_ | with_reducible refine s_bm0 ?_ | with_reducible refine s_bmT ?_ | with_reducible refine s_fld ?_ | with_reducible refine s_dget ?_ | with_reducible refine s_sl ?_ | with_reducible refine s_part ?_ | with_reducible refine s_nopart ?_ | with_reducible refine s_seq ?_ | with_reducible refine s_next ?_ | with_reducible refine s_asg ?_ | with_reducible refine s_gn ?_ | with_reducible refine s_gc ?_ | with_reducible refine s_g0 ?_ | with_reducible refine s_gs ?_ | with_reducible refine s_ret ?_ | with_reducible refine s_ifS ?_ | with_reducible refine s_drop ?_ | with_reducible refine s_augS ?_ | ((with_reducible show tAug _ _ _ _ _ _); refine s_aug rfl ?_) | with_reducible refine s_ipI ?_ | with_reducible refine s_for ?_ | with_reducible refine s_iseq ?_ | with_reducible refine s_rng1 ?_ | with_reducible refine s_izip ?_ | with_reducible refine s_lc ?_ | with_reducible refine s_lc2 ?_ | with_reducible refine s_lstRg ?_ | with_reducible refine s_rg1 ?_ | with_reducible refine s_sfld ?_ | with_reducible refine s_ienum ?_ | with_reducible refine s_disp ?_ | with_reducible refine s_pc ?_ | with_reducible refine s_pn ?_)
local macro_rules | `(tactic| walk_at "rd") => `(tactic| repeat walk_at "r1")

theorem Ext.same {F H H' : Hp} (e : Same F H) (s : Same H H') : Ext F H F H' := ⟨s, Same.refl F, e.trans s, fun _ _ h => h⟩
theorem del_none {H : Hp} {a : Addr} (h : H a = none) : Same H (del H a) := fun b o hb => by rw [del_ne (ne_of_none hb h)]; exact hb
section
variable {P : Program} {w : World} {K : PySem.W.Frag} {mg : Str → Option Value} {base : Heap} {C : Addr}
structure LB (K : PySem.W.Frag) (H : Hp) (m s : Addr) (B : BD) (hs : List Int) : Prop where
  ok : BOk B
  model : ModelAt K H m B
  stand : SqT K H s (hs.map V.int)
  len : hs.length = B.heavy.length
theorem LB.mono {H H' : Hp} {b s : Addr} {B : BD} {hs : List Int} (e : Same H H') (h : LB K H b s B hs) : LB K H' b s B hs := ⟨h.ok, h.model.mono e, sqT_mono e h.stand, h.len⟩
theorem LB.at {H : Hp} {b s : Addr} {B : BD} {hs : List Int} (g : LB K H b s B hs) {k : Nat} (h : k < B.meets.length) : LA K H b s B hs (B.meets.getD k []) k :=
  ⟨g.ok, g.model, g.stand, g.len, by rw [List.getD_eq_getElem?_getD, List.getElem?_eq_getElem h]; rfl⟩
abbrev s__law_taking : Stmt := topS 36
abbrev n__law_taking : List Str := ["_law_model", "_law_heights", "_law_k"]
theorem sc__law_taking : FnScope ["_law_model", "_law_heights", "_law_k"] ["_law_model", "_law_heights"] (defScope s__law_taking) := ⟨rfl, rfl, rfl, by decide +kernel, rfl, by decide +kernel, by decide +kernel⟩
def spLTaking (K : PySem.W.Frag) : Sp := fun vs H Q _ => ∃ m B s hs, vs = [.ref m, .ref s] ∧ LB K H m s B hs ∧ ∀ H' p, Same H H' → H p = none → H' p = some (.lst ((taking B hs).map V.int)) → Q (.ref p) H'
theorem ok_ltaking (B0 : Blt mg) (d__law_ground : Def P w K mg base 2 "_law_ground" ["_law_model", "_law_heights", "_law_number"] (spLGround K)) (F : FunAt K mg "_law_taking" s__law_taking ["_law_model", "_law_heights"]) : Def P w K mg base 3 "_law_taking" ["_law_model", "_law_heights"] (spLTaking K) := by
  refine F.def (k := 2) sc__law_taking (fun vs H Q E h => ?_) (fun f cdv A outer s H vs Q E hr h => ?_)
  · obtain ⟨m, B, s, hs, rfl, _⟩ := h
    rfl
  · obtain ⟨m, B1, st, hs, rfl, g, q⟩ := h
    obtain ⟨l1, l2, l3, l4, hd, h1, h2, h3, h4⟩ := g.model.ex
    obtain ⟨xs, e1, e2⟩ := dp_list h4
    have B := B0
    have xlen : xs.length = B1.meets.length := by rw [dpAll_len e2, List.length_map]
    have tl := g.ok.told
    have ml := B1.meets_len
    refine ⟨_, (pss_one (ps_ret (pe_lc (own := [("_law_k", 2)]) rfl sc__law_taking.nd (pi_range1 (by rfl) B.range (pa_cons (pe_callB (k_len (K := K) rfl) (by rfl) B.len bb_len (pa_cons (pe_dget (hu_of hr) (pv 0) pe_str (fun _ _ => rfl)) pa_nil)) pa_nil)) (blkOk_by (own := [("_law_k", 2)]) (N := n__law_taking) (sc := defScope s__law_taking) (by decide +kernel)) (fun _ _ _ _ _ => (pg_name (i := 2) sc__law_taking.nd rfl (Or.inl rfl))) (fun _ _ _ _ _ => (pts_one (pt_cmpR (k_ne (K := K) rfl hr.units) (pe_ix (k_ix (K := K) rfl) (pe_d d__law_ground (hr.mono (by decide)) (by rfl) (pa_cons (pv 0) (pa_cons (pv 1) (pa_cons (pv 2) pa_nil)))) pe_int (fun _ _ => rfl)) (pv 1) (nomark _)))) (fun _ _ _ _ _ => (pv 2))))), ?_⟩; refine start_eq (σ' := [some (.ref m), some (.ref st), none]) rfl ?_
    walk_at "rd"
    refine s_dgk hd mv_meets ?_
    walk_at "rd"
    refine s_lenL e1 ?_
    walk_at "rd"
    refine ⟨_, rfl, by omega, by omega, ?_⟩
    refine lc_filt walk_range (F := H) (Same.refl H) (by omega) (fun H' e' => trivial) (fun k => takesOff B1.heavy hs (B1.meets.getD k [])) (fun k => .int (k : Nat)) (fun i x F' H1 H2 D Z1 Z0 hi ex _ _ hy hz1 hz0 => ?_) (fun D F' H' hD ex hd => ?_)
    · obtain ⟨rfl, rfl⟩ := hy
      have hi' : i < B1.meets.length := by omega
      have ga := (g.mono ex.hh).at hi'
      walk_at "rd"
      refine ⟨rfl, ?_⟩
      walk_at "rd"
      refine ⟨m, B1, st, hs, _, i, by simp, ga, fun H' p p1 p2 e' n n1 n2 hp hp1 hp2 => ?_⟩
      have e5 : Ext F' H2 F' H' := Ext.same ex.fh e'
      walk_at "rd"
      refine s_ixT (.inl (.inl hp)) rfl ?_
      walk_at "rd"
      refine s_neD (dp_tupI (.inl (.inl hp1))) (dp_tupI (sqT_mono e' ga.stand)) (sh_shaped (sh_tupleI _)) (sh_shaped (sh_tupleI _)) ?_
      have e6 : (!PyData.eqv (.tuple ((after B1.heavy hs (B1.meets.getD i [])).map PyData.int)) (.tuple (hs.map PyData.int))) = takesOff B1.heavy hs (B1.meets.getD i []) := by
        show (!PyData.eqvAll _ _) = _
        rw [eqvAll_ints, takes_iff g.ok ga.mem g.len, Bool.not_not]
      rw [e6]
      walk_at "rd"
      refine s_b2 (fun e => ?_) (fun e => ?_)
      · walk_at "rd"
        have := hz1 F' H' e5 e
        simpa using this
      · exact hz0 F' H' e5 e
    · refine q H' D ex.hh hD ?_
      rw [ex.fh _ _ hd]
      simp [taking, xlen]
def spStays (K : PySem.W.Frag) : Sp := fun vs H Q _ => ∃ m B s hs r k d, vs = [.ref m, .ref s, .int (k : Nat), .ref d] ∧ LA K H m s B hs r k ∧ SqT K H d ((dust B.heavy hs r).map V.int) ∧ ∀ H', Same H H' → Q (.bl true) H'
def spLaw (K : PySem.W.Frag) : Sp := fun vs H Q _ => ∃ (a : Addr) (ns : List Int), vs = [.ref a] ∧ SqL K H a (ns.map V.int) ∧ ns.length ≤ 63 ∧ ∀ H', Q (.bl true) H'
theorem cut_nat (ns : List Int) (n : Nat) : cutV (ns.map V.int) none (some (n : Int)) = (ns.take n).map V.int := by
  unfold cutV
  rw [HT.sIx_none, HT.sIx_nat]
  simp
theorem sh_pairI (xs ys : List Int) : Sh 2 (.tuple [.tuple (xs.map PyData.int), .tuple (ys.map PyData.int)]) := sh_tuple fun d hd => by
  rcases List.mem_cons.mp hd with rfl | hd
  · exact sh_tupleI xs
  · rw [List.mem_singleton.mp hd]
    exact sh_tupleI ys
end
end G

namespace G
open PySem PySem.Spec PyProof.Rows L2
local macro_rules | `(tactic| walk_at "lk") => `(tactic| first | assumption | exact rT_at | exact rL_at | exact upd_same | (refine sqT_mono ?_ (by assumption); assumption) | (refine sqL_mono ?_ (by assumption); assumption) | (refine rT_new (by assumption) ?_; walk_at "lk") | (refine rL_new (by assumption) ?_; walk_at "lk") | (refine rH_new (by assumption) ?_; walk_at "lk") | (refine rD_new (by assumption) ?_; walk_at "lk") | (refine dp_mono ?_ (by assumption); assumption))
local macro_rules | `(tactic| walk_at "r1") => `(tactic| first | ((with_reducible show tVar _ _ _ _); refine s_var rfl ?_) | with_reducible refine s_c ?_ | with_reducible refine s_op ?_ | with_reducible refine s_un ?_ | with_reducible refine s_neg ?_ | with_reducible refine s_test ?_ | with_reducible refine s_B ?_ | with_reducible refine s_bl ?_ | with_reducible refine s_not ?_ | with_reducible refine s_yes ?_ | with_reducible refine s_and ?_ | with_reducible refine s_or ?_ | with_reducible refine s_notV ?_ | with_reducible refine s_andV ?_ | with_reducible refine s_orV ?_ | with_reducible refine s_if ?_ | with_reducible refine s_cT ?_ | with_reducible refine s_cF ?_ | with_reducible refine s_nT ?_ | with_reducible refine s_nF ?_ | with_reducible refine s_addI ?_ | with_reducible refine s_eqI ?_ | with_reducible refine s_neI ?_ | with_reducible refine s_eqB ?_ | with_reducible refine s_neB ?_ | with_reducible refine s_I0 ?_ | with_reducible refine s_non ?_ | with_reducible refine s_int ?_ | with_reducible refine s_chain ?_ | with_reducible refine s_cons ?_ | with_reducible refine s_nil ?_ | with_reducible refine s_call ?_ | with_reducible refine s_cb ?_ | with_reducible refine s_meth ?_ | with_reducible refine s_make ?_ | with_reducible refine s_tup ?_ | with_reducible refine s_lst ?_ | with_reducible refine s_bm ?_ | with_reducible refine s_bm0 ?_ | with_reducible refine s_bmT ?_ | with_reducible refine s_fld ?_ | with_reducible refine s_dget ?_ | with_reducible refine s_sl ?_ | with_reducible refine s_part ?_ | with_reducible refine s_nopart ?_ | with_reducible refine s_seq ?_ | with_reducible refine s_next ?_ | with_reducible refine s_asg ?_ | with_reducible refine s_gn ?_ | with_reducible refine s_gc ?_ | with_reducible refine s_g0 ?_ | with_reducible refine s_gs ?_ | with_reducible refine s_ret ?_ | with_reducible refine s_ifS ?_ | with_reducible refine s_drop ?_ | with_reducible refine s_augS ?_ | ((with_reducible show tAug _ _ _ _ _ _); refine s_aug rfl ?_) | with_reducible refine s_ipI ?_ | with_reducible refine s_for ?_ | with_reducible refine s_iseq ?_ | with_reducible refine s_rng1 ?_ | with_reducible refine s_izip ?_ | with_reducible refine s_lc ?_ | with_reducible refine s_lc2 ?_ | with_reducible refine s_lstRg ?_ | with_reducible refine s_rg1 ?_ | with_reducible refine s_sfld ?_ | with_reducible refine s_ienum ?_ | with_reducible refine s_disp ?_ | with_reducible refine s_pc ?_ | with_reducible refine s_pn ?_)
local macro_rules | `(tactic| walk_at "rd") => `(tactic| repeat walk_at "r1")

/-! ### rows of grindings -/
abbrev natL (ks : List Nat) : List Int := ks.map fun (x : Nat) => (x : Int)
def runH (w : List Int) (ms : List (List (Nat × Nat))) : List Int → List Nat → List Int
  | hs, [] => hs
  | hs, k :: ks => runH w ms (after w hs (ms.getD k [])) ks
def runD (w : List Int) (ms : List (List (Nat × Nat))) : List Int → List Nat → List (List Int)
  | _, [] => []
  | hs, k :: ks => dust w hs (ms.getD k []) :: runD w ms (after w hs (ms.getD k [])) ks
theorem after_len (w hs : List Int) (r : List (Nat × Nat)) : (after w hs r).length = hs.length := takeAll_len ..
theorem runH_len (w : List Int) (ms : List (List (Nat × Nat))) : ∀ (ks : List Nat) (hs : List Int), (runH w ms hs ks).length = hs.length
  | [], _ => rfl
  | k :: ks, hs => by rw [runH, runH_len w ms ks, after_len]
theorem runH_take (w : List Int) (ms : List (List (Nat × Nat))) : ∀ (ks : List Nat) (hs : List Int) (i k : Nat), ks[i]? = some k → runH w ms hs (ks.take (i + 1)) = after w (runH w ms hs (ks.take i)) (ms.getD k [])
  | [], _, _, _, h => by simp at h
  | k' :: ks, hs, 0, k, h => by
    have : k' = k := by simpa using h
    subst this
    simp [runH]
  | k' :: ks, hs, i + 1, k, h => by
    simp only [List.take_succ_cons, runH]
    exact runH_take w ms ks _ i k (by simpa using h)
theorem runD_take (w : List Int) (ms : List (List (Nat × Nat))) : ∀ (ks : List Nat) (hs : List Int) (i k : Nat), ks[i]? = some k → runD w ms hs (ks.take (i + 1)) = runD w ms hs (ks.take i) ++ [dust w (runH w ms hs (ks.take i)) (ms.getD k [])]
  | [], _, _, _, h => by simp at h
  | k' :: ks, hs, 0, k, h => by
    have : k' = k := by simpa using h
    subst this
    simp [runH, runD]
  | k' :: ks, hs, i + 1, k, h => by
    simp only [List.take_succ_cons, runH, runD, List.cons_append]
    rw [runD_take w ms ks _ i k (by simpa using h)]
theorem runD_get (w : List Int) (ms : List (List (Nat × Nat))) : ∀ (ks : List Nat) (hs : List Int) (i k : Nat), ks[i]? = some k → (runD w ms hs ks)[i]? = some (dust w (runH w ms hs (ks.take i)) (ms.getD k []))
  | [], _, _, _, h => by simp at h
  | k' :: ks, hs, 0, k, h => by
    have : k' = k := by simpa using h
    subst this
    simp [runH, runD]
  | k' :: ks, hs, i + 1, k, h => by
    simp only [List.take_succ_cons, runH, runD, List.getElem?_cons_succ]
    exact runD_get w ms ks _ i k (by simpa using h)
theorem runD_len (w : List Int) (ms : List (List (Nat × Nat))) : ∀ (ks : List Nat) (hs : List Int), (runD w ms hs ks).length = ks.length
  | [], _ => rfl
  | k :: ks, hs => by rw [runD, List.length_cons, runD_len w ms ks, List.length_cons]
theorem ext_getD {xs ys : List Int} (hl : xs.length = ys.length) (h : ∀ j, xs.getD j 0 = ys.getD j 0) : xs = ys := by
  refine List.ext_getElem hl fun j h1 h2 => ?_
  have := h j
  simpa [List.getD_eq_getElem?_getD, h1, h2] using this
theorem take_back (w : List Int) {r : List (Nat × Nat)} {gs hs : List Int} (d : Disj r) (hin : ∀ p ∈ r, p.1 < hs.length ∧ p.2 < hs.length) (hg : gs.length = r.length) : takeAll w (takeAll w hs r gs) r (gs.map fun g => -g) = hs := by
  refine ext_getD (by rw [takeAll_len, takeAll_len]) fun j => ?_
  by_cases hj : ∃ p ∈ r, p.1 = j ∨ p.2 = j
  · obtain ⟨p, hp, hpj⟩ := hj
    obtain ⟨i, hi⟩ := List.getElem?_of_mem hp
    have il : i < r.length := (List.getElem?_eq_some_iff.mp hi).1
    have gi : gs[i]? = some gs[i] := List.getElem?_eq_getElem (by omega)
    obtain ⟨a1, a2⟩ := takeAll_at w r gs hs i p gs[i] d hin hi gi
    obtain ⟨b1, b2⟩ := takeAll_at w r (gs.map fun g => -g) (takeAll w hs r gs) i p (-gs[i]) d (fun q hq => by rw [takeAll_len]; exact hin q hq) hi (by rw [List.getElem?_map, gi]; rfl)
    rcases hpj with rfl | rfl
    · rw [b1, a1, Int.mul_neg]; omega
    · rw [b2, a2, Int.mul_neg]; omega
  · have no : ∀ p ∈ r, p.1 ≠ j ∧ p.2 ≠ j := fun p hp => ⟨fun e => hj ⟨p, hp, .inl e⟩, fun e => hj ⟨p, hp, .inr e⟩⟩
    rw [takeAll_out w j r _ _ no, takeAll_out w j r _ _ no]
theorem same_add {F H : Hp} {p : Addr} {o : HO} (e : Same F H) (h : H p = some o) : Same (upd F p o) H := fun b x q => by
  by_cases hb : b = p
  · subst hb
    rw [upd_same] at q
    cases q
    exact h
  · rw [upd_ne hb] at q
    exact e b x q
abbrev tD (xs : List Int) : PyData := .tuple (xs.map PyData.int)
theorem sh_ran (xs : List Int) (ds : List (List Int)) : Sh 3 (.tuple [tD xs, .list (ds.map tD)]) := sh_tuple fun d hd => by
  rcases List.mem_cons.mp hd with rfl | hd
  · exact sh_mono (sh_tupleI xs) (by decide)
  · rw [List.mem_singleton.mp hd]
    refine sh_list fun d hd => ?_
    obtain ⟨x, _, rfl⟩ := List.mem_map.mp hd
    exact sh_tupleI x
theorem dpAll_app {K : PySem.W.Frag} {H : Hp} : ∀ {xs ys : List V} {ds es : List PyData}, DpAll K H xs ds → DpAll K H ys es → DpAll K H (xs ++ ys) (ds ++ es)
  | _, _, _, _, .nil, h => h
  | _, _, _, _, .cons a b, h => .cons a (dpAll_app b h)
section
variable {P : Program} {w : World} {K : PySem.W.Frag} {mg : Str → Option Value} {base : Heap} {C : Addr}
theorem nat_at {ks : List Nat} {i : Nat} {v : V} (h : ((natL ks).map V.int)[i]? = some v) : ∃ k, ks[i]? = some k ∧ v = .int (k : Int) := by
  rw [List.getElem?_map, List.getElem?_map] at h
  cases hk : ks[i]? with
  | none => rw [hk] at h; cases h
  | some k => rw [hk] at h; exact ⟨k, rfl, (Option.some.inj h).symm⟩
def spSureRow (K : PySem.W.Frag) (C : Addr) : Sp := fun vs H Q _ => ∃ b B a, ∃ ks : List Nat, vs = [.ref b, .ref a] ∧ BOk B ∧ BenchAt K C H b B ∧ SqL K H a ((natL ks).map V.int) ∧ (∀ k ∈ ks, k < B.told.length) ∧ ∀ H', Same H H' → Q .non H'
end
end G

namespace G
open PySem PySem.Spec PyProof.Rows L2
local macro_rules | `(tactic| walk_at "lk") => `(tactic| first | assumption | exact rT_at | exact rL_at | exact upd_same | (refine sqT_mono ?_ (by assumption); assumption) | (refine sqL_mono ?_ (by assumption); assumption) | (refine rT_new (by assumption) ?_; walk_at "lk") | (refine rL_new (by assumption) ?_; walk_at "lk") | (refine rH_new (by assumption) ?_; walk_at "lk") | (refine rD_new (by assumption) ?_; walk_at "lk") | (refine dp_mono ?_ (by assumption); assumption))
local macro_rules | `(tactic| walk_at "r1") => `(tactic| first | ((with_reducible show tVar _ _ _ _); refine s_var rfl ?_) | with_reducible refine s_c ?_ | with_reducible refine s_op ?_ | with_reducible refine s_un ?_ | with_reducible refine s_neg ?_ | with_reducible refine s_test ?_ | with_reducible refine s_B ?_ | with_reducible refine s_bl ?_ | with_reducible refine s_not ?_ | with_reducible refine s_yes ?_ | with_reducible refine s_and ?_ | with_reducible refine s_or ?_ | with_reducible refine s_notV ?_ | with_reducible refine s_andV ?_ | with_reducible refine s_orV ?_ | with_reducible refine s_if ?_ | with_reducible refine s_cT ?_ | with_reducible refine s_cF ?_ | with_reducible refine s_nT ?_ | with_reducible refine s_nF ?_ | with_reducible refine s_addI ?_ | with_reducible refine s_eqI ?_ | with_reducible refine s_neI ?_ | with_reducible refine s_eqB ?_ | with_reducible refine s_neB ?_ | with_reducible refine s_I0 ?_ | with_reducible refine s_non ?_ | with_reducible refine s_int ?_ | with_reducible refine s_chain ?_ | with_reducible refine s_cons ?_ | with_reducible refine s_nil ?_ | with_reducible refine s_call ?_ | with_reducible refine s_cb ?_ | with_reducible refine s_meth ?_ | with_reducible refine s_make ?_ | with_reducible refine s_tup ?_ | with_reducible refine s_lst ?_ | with_reducible refine s_bm ?_ | with_reducible refine s_bm0 ?_ | with_reducible refine s_bmT ?_ | with_reducible refine s_fld ?_ | with_reducible refine s_dget ?_ | with_reducible refine s_sl ?_ | with_reducible refine s_part ?_ | with_reducible refine s_nopart ?_ | with_reducible refine s_seq ?_ | with_reducible refine s_next ?_ | with_reducible refine s_asg ?_ | with_reducible refine s_gn ?_ | with_reducible refine s_gc ?_ | with_reducible refine s_g0 ?_ | with_reducible refine s_gs ?_ | with_reducible refine s_ret ?_ | with_reducible refine s_ifS ?_ | with_reducible refine s_drop ?_ | with_reducible refine s_augS ?_ | ((with_reducible show tAug _ _ _ _ _ _); refine s_aug rfl ?_) | with_reducible refine s_ipI ?_ | with_reducible refine s_for ?_ | with_reducible refine s_iseq ?_ | with_reducible refine s_rng1 ?_ | with_reducible refine s_izip ?_ | with_reducible refine s_lc ?_ | with_reducible refine s_lc2 ?_ | with_reducible refine s_lstRg ?_ | with_reducible refine s_rg1 ?_ | with_reducible refine s_sfld ?_ | with_reducible refine s_ienum ?_ | with_reducible refine s_disp ?_ | with_reducible refine s_pc ?_ | with_reducible refine s_pn ?_)
local macro_rules | `(tactic| walk_at "rd") => `(tactic| repeat walk_at "r1")

section
variable {P : Program} {w : World} {K : PySem.W.Frag} {mg : Str → Option Value} {base : Heap} {C : Addr}
def spRows (K : PySem.W.Frag) (C : Addr) : Sp := fun vs H Q _ => ∃ b B s hs a, ∃ ks : List Nat, vs = [.ref b, .ref s, .ref a] ∧ GB K C H b s B hs ∧ SqL K H a ((natL ks).map V.int) ∧ (∀ k ∈ ks, k < B.meets.length) ∧ ks.length ≤ 1000 ∧
  ∀ H' p p1 p2 ds, Same H H' → H p = none → H p2 = none → H' p = some (.tup [.ref p1, .ref p2]) → H' p2 = some (.lst ds) → SqT K H' p1 ((runH B.heavy B.meets hs ks).map V.int) → DpAll K H' ds ((runD B.heavy B.meets hs ks).map tD) → Q (.ref p) H'
abbrev s__law_ran : Stmt := topS 37
abbrev n__law_ran : List Str := ["_law_model", "_law_heights", "_law_row_here", "_law_found", "_law_number", "_law_dust"]
theorem sc__law_ran : FnScope ["_law_model", "_law_heights", "_law_row_here", "_law_found", "_law_number", "_law_dust"] ["_law_model", "_law_heights", "_law_row_here"] (defScope s__law_ran) := ⟨rfl, rfl, rfl, by decide +kernel, rfl, by decide +kernel, by decide +kernel⟩
def spLRan (K : PySem.W.Frag) : Sp := fun vs H Q _ => ∃ b B s hs a, ∃ ks : List Nat, vs = [.ref b, .ref s, .ref a] ∧ LB K H b s B hs ∧ SqL K H a ((natL ks).map V.int) ∧ (∀ k ∈ ks, k < B.meets.length) ∧ ks.length ≤ 1000 ∧
  ∀ H' p p1 p2 ds, Same H H' → H p = none → H p2 = none → H' p = some (.tup [.ref p1, .ref p2]) → H' p2 = some (.lst ds) → SqT K H' p1 ((runH B.heavy B.meets hs ks).map V.int) → DpAll K H' ds ((runD B.heavy B.meets hs ks).map tD) → Q (.ref p) H'
theorem ok_lran (B0 : Blt mg) (d__law_ground : Def P w K mg base 2 "_law_ground" ["_law_model", "_law_heights", "_law_number"] (spLGround K)) (F : FunAt K mg "_law_ran" s__law_ran ["_law_model", "_law_heights", "_law_row_here"]) : Def P w K mg base 3 "_law_ran" ["_law_model", "_law_heights", "_law_row_here"] (spLRan K) := by
  refine F.def (k := 2) sc__law_ran (fun vs H Q E h => ?_) (fun f cdv A outer s H vs Q E hr h => ?_)
  · obtain ⟨b, B, s, hs, a, ks, rfl, _⟩ := h
    rfl
  · obtain ⟨b, B1, st, hs, a, ks, rfl, g, ha, hks, hkl, q⟩ := h
    have B := B0
    refine ⟨_, (pss_cons (ps_set (i := 3) sc__law_ran.nd rfl (Or.inl rfl) (pe_lst pa_nil)) (pss_cons (ps_for PassesOwn.never rfl (k_seq (K := K) rfl (pv 2)) (pg_name (i := 4) sc__law_ran.nd rfl (Or.inl rfl)) (pss_cons (ps_asg (pe_d d__law_ground (hr.mono (by decide)) (by rfl) (pa_cons (pv 0) (pa_cons (pv 1) (pa_cons (pv 4) pa_nil)))) (k_tup (K := K) (n := 2) rfl rfl (pgs_cons (pg_name (i := 1) sc__law_ran.nd rfl (Or.inl rfl)) (pgs_cons (pg_name (i := 5) sc__law_ran.nd rfl (Or.inl rfl)) pgs_nil)))) (pss_one (ps_expr (k_bm (K := K) rfl PySem.F.plainAttrs_list PySem.F.slot_list_append PySem.F.type_list_append mt_append (pv 3) (pa_cons (pv 5) pa_nil)))))) (pss_one (ps_ret (pe_tup (pa_cons (pv 1) (pa_cons (pv 3) pa_nil))))))), ?_⟩; refine start_eq (σ' := [some (.ref b), some (.ref st), some (.ref a), none, none, none]) rfl ?_
    walk_at "rd"
    refine ⟨Nat.zero_le _, fun ld nd => ?_⟩
    have s1 : Same H (upd H ld (.lst [])) := same_upd nd
    have hd1 : (upd H ld (.lst [])) ld = some (.lst []) := upd_same
    generalize upd H ld (.lst []) = H1 at *
    walk_at "rd"
    refine .inl ⟨a, rfl, ⟨_, sqL_mono s1 ha⟩, ?_⟩
    refine for_w (walk_list (xs := (natL ks).map V.int)) (fun i σ Hx => ∃ s' y4 y5 acc Fx, σ = [some (.ref b), some (.ref s'), some (.ref a), some (.ref ld), y4, y5] ∧ Same H Fx ∧ Same Fx Hx ∧ Fx ld = none ∧ Hx ld = some (.lst acc) ∧ SqT K Fx s' ((runH B1.heavy B1.meets hs (ks.take i)).map V.int) ∧ DpAll K Fx acc ((runD B1.heavy B1.meets hs (ks.take i)).map tD)) ?_ ?_ ?_ ?_
    · exact ⟨st, none, none, [], H, rfl, Same.refl _, s1, nd, hd1, by simpa [runH] using g.stand, .nil⟩
    · rintro i σ Hx _ ⟨_, _, _, _, _, _, e1, e2, _⟩
      exact sqL_mono (e1.trans e2) ha
    · rintro i v σ Hx Hy hi ⟨s', y4, y5, acc, Fx, rfl, e1, e2, fd, hdx, hs', hacc⟩ ⟨rfl, hv⟩
      have il : i < ks.length := by simpa using hi
      obtain ⟨k, hk, rfl⟩ := nat_at hv
      have kl := hks k (List.mem_of_getElem? hk)
      have tk := runH_take B1.heavy B1.meets ks hs i k hk
      have td := runD_take B1.heavy B1.meets ks hs i k hk
      have hlen := runH_len B1.heavy B1.meets (ks.take i) hs
      have al : acc.length = i := by
        rw [dpAll_len hacc, List.length_map]
        rw [runD_len, List.length_take]
        omega
      walk_at "rd"
      refine ⟨b, B1, s', _, _, k, rfl, (show LB K _ b s' B1 (runH B1.heavy B1.meets hs (ks.take i)) from  ⟨g.ok, g.model.mono (e1.trans e2), sqT_mono e2 hs', by rw [hlen]; exact g.len⟩).at kl, fun H' p p1 p2 sz n n1 n2 hp hp1 hp2 => ?_⟩
      walk_at "rd"
      refine s_gt (.inl (.inl hp)) rfl ?_
      walk_at "rd"
      have hd' := sz _ _ hdx
      refine ⟨tyV_lst hd', ?_⟩
      walk_at "rd"
      refine s_app hd' (by omega) ?_
      have l1 : ld ≠ p1 := fun z => by rw [z, n1] at hdx; cases hdx
      have l2 : ld ≠ p2 := fun z => by rw [z, n2] at hdx; cases hdx
      have f1 : Fx p1 = none := sub_none e2 n1
      have f2 : Fx p2 = none := sub_none e2 n2
      have sA : Same Fx (upd Fx p1 (.tup ((after B1.heavy (runH B1.heavy B1.meets hs (ks.take i)) (B1.meets.getD k [])).map V.int))) := same_upd f1
      have sB : Same (upd Fx p1 (.tup ((after B1.heavy (runH B1.heavy B1.meets hs (ks.take i)) (B1.meets.getD k [])).map V.int))) H' := same_add (e2.trans sz) hp1
      have sC : Same (upd (upd Fx p1 (.tup ((after B1.heavy (runH B1.heavy B1.meets hs (ks.take i)) (B1.meets.getD k [])).map V.int))) p2 (.tup ((dust B1.heavy (runH B1.heavy B1.meets hs (ks.take i)) (B1.meets.getD k [])).map V.int))) H' := same_add sB hp2
      have gA : (upd Fx p1 (.tup ((after B1.heavy (runH B1.heavy B1.meets hs (ks.take i)) (B1.meets.getD k [])).map V.int))) ld = none := by rw [upd_ne l1]; exact fd
      have gB : (upd (upd Fx p1 (.tup ((after B1.heavy (runH B1.heavy B1.meets hs (ks.take i)) (B1.meets.getD k [])).map V.int))) p2 (.tup ((dust B1.heavy (runH B1.heavy B1.meets hs (ks.take i)) (B1.meets.getD k [])).map V.int))) ld = none := by rw [upd_ne l2]; exact gA
      have sD : Same Fx (upd (upd Fx p1 (.tup ((after B1.heavy (runH B1.heavy B1.meets hs (ks.take i)) (B1.meets.getD k [])).map V.int))) p2 (.tup ((dust B1.heavy (runH B1.heavy B1.meets hs (ks.take i)) (B1.meets.getD k [])).map V.int))) := same_updR sA f2
      have gp2 : (upd (upd Fx p1 (.tup ((after B1.heavy (runH B1.heavy B1.meets hs (ks.take i)) (B1.meets.getD k [])).map V.int))) p2 (.tup ((dust B1.heavy (runH B1.heavy B1.meets hs (ks.take i)) (B1.meets.getD k [])).map V.int))) p2 = some (.tup ((dust B1.heavy (runH B1.heavy B1.meets hs (ks.take i)) (B1.meets.getD k [])).map V.int)) := upd_same
      have gp1 : SqT K (upd (upd Fx p1 (.tup ((after B1.heavy (runH B1.heavy B1.meets hs (ks.take i)) (B1.meets.getD k [])).map V.int))) p2 (.tup ((dust B1.heavy (runH B1.heavy B1.meets hs (ks.take i)) (B1.meets.getD k [])).map V.int))) p1 ((after B1.heavy (runH B1.heavy B1.meets hs (ks.take i)) (B1.meets.getD k [])).map V.int) := by
        by_cases z : p1 = p2
        · subst z
          have hh := hp1.symm.trans hp2
          rw [← hh] at gp2
          exact .inl (.inl gp2)
        · exact .inl (.inl (by rw [upd_ne z, upd_same]))
      refine ⟨p1, _, _, acc ++ [.ref p2], _, rfl, e1.trans sD, same_updR sC gB, gB, upd_same, by rw [tk]; exact gp1, ?_⟩
      rw [td, List.map_append]
      exact dpAll_app (dpAll_mono sD hacc) (.cons (dp_tupI (.inl (.inl gp2))) .nil)
    · rintro σ Hx ⟨s', y4, y5, acc, Fx, rfl, e1, e2, fd, hdx, hs', hacc⟩
      have tl : ks.take ((natL ks).map V.int).length = ks := List.take_of_length_le (by simp)
      rw [tl] at hs' hacc
      walk_at "rd"
      refine ⟨by show 2 ≤ sizeLine; decide, fun p np => ?_⟩
      have s9 := e2.trans (same_upd (o := .tup [.ref s', .ref ld]) np)
      exact q _ p s' ld acc (e1.trans s9) ((e1.trans e2).free np) nd upd_same (rH_new np hdx) (sqT_mono s9 hs') (dpAll_mono s9 hacc)
abbrev s_put_on : Stmt := topS 16
abbrev n_put_on : List Str := ["bench", "stand", "number", "dust", "grains"]
theorem sc_put_on : FnScope ["bench", "stand", "number", "dust", "grains"] ["bench", "stand", "number", "dust"] (defScope s_put_on) := ⟨rfl, rfl, rfl, by decide +kernel, rfl, by decide +kernel, by decide +kernel⟩
def spPutOn (K : PySem.W.Frag) (C : Addr) : Sp := fun vs H Q _ => ∃ b B s hs r k d, ∃ gs : List Int, vs = [.ref b, .ref s, .int (k : Nat), .ref d] ∧ GA K C H b s B hs r k ∧ SqT K H d (gs.map V.int) ∧ gs.length = r.length ∧
  ∀ H' p, Same H H' → H p = none → H' p = some (.tup ((takeAll B.heavy hs r (gs.map fun g => -g)).map V.int)) → Q (.ref p) H'
theorem ok_put_on (B0 : Blt mg) (T : Txt K mg C) (d_taken : Def P w K mg base 2 "taken" ["bench", "stand", "pairs", "dust"] (spTaken K C)) (F : FunAt K mg "put_on" s_put_on ["bench", "stand", "number", "dust"]) : Def P w K mg base 3 "put_on" ["bench", "stand", "number", "dust"] (spPutOn K C) := by
  refine F.def (k := 2) sc_put_on (fun vs H Q E h => ?_) (fun f cdv A outer s H vs Q E hr h => ?_)
  · obtain ⟨b, B, s, hs, r, k, d, gs, rfl, _⟩ := h
    rfl
  · obtain ⟨b, B1, st, hs, r, k, d, gs, rfl, g, hd, hgl, q⟩ := h
    obtain ⟨dx, l1, l2, l3, l4, hb, h1, h2, h3, h4⟩ := g.bench.ex
    obtain ⟨xs, a, ys, e1, e2, e3, e4⟩ := meets_at h4 g.row
    have B := B0
    have rlen := g.ok.row_len g.mem
    have pl := g.ok.places
    refine ⟨_, (pss_one (ps_ret (pe_d d_taken (hr.mono (by decide)) (by rfl) (pa_cons (pv 0) (pa_cons (pv 1) (pa_cons (pe_ix (k_ix (K := K) rfl) (k_fld (K := K) rfl (pv 0) rfl) (pv 2) (fun _ _ => rfl)) (pa_cons (pe_callTy (k_tuple (K := K) rfl) (by rfl) B.tuple bb_tuple (pa_cons (pe_lc (own := [("grains", 4)]) rfl sc_put_on.nd (k_seq (K := K) rfl (pv 3)) (blkOk_by (own := [("grains", 4)]) (N := n_put_on) (sc := defScope s_put_on) (by decide +kernel)) (fun _ _ _ _ _ => (pg_name (i := 4) sc_put_on.nd rfl (Or.inl rfl))) (fun _ _ _ _ _ => pts_nil) (fun _ _ _ _ _ => (pe_un un_neg (pv 4)))) pa_nil)) pa_nil))))))), ?_⟩; refine start_eq (σ' := [some (.ref b), some (.ref st), some (.int k), some (.ref d), none]) rfl ?_
    walk_at "rd"
    refine ⟨_, _, _, _, _, rfl, hb, T.cl, T.n_meets, fl_meets, ?_⟩
    walk_at "rd"
    refine s_ixL e1 e2 ?_
    walk_at "rd"
    refine .inr ⟨d, rfl, ⟨_, hd⟩, ?_⟩
    refine lc_map (walk_tup (xs := gs.map V.int)) (F := H) (Same.refl H) (by rw [List.length_map]; omega) (fun H' e' => sqT_mono e' hd) (fun i _ v => ∃ x, gs[i]? = some x ∧ v = .int (-x)) (fun _ _ _ _ _ h => h) (fun i x F' H1 H2 D Z hi ex _ _ hy hz => ?_) (fun D zs F' H' hD ex hdz hlen hR => ?_)
    · obtain ⟨rfl, hx⟩ := hy
      have il : i < gs.length := by simpa using hi
      have hgi : gs[i]? = some gs[i] := List.getElem?_eq_getElem il
      have hx' : x = .int gs[i] := by
        rw [List.getElem?_map, hgi] at hx
        exact (Option.some.inj hx).symm
      subst hx'
      walk_at "rd"
      refine ⟨rfl, ?_⟩
      walk_at "rd"
      exact hz _ F' _ (Ext.refl ex.fh) ⟨_, hgi, rfl⟩
    · have hys : zs = (gs.map fun g => -g).map V.int := by
        refine List.ext_getElem? fun i => ?_
        cases hv : zs[i]? with
        | none =>
          have : zs.length ≤ i := List.getElem?_eq_none_iff.mp hv
          rw [List.length_map] at hlen
          rw [List.getElem?_eq_none (by simp; omega)]
        | some v =>
          obtain ⟨x, h1, rfl⟩ := hR i v hv
          simp [h1]
      subst hys
      walk_at "rd"
      refine s_tupleL (.inl (.inl (ex.fh _ _ hdz))) fun t ht => ?_
      have s2 := ex.hh.trans (same_upd (o := .tup ((gs.map fun g => -g).map V.int)) ht)
      walk_at "rd"
      refine ⟨b, B1, st, hs, a, t, r, gs.map fun g => -g, rfl, g.ok, g.bench.mono s2, sqT_mono s2 g.stand, g.len, dp_mono s2 (.lst e3 e4), fun p hp => g.ok.row g.mem hp, by omega, rT_at, by rw [List.length_map]; exact hgl, fun H3 p s3 np hp => ?_⟩
      exact q _ p (s2.trans s3) (s2.free np) hp
abbrev s_led_back : Stmt := topS 17
abbrev n_led_back : List Str := ["bench", "stand", "number", "dust", "ahead"]
theorem sc_led_back : FnScope ["bench", "stand", "number", "dust", "ahead"] ["bench", "stand", "number", "dust"] (defScope s_led_back) := ⟨rfl, rfl, rfl, by decide +kernel, rfl, by decide +kernel, by decide +kernel⟩
def spLedBack (K : PySem.W.Frag) (C : Addr) : Sp := fun vs H Q _ => ∃ b B s hs r k d, vs = [.ref b, .ref s, .int (k : Nat), .ref d] ∧ GA K C H b s B (after B.heavy hs r) r k ∧ SqT K H d ((dust B.heavy hs r).map V.int) ∧
  ∀ H' p, Same H H' → H p = none → H' p = some (.tup (hs.map V.int)) → Q (.ref p) H'
theorem ok_led_back (B0 : Blt mg) (T : Txt K mg C) (d_are_wholes : Def P w K mg base 2 "are_wholes" ["thing", "many"] (spAreWholes K)) (d_Bench_sure_stand : DefM P w K mg base 4 C "sure_stand" ["self", "thing"] (spSureStand K C)) (d_Bench_sure_number : DefM P w K mg base 2 C "sure_number" ["self", "number"] (spSureNumber K C))
    (d_put_on : Def P w K mg base 3 "put_on" ["bench", "stand", "number", "dust"] (spPutOn K C)) (d_dust_of : Def P w K mg base 3 "dust_of" ["bench", "stand", "number"] (spDust K C)) (F : FunAt K mg "led_back" s_led_back ["bench", "stand", "number", "dust"]) : Def P w K mg base 5 "led_back" ["bench", "stand", "number", "dust"] (spLedBack K C) := by
  refine F.def (k := 4) sc_led_back (fun vs H Q E h => ?_) (fun f cdv A outer s H vs Q E hr h => ?_)
  · obtain ⟨b, B, s, hs, r, k, d, rfl, _⟩ := h
    rfl
  · obtain ⟨b, B1, st, hs, r, k, d, rfl, g, hd, q⟩ := h
    obtain ⟨dx, l1, l2, l3, l4, hb, h1, h2, h3, h4⟩ := g.bench.ex
    have B := B0
    have hk : k < B1.told.length := by
      rw [← B1.meets_len]
      exact (List.getElem?_eq_some_iff.mp g.row).1
    have rlen := g.ok.row_len g.mem
    have pl := g.ok.places
    have dl : (dust B1.heavy hs r).length = r.length := by simp [dust]
    have hl : hs.length = B1.heavy.length := by have := g.len; rw [after_len] at this; exact this
    have tb : takeAll B1.heavy (after B1.heavy hs r) r ((dust B1.heavy hs r).map fun g => -g) = hs := take_back B1.heavy (g.ok.disj g.mem) (fun p hp => by rw [hl]; exact g.ok.row g.mem hp) dl
    refine ⟨_, (pss_cons (ps_expr (pe_dm d_Bench_sure_stand (hr.mono (by decide)) T.cl (pv 0) (pa_cons (pv 1) pa_nil))) (pss_cons (ps_expr (pe_dm d_Bench_sure_number (hr.mono (by decide)) T.cl (pv 0) (pa_cons (pv 2) pa_nil))) (pss_cons (ps_if (pt_val (pe_d d_are_wholes (hr.mono (by decide)) (by rfl) (pa_cons (pv 3) (pa_cons (k_fld (K := K) rfl (pv 0) rfl) pa_nil)))) (pss_cons (ps_set (i := 4) sc_led_back.nd rfl (Or.inl rfl) (pe_d d_put_on (hr.mono (by decide)) (by rfl) (pa_cons (pv 0) (pa_cons (pv 1) (pa_cons (pv 2) (pa_cons (pv 3) pa_nil)))))) (pss_one (ps_if (pt_cmpR (k_eq (K := K) rfl hr.units) (pe_d d_dust_of (hr.mono (by decide)) (by rfl) (pa_cons (pv 0) (pa_cons (pv 4) (pa_cons (pv 2) pa_nil)))) (pv 3) (nomark _)) (pss_one (ps_ret (pv 4))) pss_nil))) pss_nil) (pss_one ps_never)))), ?_⟩; refine start_eq (σ' := [some (.ref b), some (.ref st), some (.int k), some (.ref d), none]) rfl ?_
    walk_at "rd"
    refine ⟨_, _, _, rfl, hb, rfl, ?_⟩
    walk_at "rd"
    refine ⟨b, B1, st, _, rfl, ⟨g.ok, g.bench, g.stand, g.len⟩, fun H1 s1 => ?_⟩
    walk_at "rd"
    refine ⟨_, _, _, rfl, s1 _ _ hb, rfl, ?_⟩
    walk_at "rd"
    refine ⟨b, B1, k, rfl, g.ok, g.bench.mono s1, hk, ?_⟩
    walk_at "rd"
    refine ⟨_, _, _, _, _, rfl, s1 _ _ hb, T.cl, T.n_places, fl_places, ?_⟩
    walk_at "rd"
    refine .inl ⟨d, _, (dust B1.heavy hs r).map V.int, rfl, sqT_mono s1 hd, by rw [List.length_map]; omega, kn_int, fun H2 s2 => ?_⟩
    rw [all_isInt, List.length_map, decide_eq_true (show ((dust B1.heavy hs r).length : Int) = (B1.places : Int) by omega), Bool.and_true]
    have s12 := s1.trans s2
    walk_at "rd"
    refine ⟨b, B1, st, _, r, k, d, dust B1.heavy hs r, rfl, g.mono s12, sqT_mono s12 hd, dl, fun H3 p s3 np hp => ?_⟩
    rw [tb] at hp
    have s13 := s12.trans s3
    walk_at "rd"
    refine ⟨b, B1, p, hs, r, k, rfl, ⟨g.ok, g.bench.mono s13, .inl (.inl hp), hl, g.row⟩, fun H4 p2 s4 n2 hp2 => ?_⟩
    have s14 := s13.trans s4
    walk_at "rd"
    refine s_eqD (dp_tupI (.inl (.inl hp2))) (dp_tupI (sqT_mono s14 hd)) (sh_shaped (sh_tupleI _)) (sh_shaped (sh_tupleI _)) ?_
    rw [eqv_self (sh_tupleI _)]
    walk_at "rd"
    exact q _ p s14 (s12.free np) (s4 _ _ hp)
abbrev s__law_row : Stmt := topS 38
abbrev n__law_row : List Str := ["_law_state", "_law_model", "_law_most", "_law_many", "_law_k"]
theorem sc__law_row : FnScope ["_law_state", "_law_model", "_law_most", "_law_many", "_law_k"] ["_law_state", "_law_model", "_law_most"] (defScope s__law_row) := ⟨rfl, rfl, rfl, by decide +kernel, rfl, by decide +kernel, by decide +kernel⟩
def spLRow (K : PySem.W.Frag) : Sp := fun vs H Q _ => ∃ st s F m B, ∃ most : Int, vs = [.ref st, .ref m, .int most] ∧ 0 ≤ most ∧ most ≤ 1000 ∧ H st = some (.lst s) ∧ StOk s ∧ Same F (del H st) ∧ BOk B ∧ ModelAt K F m B ∧
  ∀ p (ks : List Nat) F' H', SExt st F H F' H' → F' p = some (.lst ((natL ks).map V.int)) → (ks.length : Int) ≤ most → (∀ k ∈ ks, k < B.meets.length) → Q (.ref p) H'
theorem nats_of {n : Nat} (ys : List V) (h : ∀ (i : Nat) v, ys[i]? = some v → ∃ x : Int, v = .int x ∧ 0 ≤ x ∧ x < n) : ∃ ks : List Nat, ys = (natL ks).map V.int ∧ ∀ x ∈ ks, x < n := by
  have : ∀ v ∈ ys, ∃ x : Int, v = .int x ∧ 0 ≤ x ∧ x < n := fun v hv => by
    obtain ⟨i, hi⟩ := List.getElem?_of_mem hv
    exact h i v hi
  clear h
  induction ys with
  | nil => exact ⟨[], rfl, fun h z => by cases z⟩
  | cons v ys ih =>
    obtain ⟨h, rfl, h0, h9⟩ := this v (List.mem_cons_self ..)
    obtain ⟨hs, rfl, hs9⟩ := ih fun x hx => this x (List.mem_cons_of_mem _ hx)
    refine ⟨h.toNat :: hs, ?_, fun x hx => ?_⟩
    · have : ((h.toNat : Nat) : Int) = h := by omega
      simp [this]
    · rcases List.mem_cons.mp hx with rfl | hx
      · omega
      · exact hs9 x hx
theorem ok_lrow (B0 : Blt mg) (d__law_digit : Def P w K mg base 1 "_law_digit" ["_law_state", "_law_base"] (spDigit K)) (F : FunAt K mg "_law_row" s__law_row ["_law_state", "_law_model", "_law_most"]) : Def P w K mg base 2 "_law_row" ["_law_state", "_law_model", "_law_most"] (spLRow K) := by
  refine F.def (k := 1) sc__law_row (fun vs H Q E h => ?_) (fun f cdv A outer s H vs Q E hr h => ?_)
  · obtain ⟨st, s, F, m, B, most, rfl, _⟩ := h
    rfl
  · obtain ⟨st, s, F, m, B1, most, rfl, m0, m1, hst, sok, hF, ok, hm, q⟩ := h
    obtain ⟨l1, l2, l3, l4, hd, h1, h2, h3, h4⟩ := hm.ex
    obtain ⟨xs, e1, e2⟩ := dp_list h4
    have xlen : xs.length = B1.meets.length := by rw [dpAll_len e2, List.length_map]
    have tl := ok.told
    have ml := B1.meets_len
    have B := B0
    have r0 : SExt st F H F H := SExt.refl hF hst sok
    refine ⟨_, (pss_cons (ps_set (i := 3) sc__law_row.nd rfl (Or.inl rfl) (pe_d d__law_digit (hr.mono (by decide)) (by rfl) (pa_cons (pv 0) (pa_cons (pe_op (k_add (K := K) rfl) (pv 2) pe_int) pa_nil)))) (pss_one (ps_ret (pe_lc (own := [("_law_k", 4)]) rfl sc__law_row.nd (pi_range1 (by rfl) B.range (pa_cons (pv 3) pa_nil)) (blkOk_by (own := [("_law_k", 4)]) (N := n__law_row) (sc := defScope s__law_row) (by decide +kernel)) (fun _ _ _ _ _ => (pg_name (i := 4) sc__law_row.nd rfl (Or.inl rfl))) (fun _ _ _ _ _ => pts_nil) (fun _ _ _ _ _ => (pe_d d__law_digit (hr.mono (by decide)) (by rfl) (pa_cons (pv 0) (pa_cons (pe_callB (k_len (K := K) rfl) (by rfl) B.len bb_len (pa_cons (pe_dget (hu_of hr) (pv 1) pe_str (fun _ _ => rfl)) pa_nil)) pa_nil)))))))), ?_⟩; refine start_eq (σ' := [some (.ref st), some (.ref m), some (.int most), none, none]) rfl ?_
    walk_at "rd"
    refine draw r0 (small_b (by omega) (by omega)) fun d0 H1 a0 b0 r1 _ => ?_
    walk_at "rd"
    refine ⟨_, rfl, by omega, by omega, ?_⟩
    refine lc_mapS walk_range r1 (by omega) (fun _ _ => trivial) (fun i _ v => ∃ x : Int, v = .int x ∧ 0 ≤ x ∧ x < (B1.meets.length : Nat)) (fun _ _ _ _ _ h => h) (fun i x F' Ha Hb D Z hi ex fd hd' nD hy hz => ?_) (fun D ys F5 H5 nh r5 fh hlen hR => ?_)
    · obtain ⟨rfl, rfl⟩ := hy
      have ex0 : SExt st F' Hb F' Hb := by
        obtain ⟨s, hs, ok⟩ := ex.st
        exact SExt.refl ex.ext.fh hs ok
      have sF : Same F Hb := ex.ext.ff.trans ex.fh
      walk_at "rd"
      refine ⟨rfl, ?_⟩
      walk_at "rd"
      refine s_dgk (sF _ _ hd) mv_meets ?_
      walk_at "rd"
      refine s_lenL (sqL_mono sF e1) ?_
      rw [xlen]
      walk_at "rd"
      refine draw ex0 (small_b (by omega) (by omega)) fun e1 Hc c1 c2 x1 _ => ?_
      exact hz _ _ _ x1 ⟨_, rfl, by omega, by omega⟩
    · obtain ⟨ks, rfl, hks⟩ := nats_of ys hR
      refine q D ks _ _ (r1.trans r5) fh ?_ hks
      rw [List.length_map, List.length_map] at hlen
      omega
end
end G

namespace G
open PySem PySem.Spec PyProof.Rows L2
/-! ### enumerate of a list or a tuple -/
theorem meets_enumB {v : Value} {o : Obj} {H : Heap → Prop} (B : Begins v o H) :
    Meets (Builtin.«enumerate.__new__» ⟨[.type "enumerate", v], []⟩) (fun _ R s => H s.heap ∧
      R (.ok (.ret (.ref (s.heap.push o).objs.size))) { s with heap := (s.heap.push o).push { cls := .type "enumerate", data := .fields #[.none, .bool false, .ref s.heap.objs.size, rawInt 0, .none, .none] } }) :=
  .of_wp fun prog w A R s h => by
    obtain ⟨hp, g, d, tk, os⟩ := s
    obtain ⟨h1, h⟩ := h
    have hsub := sub_enumerate
    have q1 : ∀ {A' : Around} {E : Value → Shared → Prop} {Q : Value → Shared → Prop}, Q (.ref hp.objs.size) ⟨hp.push o, g, d, tk, os⟩ → wpAny (model prog w) A' (pyIter v) Q E ⟨hp, g, d, tk, os⟩ :=
      fun q => B.iter prog w _ _ ⟨hp, g, d, tk, os⟩ _ h1 q
    wp_walk using q1
    refine wpAny_stack_any fun st => wpAny_pure ?_
    split
    · rename_i c _ _ _ _ _
      cases (c == Value.type "enumerate")
      · wp_walk using q1
        exact ⟨_, rfl, h⟩
      · wp_walk using q1
        exact ⟨_, rfl, h⟩
    · wp_walk using q1
      exact ⟨_, rfl, h⟩
theorem enum_begins1 {prog : Program} {w : World} {A : Around} {E : Value → Shared → Prop} {s : Shared} {v : Value} {o : Obj} {H : Heap → Prop} {Q : Value → Shared → Prop} (B : Begins v o H) (h1 : H s.heap)
    (h : ∀ h', IsEnum h' (s.heap.objs.size + 1) s.heap.objs.size 0 .none → h'.get? s.heap.objs.size = some o → h'.objs.size = s.heap.objs.size + 2 →
      (∀ b o, s.heap.get? b = some o → h'.get? b = some o) → Q (.ref (s.heap.objs.size + 1)) { s with heap := h' }) :
    wpAny (model prog w) A (call (.type "enumerate") [v]) Q E s := by
  refine callType_new F.called_enumerate (by decide) (F.typeCall_enumerate_1 _) (F.newCall_enumerate_1 _) (fun obj => F.args_object_init_2 obj _) F.entry_enumerate_new (meets_enumB B) ⟨h1, ?_⟩
  have hz : (s.heap.push o).objs.size = s.heap.objs.size + 1 := Heap.size_push ..
  show _ ∧ _
  rw [hz]
  have he : IsEnum ((s.heap.push o).push { cls := .type "enumerate", data := .fields #[.none, .bool false, .ref s.heap.objs.size, rawInt 0, .none, .none] }) (s.heap.objs.size + 1) s.heap.objs.size 0 .none := by
    have := Heap.get?_push_size (s.heap.push o) (o := { cls := .type "enumerate", data := .fields #[.none, .bool false, .ref s.heap.objs.size, rawInt 0, .none, .none] }) rfl
    rw [hz] at this
    exact this
  refine ⟨⟨_, he, rfl⟩, h _ he (Heap.get?_push_of_some _ (Heap.get?_push_size _ B.free)) (by rw [Heap.size_push, hz]) fun b o x => Heap.get?_push_of_some _ (Heap.get?_push_of_some _ x)⟩
def IteM (j : Bool) (K : PySem.W.Frag) (a : Addr) : It :=
  ⟨fun i H => ∃ (xs : List V) (x : V), SqB j K H a xs ∧ xs[i]? = some x, fun i H v H' => ∃ T x, v = .ref T ∧ H T = none ∧ H' = upd H T (.tup [.int (i : Nat), x]) ∧ ∀ xs, SqB j K H a xs → xs[i]? = some x, fun i H => ∃ xs : List V, SqB j K H a xs ∧ xs.length = i⟩
theorem turn_enumM {P : Program} {w : World} {K : PySem.W.Frag} {j : Bool} {elts : List Expr} {kk : Nat} {tpos : Pos} (a e it : Addr) (nai : a ≠ it) (nea : e ≠ a) (nei : e ≠ it) :
    Turn P w K (.Tuple elts kk tpos) (IteM j K a) [e, it] e (fun i h => (∃ old, IsEnum h e it ((i : Nat) : Int) old) ∧ ItB j h it a i) where
  mem := by simp
  obj := fun i h st b hb => by
    obtain ⟨⟨old, he⟩, hi⟩ := st
    have e' : b = e ∨ b = it := by simpa using hb
    rcases e' with z | z
    · rw [z]; exact ⟨_, he, fun v q => nomatch q⟩
    · rw [z]; exact hi.obj
  keep := fun i h h' st k => let ⟨⟨old, he⟩, hi⟩ := st; ⟨⟨old, k e (by simp) _ he⟩, hi.at fun o q => k it (by simp) o q⟩
  item := by
    intro X hP hw hK hc i pins s σ H E I hf st hg
    subst hP hw hK
    obtain ⟨⟨old, he⟩, hit⟩ := st
    obtain ⟨xs, x, hq, hx⟩ := hg
    obtain ⟨its, rv, p, hz⟩ := sqb_at I hq
    obtain ⟨u, hu, ru⟩ := rv.get hx
    have hel : e < s.heap.objs.size := Heap.lt_size he
    have hil : it < s.heap.objs.size := by obtain ⟨_, q, _⟩ := hit.obj; exact Heap.lt_size q
    have l1 : i < its.toArray.size := by rw [List.size_toArray]; exact (List.getElem?_eq_some_iff.mp hu).1
    refine wpAny_pyNext_enum_itemD (drawsB (A := X.A.in1) j (I.ok.hd hc) it a nai its.toArray) he ⟨hit, p⟩ l1 nei (by simp [nei, nea]) fun y h' tk ey ho hit' hT hsz hk => ?_
    have ew : y = u := by
      have : its[i]? = some y := by simpa using ey
      rw [hu] at this
      exact (Option.some.inj this).symm
    subst ew
    refine ⟨_, rfl, wpAny_letOwnedTupleGo_enum (s := { s with heap := h', toks := tk + 1 }) ho fun h'' he' sb => ?_⟩
    have hT2 : h''.get? s.heap.objs.size = some { cls := .type "tuple", data := .seq #[.int i tk, y] } := (sb.2 _ (Nat.ne_of_gt hel)).trans hT
    have new : ObjOk X.prog X.w (upd H s.heap.objs.size (.tup [.int (i : Nat), x])) h'' s.heap.objs.size (.tup [.int (i : Nat), x]) :=
      ⟨by show 2 ≤ sizeLine; decide, [.int i tk, y], .cons ⟨_, rfl⟩ (.cons ru .nil), ⟨_, hT2, rfl, _, rfl⟩⟩
    have I1 : Inv X pins σ (upd H s.heap.objs.size (.tup [.int (i : Nat), x])) { s with heap := h'', toks := tk + 1 } :=
      I.turnedNew (t' := tk + 1) (ch := [e, it]) (fun b ob hb q => (sb.2 b (fun z => hb (by simp [z]))).trans (hk b ob (fun z => hb (by simp [z])) (fun z => hb (by simp [z])) q)) hf (Nat.le_refl _) new
    refine ⟨.ref s.heap.objs.size, _, I1, rfl, ⟨_, x, rfl, I.hok.fresh (Nat.le_refl _), rfl, fun ys hy => by rw [sqb_inj I hy hq]; exact hx⟩, ⟨⟨y, ?_⟩, hit'.1.at fun o q => (sb.2 it (Ne.symm nei)).trans q⟩, fun b hb => ?_⟩
    · have e1 : ((i + 1 : Nat) : Int) = (i : Int) + 1 := by omega
      rw [e1]
      exact he'
    · have hb' : b < s.heap.objs.size := by
        have e' : b = e ∨ b = it := by simpa using hb
        rcases e' with z | z
        · rw [z]; exact hel
        · rw [z]; exact hil
      rw [upd_ne (Nat.ne_of_lt hb')]
      exact (hf b hb).1
  done := by
    intro X hP hw hK hc i pins s σ H E I hf st hg
    subst hP hw hK
    obtain ⟨⟨old, he⟩, hit⟩ := st
    obtain ⟨xs, hq, hx⟩ := hg
    obtain ⟨its, rv, p, hz⟩ := sqb_at I hq
    obtain ⟨f0, f1, f2, f3, f4, f5⟩ := hf it (by simp)
    have hl : its.toArray.size = i := by rw [List.size_toArray, ← hx]; exact rv.length.symm
    exact wpAny_pyNext_enum_endD (drawsB (A := X.A.in1) j (I.ok.hd hc) it a nai its.toArray) he (by rw [hl]; exact ⟨hit, p⟩) fun h' eb => ⟨rfl, I.turned (t' := s.toks) (fun b o hb q => eb b o hb q) f0 f1 f3 f4 f5⟩
  self := fun A i s Q E st h => let ⟨⟨_, he⟩, _⟩ := st; wpAny_pyIter_enum he h
def iEnumM (K : PySem.W.Frag) (ta : TA) : TI := fun σ H R => ta σ H fun vs H1 => ∃ j a xs, vs = [.ref a] ∧ SqB j K H1 a xs ∧ R (IteM j K a) H1
theorem pi_enumM {X : Cx} {e : Expr} {ta : TA} {p pos tpos : Pos} {elts : List Expr} {kk : Nat} (hg : Gl X "enumerate") (hm : X.mg "enumerate" = none) (ha : PA X [e] ta) (hs : starEach [e] X.env = [(false, eval e X.env)] := by rfl) :
    PI X (.Tuple elts kk tpos) (.Call (.Name "enumerate" p) [e] [] pos) (iEnumM X.K ta) := by
  refine ⟨fun pins s σ H R I h => ?_⟩
  refine Call_ (ld_blt I hg hm boot_enumerate (PyProof.Rows.callWith_type1 (thn (ha.run pos pins s σ H _ I h) fun us s1 ⟨vs, H1, I1, r1, q1⟩ => ?_) hs rfl))
  obtain ⟨j, a, xs, ex, hq, q⟩ := q1
  subst ex
  cases r1 with
  | cons r rr =>
    cases rr
    cases r
    obtain ⟨its, rv, p', hz⟩ := sqb_at I1 hq
    refine enum_begins1 (beginsB j a its.toArray) p' fun h' he hit hsz hk => wpAny_pyIter_enum he ?_
    have I2 : Inv X pins σ H1 { s1 with heap := h' } := I1.kept (t' := s1.toks) hk
    have hib : ItB j h' s1.heap.objs.size a 0 := by
      cases j with
      | true => exact ⟨_, hit, rfl, rfl⟩
      | false => exact ⟨_, hit, rfl, rfl⟩
    refine ⟨s1.heap.objs.size + 1, [s1.heap.objs.size + 1, s1.heap.objs.size], _, _, H1, rfl, I2, turn_enumM (j := j) a (s1.heap.objs.size + 1) s1.heap.objs.size (Nat.ne_of_lt hz) (Nat.ne_of_gt (Nat.lt_succ_of_lt hz)) (Nat.succ_ne_self _), ⟨⟨.none, he⟩, hib⟩, fun b hb => ?_, q⟩
    have e' : b = s1.heap.objs.size + 1 ∨ b = s1.heap.objs.size := by simpa using hb
    have hle : s1.heap.objs.size ≤ b := by
      rcases e' with z | z
      · rw [z]; exact Nat.le_add_right _ _
      · rw [z]; exact Nat.le_refl _
    exact I1.fpOk hle (I1.hok.fresh hle)
theorem k_enumM {X : Cx} {K : PySem.W.Frag} {e : Expr} {ta : TA} {p pos tpos : Pos} {elts : List Expr} {kk : Nat} (h : X.K = K) (hg : Gl X "enumerate") (hm : X.mg "enumerate" = none) (ha : PA X [e] ta) (hs : starEach [e] X.env = [(false, eval e X.env)] := by rfl) :
    PI X (.Tuple elts kk tpos) (.Call (.Name "enumerate" p) [e] [] pos) (iEnumM K ta) := by subst h; exact pi_enumM hg hm ha hs
theorem s_ienumM {K : PySem.W.Frag} {σ : L2.St} {H : Hp} {tr : TA} {R : It → Hp → Prop} (h : tr σ H fun vs H1 => ∃ j a xs, vs = [.ref a] ∧ SqB j K H1 a xs ∧ R (IteM j K a) H1) : iEnumM K tr σ H R := h
theorem walk_enumT {K : PySem.W.Frag} {a : Addr} {xs : List V} : Walk (IteM false K a) xs.length (fun H => SqT K H a xs) (YPair (fun i => some (.int (i : Nat))) (fun i => xs[i]?)) := by
  refine ⟨fun i _ hi q => ⟨xs, xs[i], q, by simp [hi]⟩, fun _ q => ⟨xs, q, rfl⟩, fun i H v H' _ q y => ?_⟩
  obtain ⟨T, x, h1, h2, h3, h4⟩ := y
  exact ⟨T, .int (i : Nat), x, h1, h2, h3, rfl, h4 xs q⟩
/-! ### min of a list of whole numbers -/
theorem k_min {X : Cx} {K : PySem.W.Frag} (h : X.K = K) (hc : X.calm = true) : CallR X (.builtin "min") (rMin K) := by subst h; exact cr_min hc
theorem bb_min : bootBuiltins "min" = some (.builtin "min") := by decide +kernel
end G

namespace G
open PySem PySem.Spec PyProof.Rows L2
/-! ### defs that may raise -/
section
variable {P : Program} {w : World} {K : PySem.W.Frag} {mg : Str → Option Value} {base : Heap}
structure DefX (P : Program) (w : World) (K : PySem.W.Frag) (mg : Str → Option Value) (base : Heap) (k : Nat) (x : Str) (ps : List Str) (sp : Sp) : Prop where
  ex : ∃ f fd, FnOk P w K mg base (L2.CX P w) k f fd ps sp ∧ Binds K fd ps [] ∧ mg x = some (.ref f) ∧ PySem.W.keepIn K (.ref f) = true
theorem FunAt.defX {x : Str} {st : Stmt} {N ps : List Str} {k : Nat} {sp : Sp} (F : FunAt K mg x st ps) (S : FnScope N ps (defScope st)) (len : ∀ vs H Q E, sp vs H Q E → vs.length = ps.length)
    (hbody : ∀ (f : Addr) (cdv : Value) (A : Around) (outer : List Env) (s : Shared) (H : Hp) (vs : List V) (Q : VK) (E : XK), Room k (A.deeper (envOfC x (defScope st) s.heap.objs.size f cdv)) → sp vs H Q E →
      ∃ t, PSs (cxOf (L2.CX P w) P w K mg base N x (defScope st) f cdv A outer s H E) (defBody st) t ∧ t { nx := fun _ H' => Q .non H', rt := Q } (start N vs) H) : DefX P w K mg base (k + 1) x ps sp := by
  obtain ⟨f, fd, F, m, b⟩ := F.ex
  exact ⟨f, fd, F.okX S len (hbody f), b, m, F.kp⟩
structure DefMX (P : Program) (w : World) (K : PySem.W.Frag) (mg : Str → Option Value) (base : Heap) (k : Nat) (C : Addr) (m : Str) (ps : List Str) (sp : Sp) : Prop where
  ex : ∃ f fd, FnOk P w K mg base (L2.CX P w) k f fd ps sp ∧ Binds K fd ps [] ∧ Meth K C m f
theorem MethAt.defX {C : Addr} {m qual : Str} {st : Stmt} {N ps : List Str} {k : Nat} {sp : Sp} (F : MethAt K C m qual st ps) (S : FnScope N ps (defScope st)) (len : ∀ vs H Q E, sp vs H Q E → vs.length = ps.length)
    (hbody : ∀ (f : Addr) (cdv : Value) (A : Around) (outer : List Env) (s : Shared) (H : Hp) (vs : List V) (Q : VK) (E : XK), Room k (A.deeper (envOfC qual (defScope st) s.heap.objs.size f cdv)) → sp vs H Q E →
      ∃ t, PSs (cxOf (L2.CX P w) P w K mg base N qual (defScope st) f cdv A outer s H E) (defBody st) t ∧ t { nx := fun _ H' => Q .non H', rt := Q } (start N vs) H) : DefMX P w K mg base (k + 1) C m ps sp := by
  obtain ⟨f, fd, F, m, b⟩ := F.ex
  exact ⟨f, fd, F.okX S len (hbody f), b, m⟩
end
section
variable {X : Cx} {W : WX} {k : Nat} {x : Str} {ps : List Str} {sp : Sp} {e : Expr} {es : List Expr} {t : TA} {p pos : Pos}
theorem pe_dx (D : DefX X.prog X.w X.K X.mg X.base k x ps sp) (hr : Room k X.A) (hg : Gl X x) (tk : Takes X W) (ha : PA X (e :: es) t) (hdb : (x == ("__debug__" : Str)) = false := by decide)
    (he : starEach (e :: es) X.env = (false, eval e X.env) :: starEach es X.env := by rfl) (hpl : (backTo pos (starEach es X.env)).any (·.1) = false := by rfl) :
    PE X (.Call (.Name x p) (e :: es) [] pos) (tCallS sp (WE W) t) := by
  obtain ⟨f, fd, F, b, m, kp⟩ := D.ex
  exact pe_callS F hr hg m kp b (fun σ => passAt tk σ) ha hdb he hpl
end
theorem s_callS {σ : L2.St} {H : Hp} {Q : VK} {sp : Sp} {E : L2.St → XK} {tr : TA} (h : tr σ H fun vs H1 => sp vs H1 Q (E σ)) : tCallS sp E tr σ H Q := h
/-! ### isinstance of a caught exception -/
structure ExcK (K : PySem.W.Frag) (D : Addr) : Prop where
  c : ExcC K D
  cl : (PySem.W.clsIn K D).isSome = true
/-- isinstance(e, c) and isinstance(e, (c, ..)), e the exception that the suite holds -/
def rIsX (K : PySem.W.Frag) (cls : Value) (d : Option Addr) (a : Addr) : List V → Hp → VK → Prop := fun xs H Q => ∃ D, cls = .ref D ∧ ExcK K D ∧ (d = none ∨ ∃ dd fs, d = some dd ∧ H dd = some (.xd fs)) ∧
  ((∃ c u b, xs = [.ref a, c] ∧ ClsV c u ∧ PySem.W.kitOne K (.ref D) u = some b ∧ Q (.bl b) H) ∨ (∃ tp cs us b, xs = [.ref a, .ref tp] ∧ H tp = some (.tup cs) ∧ Paired ClsV cs us ∧ PySem.W.kitAny K (.ref D) us = some b ∧ Q (.bl b) H))
theorem call_isX {X : Cx} {a : Addr} {cls : Value} {d : Option Addr} {oe : Obj} {pn : List (Addr × Obj)} (hz : Zc cls d oe) (hf : ∃ vs, oe.data = .fields vs) : CallR (X.suite a ((a, oe) :: pn)) (.builtin "isinstance") (rIsX X.K cls d a) := by
  intro pins s σ H xs us Q I r h
  obtain ⟨D, rfl, ⟨C, cl⟩, hd, h⟩ := h
  obtain ⟨hget, _⟩ := I.pin (a, oe) (List.mem_append.mpr (.inl List.mem_cons_self))
  obtain ⟨vs, hv⟩ := hf
  have J : ∃ od, PySem.W.InstAt s.heap a oe D od := by
    obtain ⟨oc, odd, oda, osl⟩ := oe
    obtain ⟨h1, h2⟩ := hz
    dsimp only at h1 h2 hv
    subst h1 h2 hv
    rcases hd with rfl | ⟨dd, fs, rfl, hdd⟩
    · exact ⟨none, hget, rfl, rfl, trivial⟩
    · obtain ⟨_, ⟨od, _, _, e, _⟩, _⟩ := (show ObjOk X.prog X.w H s.heap dd (.xd fs) from I.hok dd _ hdd)
      exact ⟨some od, hget, rfl, rfl, e⟩
  obtain ⟨od, J⟩ := J
  have Z := PySem.W.kitx_exc (x := a) (ox := oe) (od := od) cl C.hg C.hk C.hs C.ha C.hn C.ht C.hm
  rcases h with ⟨c, u, b, rfl, k, e, q⟩ | ⟨tp, cs, ws, b, rfl, hT, k, e, q⟩
  · obtain ⟨u1, u2, rfl, r1, r2⟩ := vals2 r
    cases (show u1 = Value.ref a from r1)
    have e2 := k.eq r2
    subst e2
    exact PySem.W.kia_one Z I.kIn J e (fun z => nomatch z) fun tk => ⟨.bl b, H, I.tok tk, rfl, q⟩
  · obtain ⟨u1, u2, rfl, r1, r2⟩ := vals2 r
    cases (show u1 = Value.ref a from r1)
    cases (show u2 = Value.ref tp from r2)
    obtain ⟨_, its, rv, o, h1, h2, n, h3⟩ := (show ObjOk X.prog X.w H s.heap tp (.tup cs) from I.hok tp _ hT)
    have e3 := ClsV.all k rv
    subst e3
    obtain ⟨oc, od, dt, sl⟩ := o
    simp only at h2 h3
    subst h2 h3
    exact PySem.W.kia_tup Z I.kIn J h1 e (fun z => nomatch z) fun tk => ⟨.bl b, H, I.tok tk, rfl, q⟩
end G

namespace G
open PySem PySem.Spec PyProof.Rows L2
local macro_rules | `(tactic| walk_at "lk") => `(tactic| first | assumption | exact rT_at | exact rL_at | exact upd_same | (refine sqT_mono ?_ (by assumption); assumption) | (refine sqL_mono ?_ (by assumption); assumption) | (refine rT_new (by assumption) ?_; walk_at "lk") | (refine rL_new (by assumption) ?_; walk_at "lk") | (refine rH_new (by assumption) ?_; walk_at "lk") | (refine rD_new (by assumption) ?_; walk_at "lk") | (refine dp_mono ?_ (by assumption); assumption))
local macro_rules | `(tactic| walk_at "r1") => `(tactic| first | ((with_reducible show tVar _ _ _ _); refine s_var rfl ?_) | with_reducible refine s_c ?_ | with_reducible refine s_op ?_ | with_reducible refine s_un ?_ | with_reducible refine s_neg ?_ | with_reducible refine s_test ?_ | with_reducible refine s_B ?_ | with_reducible refine s_bl ?_ | with_reducible refine s_not ?_ | with_reducible refine s_yes ?_ | with_reducible refine s_and ?_ | with_reducible refine s_or ?_ | with_reducible refine s_notV ?_ | with_reducible refine s_andV ?_ | with_reducible refine s_orV ?_ | with_reducible refine s_if ?_ | with_reducible refine s_cT ?_ | with_reducible refine s_cF ?_ | with_reducible refine s_nT ?_ | with_reducible refine s_nF ?_ | with_reducible refine s_addI ?_ | with_reducible refine s_eqI ?_ | with_reducible refine s_neI ?_ | with_reducible refine s_eqB ?_ | with_reducible refine s_neB ?_ | with_reducible refine s_I0 ?_ | with_reducible refine s_non ?_ | with_reducible refine s_int ?_ | with_reducible refine s_chain ?_ | with_reducible refine s_cons ?_ | with_reducible refine s_nil ?_ | with_reducible refine s_call ?_ | with_reducible refine s_cb ?_ | with_reducible refine s_meth ?_ | with_reducible refine s_make ?_ | with_reducible refine s_tup ?_ | with_reducible refine s_lst ?_ | with_reducible refine s_bm ?_ | with_reducible refine s_bm0 ?_ | with_reducible refine s_bmT ?_ | with_reducible refine s_fld ?_ | with_reducible refine s_dget ?_ | with_reducible refine s_sl ?_ | with_reducible refine s_part ?_ | with_reducible refine s_nopart ?_ | with_reducible refine s_seq ?_ | with_reducible refine s_next ?_ | with_reducible refine s_asg ?_ | with_reducible refine s_gn ?_ | with_reducible refine s_gc ?_ | with_reducible refine s_g0 ?_ | with_reducible refine s_gs ?_ | with_reducible refine s_ret ?_ | with_reducible refine s_ifS ?_ | with_reducible refine s_drop ?_ | with_reducible refine s_augS ?_ | ((with_reducible show tAug _ _ _ _ _ _); refine s_aug rfl ?_) | with_reducible refine s_ipI ?_ | with_reducible refine s_for ?_ | with_reducible refine s_iseq ?_ | with_reducible refine s_rng1 ?_ | with_reducible refine s_izip ?_ | with_reducible refine s_lc ?_ | with_reducible refine s_lc2 ?_ | with_reducible refine s_lstRg ?_ | with_reducible refine s_rg1 ?_ | with_reducible refine s_sfld ?_ | with_reducible refine s_ienum ?_ | with_reducible refine s_disp ?_ | with_reducible refine s_pc ?_ | with_reducible refine s_pn ?_)
local macro_rules | `(tactic| walk_at "rd") => `(tactic| repeat walk_at "r1")

/-- an own class over ValueError -/
structure OwnX (K : PySem.W.Frag) (mg : Str → Option Value) (x : Str) (C : Addr) : Prop where
  gP : mg x = some (.ref C)
  xP : PySem.W.excIn K C [.type "ValueError", .type "Exception", .type "BaseException", .type "object"] "ValueError.__new__" = true
  kP : PySem.W.keepIn K (.ref C) = true
  bP : PySem.W.subIn K (.ref C) (.type "BaseException") = some true
  tP : PySem.W.typeIn K (.ref C) = some (.type "type")
/-- a class that is only named -/
structure NameX (mg : Str → Option Value) (x : Str) (C : Addr) : Prop where
  gP : mg x = some (.ref C)
theorem k_isX {X : Cx} {K : PySem.W.Frag} {a : Addr} {cls : Value} {d : Option Addr} {oe : Obj} {pn : List (Addr × Obj)} (h : X.K = K) (hz : Zc cls d oe) (hf : ∃ vs, oe.data = .fields vs) : CallR (X.suite a ((a, oe) :: pn)) (.builtin "isinstance") (rIsX K cls d a) := by
  subst h
  exact call_isX hz hf
section
variable {P : Program} {w : World} {K : PySem.W.Frag} {mg : Str → Option Value} {base : Heap} {C : Addr}
/-- what are_wholes says no to -/
def NoWholes (K : PySem.W.Frag) (H : Hp) (x : V) (m : Nat) : Prop := (∃ a xs, x = .ref a ∧ SqT K H a xs ∧ xs.length ≤ 1000 ∧ (∀ y ∈ xs, Kn K H y) ∧ (decide ((xs.length : Int) = (m : Int)) && xs.all isInt) = false) ∨
  ((∃ n, x = .int n) ∨ (∃ b, x = .bl b) ∨ x = .non ∨ (∃ z, x = .str z) ∨ (∃ a xs, x = .ref a ∧ SqL K H a xs))
def spLedBackX (K : PySem.W.Frag) (C CN : Addr) : Sp := fun vs H Q E => ∃ b B s hs r k x, vs = [.ref b, .ref s, .int (k : Nat), x] ∧ GA K C H b s B hs r k ∧
  ((∃ d gs, x = .ref d ∧ SqT K H d (gs.map V.int) ∧ gs.length = r.length ∧
      (dust B.heavy (takeAll B.heavy hs r (gs.map fun g => -g)) r = gs → ∀ H' p, Same H H' → H p = none → H' p = some (.tup ((takeAll B.heavy hs r (gs.map fun g => -g)).map V.int)) → Q (.ref p) H') ∧
      (dust B.heavy (takeAll B.heavy hs r (gs.map fun g => -g)) r ≠ gs → ∀ H', Same H H' → E (.ref CN) none H')) ∨
    (NoWholes K H x B.places ∧ ∀ H', Same H H' → E (.ref CN) none H'))
theorem ok_led_backX (B0 : Blt mg) (T : Txt K mg C) {C_NoDust : Addr} (X_NoDust : OwnX K mg "NoDust" C_NoDust) (d_are_wholes : Def P w K mg base 2 "are_wholes" ["thing", "many"] (spAreWholes K)) (d_Bench_sure_stand : DefM P w K mg base 4 C "sure_stand" ["self", "thing"] (spSureStand K C)) (d_Bench_sure_number : DefM P w K mg base 2 C "sure_number" ["self", "number"] (spSureNumber K C))
    (d_put_on : Def P w K mg base 3 "put_on" ["bench", "stand", "number", "dust"] (spPutOn K C)) (d_dust_of : Def P w K mg base 3 "dust_of" ["bench", "stand", "number"] (spDust K C)) (F : FunAt K mg "led_back" s_led_back ["bench", "stand", "number", "dust"]) : DefX P w K mg base 5 "led_back" ["bench", "stand", "number", "dust"] (spLedBackX K C C_NoDust) := by
  refine F.defX (k := 4) sc_led_back (fun vs H Q E h => ?_) (fun f cdv A outer s H vs Q E hr h => ?_)
  · obtain ⟨b, B, s, hs, r, k, d, rfl, _⟩ := h
    rfl
  · obtain ⟨b, B1, st, hs, r, k, x, rfl, g, h⟩ := h
    obtain ⟨dx, l1, l2, l3, l4, hb, h1, h2, h3, h4⟩ := g.bench.ex
    have B := B0
    have hk : k < B1.told.length := by
      rw [← B1.meets_len]
      exact (List.getElem?_eq_some_iff.mp g.row).1
    have rlen := g.ok.row_len g.mem
    have pl := g.ok.places
    refine ⟨_, (pss_cons (ps_expr (pe_dm d_Bench_sure_stand (hr.mono (by decide)) T.cl (pv 0) (pa_cons (pv 1) pa_nil))) (pss_cons (ps_expr (pe_dm d_Bench_sure_number (hr.mono (by decide)) T.cl (pv 0) (pa_cons (pv 2) pa_nil))) (pss_cons (ps_if (pt_val (pe_d d_are_wholes (hr.mono (by decide)) (by rfl) (pa_cons (pv 3) (pa_cons (k_fld (K := K) rfl (pv 0) rfl) pa_nil)))) (pss_cons (ps_set (i := 4) sc_led_back.nd rfl (Or.inl rfl) (pe_d d_put_on (hr.mono (by decide)) (by rfl) (pa_cons (pv 0) (pa_cons (pv 1) (pa_cons (pv 2) (pa_cons (pv 3) pa_nil)))))) (pss_one (ps_if (pt_cmpR (k_eq (K := K) rfl hr.units) (pe_d d_dust_of (hr.mono (by decide)) (by rfl) (pa_cons (pv 0) (pa_cons (pv 4) (pa_cons (pv 2) pa_nil)))) (pv 3) (nomark _)) (pss_one (ps_ret (pv 4))) pss_nil))) pss_nil) (pss_one (ps_raise rfl (takes_of rfl rfl rfl rfl) (pmk_own PySem.F.excBase_ValueError X_NoDust.xP X_NoDust.gP X_NoDust.kP (raises_own X_NoDust.bP X_NoDust.tP) (by rfl))))))), ?_⟩; refine start_eq (σ' := [some (.ref b), some (.ref st), some (.int k), some (x), none]) rfl ?_
    walk_at "rd"
    refine ⟨_, _, _, rfl, hb, rfl, ?_⟩
    walk_at "rd"
    refine ⟨b, B1, st, _, rfl, ⟨g.ok, g.bench, g.stand, g.len⟩, fun H1 s1 => ?_⟩
    walk_at "rd"
    refine ⟨_, _, _, rfl, s1 _ _ hb, rfl, ?_⟩
    walk_at "rd"
    refine ⟨b, B1, k, rfl, g.ok, g.bench.mono s1, hk, ?_⟩
    walk_at "rd"
    refine ⟨_, _, _, _, _, rfl, s1 _ _ hb, T.cl, T.n_places, fl_places, ?_⟩
    walk_at "rd"
    rcases h with ⟨d, gs, rfl, hd, hgl, q1, q2⟩ | ⟨⟨a, xs, rfl, hx, xl, xk, xf⟩ | hn, q⟩
    · refine .inl ⟨d, _, gs.map V.int, rfl, sqT_mono s1 hd, by rw [List.length_map]; omega, kn_int, fun H2 s2 => ?_⟩
      rw [all_isInt, List.length_map, decide_eq_true (show ((gs.length : Nat) : Int) = (B1.places : Int) by omega), Bool.and_true]
      have s12 := s1.trans s2
      walk_at "rd"
      refine ⟨b, B1, st, _, r, k, d, gs, rfl, g.mono s12, sqT_mono s12 hd, hgl, fun H3 p s3 np hp => ?_⟩
      have s13 := s12.trans s3
      walk_at "rd"
      refine ⟨b, B1, p, _, r, k, rfl, ⟨g.ok, g.bench.mono s13, .inl (.inl hp), by rw [takeAll_len]; exact g.len, g.row⟩, fun H4 p2 s4 n2 hp2 => ?_⟩
      have s14 := s13.trans s4
      walk_at "rd"
      refine s_eqD (dp_tupI (.inl (.inl hp2))) (dp_tupI (sqT_mono s14 hd)) (sh_shaped (sh_tupleI _)) (sh_shaped (sh_tupleI _)) ?_
      rw [show PyData.eqv (tD (dust B1.heavy (takeAll B1.heavy hs r (gs.map fun g => -g)) r)) (tD gs) = decide (dust B1.heavy (takeAll B1.heavy hs r (gs.map fun g => -g)) r = gs) from eqvAll_ints _ _]
      walk_at "rd"
      refine s_d2 (fun e => ?_) (fun e => ?_)
      · walk_at "rd"
        exact q1 e _ p s14 (s12.free np) (s4 _ _ hp)
      · exact q2 e _ s14
    · refine .inl ⟨a, _, xs, rfl, sqT_mono s1 hx, xl, fun y hy => kn_mono s1 (xk y hy), fun H2 s2 => ?_⟩
      rw [xf]
      walk_at "rd"
      exact q _ (s1.trans s2)
    · refine .inr ⟨x, _, rfl, ?_, ?_⟩
      · rcases hn with h | h | h | h | ⟨a, xs, rfl, h⟩
        · exact .inl h
        · exact .inr (.inl h)
        · exact .inr (.inr (.inl h))
        · exact .inr (.inr (.inr (.inl h)))
        · exact .inr (.inr (.inr (.inr ⟨a, xs, rfl, sqL_mono s1 h⟩)))
      walk_at "rd"
      exact q _ s1
abbrev s__law_said : Stmt := topS 39
abbrev n__law_said : List Str := ["_law_bench_here", "_law_heights", "_law_number", "_law_dust", "e", "_law_found"]
theorem sc__law_said : FnScope ["_law_bench_here", "_law_heights", "_law_number", "_law_dust", "e", "_law_found"] ["_law_bench_here", "_law_heights", "_law_number", "_law_dust"] (defScope s__law_said) := ⟨rfl, rfl, rfl, by decide +kernel, rfl, by decide +kernel, by decide +kernel⟩
/-- an own class N of the program, caught by «except G», that is asked by isinstance(e, N) and isinstance(e, (F, R, S)) -/
structure SaidX (K : PySem.W.Frag) (mg : Str → Option Value) (CG CN CF CR CS : Addr) : Prop where
  gG : NameX mg "GrindError" CG
  gF : NameX mg "NoForm" CF
  gR : NameX mg "NoGrinding" CR
  gS : NameX mg "NoStand" CS
  e1 : PySem.W.exmOne K (.ref CN) (.ref CG) = some true
  xk : ExcK K CN
  k1 : PySem.W.kitOne K (.ref CN) (.ref CN) = some true
  k2 : PySem.W.kitAny K (.ref CN) [.ref CF, .ref CR, .ref CS] = some false
def spSaid (K : PySem.W.Frag) (C : Addr) : Sp := fun vs H Q _ => ∃ b B s hs r k x, vs = [.ref b, .ref s, .int (k : Nat), x] ∧ GA K C H b s B hs r k ∧
  ((∃ d gs, x = .ref d ∧ SqT K H d (gs.map V.int) ∧ gs.length = r.length ∧
      (dust B.heavy (takeAll B.heavy hs r (gs.map fun g => -g)) r = gs → ∀ H' p, Same H H' → H p = none → H' p = some (.tup ((takeAll B.heavy hs r (gs.map fun g => -g)).map V.int)) → Q (.ref p) H') ∧
      (dust B.heavy (takeAll B.heavy hs r (gs.map fun g => -g)) r ≠ gs → ∀ H', Same H H' → Q (.str "refused") H')) ∨
    (NoWholes K H x B.places ∧ ∀ H', Same H H' → Q (.str "refused") H'))
theorem ok_said (B0 : Blt mg) {CG C_NoDust C_NoForm C_NoGrinding C_NoStand : Addr} (X_NoDust : OwnX K mg "NoDust" C_NoDust) (S : SaidX K mg CG C_NoDust C_NoForm C_NoGrinding C_NoStand) (dx_led_back : DefX P w K mg base 5 "led_back" ["bench", "stand", "number", "dust"] (spLedBackX K C C_NoDust)) (F : FunAt K mg "_law_said" s__law_said ["_law_bench_here", "_law_heights", "_law_number", "_law_dust"]) : Def P w K mg base 6 "_law_said" ["_law_bench_here", "_law_heights", "_law_number", "_law_dust"] (spSaid K C) := by
  refine F.def (k := 5) sc__law_said (fun vs H Q E h => ?_) (fun f cdv A outer s H vs Q E hr h => ?_)
  · obtain ⟨b, B, s, hs, r, k, d, rfl, _⟩ := h
    rfl
  · obtain ⟨b, B1, st, hs, r, k, x, rfl, g, h⟩ := h
    have B := B0
    have X_GrindError := S.gG
    have X_NoForm := S.gF
    have X_NoGrinding := S.gR
    have X_NoStand := S.gS
    refine ⟨_, (pss_cons (ps_try_as (i := 4) rfl rfl sc__law_said.nd rfl rfl ⟨rfl, by decide, .inl X_GrindError.gP⟩ takes0 (fun W pn xe tk po => (pss_one (ps_ret (pe_dx dx_led_back (hr.mono (by decide)) (by rfl) tk (pa_cons (pv 0) (pa_cons (pv 1) (pa_cons (pv 2) (pa_cons (pv 3) pa_nil)))))))) (fun a oe cls d pn hz hf => (pss_cons (ps_set (i := 5) sc__law_said.nd rfl (Or.inl rfl) pe_str) (pss_one (ps_if (PW.pt (pw_and (pt_val (pe_callB (k_isX (K := K) rfl hz hf) (by rfl) B.isinstance bb_isinstance (pa_cons (pv 4) (pa_cons (pe_glob (v := .ref C_NoDust) (by rfl) X_NoDust.gP rfl) pa_nil)))) (pw_and1 (pt_not (pt_val (pe_callB (k_isX (K := K) rfl hz hf) (by rfl) B.isinstance bb_isinstance (pa_cons (pv 4) (pa_cons (pe_tup (pa_cons (pe_glob (v := .ref C_NoForm) (by rfl) X_NoForm.gP rfl) (pa_cons (pe_glob (v := .ref C_NoGrinding) (by rfl) X_NoGrinding.gP rfl) (pa_cons (pe_glob (v := .ref C_NoStand) (by rfl) X_NoStand.gP rfl) pa_nil)))) pa_nil)))))))) (pss_one (ps_set (i := 5) sc__law_said.nd rfl (Or.inl rfl) pe_str)) pss_nil))))) (pss_one (ps_ret (pv 5)))), ?_⟩; refine start_eq (σ' := [some (.ref b), some (.ref st), some (.int k), some (x), none, none]) rfl ?_
    walk_at "rd"
    refine s_callS ?_
    walk_at "rd"
    have ref : ∀ H', Same H H' → (∀ H'', Same H H'' → Q (.str "refused") H'') → True := fun _ _ _ => trivial
    refine ⟨b, B1, st, hs, r, k, x, rfl, g, ?_⟩
    rcases h with ⟨d, gs, rfl, hd, hgl, q1, q2⟩ | ⟨hn, q⟩
    · refine .inl ⟨d, gs, rfl, hd, hgl, q1, fun ne H' s1 => ?_⟩
      refine ⟨true, S.e1, fun _ a na => ?_, fun z => Bool.noConfusion z⟩
      walk_at "rd"
      refine ⟨_, rfl, S.xk, .inl rfl, .inl ⟨_, _, _, rfl, .own _, S.k1, ?_⟩⟩
      walk_at "rd"
      refine ⟨by show 3 ≤ sizeLine; decide, fun tp np => ?_⟩
      walk_at "rd"
      refine ⟨_, rfl, S.xk, .inl rfl, .inr ⟨tp, _, _, _, rfl, upd_same, .cons (.own _) (.cons (.own _) (.cons (.own _) .nil)), S.k2, ?_⟩⟩
      walk_at "rd"
      exact q2 ne _ (s1.trans (same_upd np))
    · refine .inr ⟨hn, fun H' s1 => ?_⟩
      refine ⟨true, S.e1, fun _ a na => ?_, fun z => Bool.noConfusion z⟩
      walk_at "rd"
      refine ⟨_, rfl, S.xk, .inl rfl, .inl ⟨_, _, _, rfl, .own _, S.k1, ?_⟩⟩
      walk_at "rd"
      refine ⟨by show 3 ≤ sizeLine; decide, fun tp np => ?_⟩
      walk_at "rd"
      refine ⟨_, rfl, S.xk, .inl rfl, .inr ⟨tp, _, _, _, rfl, upd_same, .cons (.own _) (.cons (.own _) (.cons (.own _) .nil)), S.k2, ?_⟩⟩
      walk_at "rd"
      exact q _ (s1.trans (same_upd np))
end
end G

namespace G
open PySem PySem.Spec PyProof.Rows L2
/-! ### t * 1 is t -/
theorem tuple_mul1 (l : Addr) (items : Array Value) (n : Nat) (dd : Option Addr) (sl : Array (Option Value)) (u : Tok) :
    Meets (Builtin.«tuple.__mul__» ⟨[.ref l, .int 1 u], []⟩) (fun _ R s => s.heap.get? l = some { cls := .type "tuple", dict := dd, data := .seq items n, slots := sl } ∧ R (.ok (.ret (Value.ref l))) s) :=
  .of_wp fun prog w A R s h => by
    obtain ⟨hp, g, d, tk, os⟩ := s
    obtain ⟨hl, h⟩ := h
    have f1 := AutoSeq1.idx_int
    have c1 : (items.isEmpty || (1 : Int) == 1) = true := by simp
    wp_walk using wpAny_loadPart' hl
    repeat (first
      | (refine wpAny_ite_false (decide_eq_false (by decide)) ?_; wp_walk using wpAny_loadPart' hl)
      | (refine wpAny_ite_true (decide_eq_true c1) ?_; wp_walk using wpAny_loadPart' hl))
    exact ⟨_, rfl, h⟩
def rRep1 (K : PySem.W.Frag) : R2 := fun x y H Q => ∃ l xs, x = .ref l ∧ y = .int 1 ∧ SqT K H l xs ∧ Q (.ref l) H
theorem op_rep1 {X : Cx} : OpR X (binaryOp .Mult) (rRep1 X.K) := by
  intro pins s σ H x y v u Q I rx ry h
  obtain ⟨l, xs, rfl, rfl, hT, q⟩ := h
  cases rx
  obtain ⟨t, rfl⟩ := ry
  obtain ⟨its, r, ⟨⟨cls, dd, data, sl⟩, ho, hc, n, hd⟩, hs⟩ := I.tuple hT
  simp only at hc hd
  subst hc hd
  exact wpAny_binaryOp_repeat_ref (T := "tuple") (U := "int") (by decide) ⟨_, ho, rfl⟩ (fun s' => typeIs_int s' 1 t) noFill_tuple_mul F.fills_int_mul F.slot_int_rmul repeat_tuple F.slot_int_index.lookup
    (call_meets F.slot_int_rmul (typeIs_int s 1 t) F.entry_int_rmul (F.args_int_rmul_2 _ _) (int_rmul_tuple 1 t l its.toArray n dd sl)
      ⟨ho, rfl, ⟨_, ho, rfl⟩, call_meets F.slot_tuple_mul ⟨_, ho, rfl⟩ F.entry_tuple_mul (F.args_tuple_mul_2 _ _) (tuple_mul1 l its.toArray n dd sl t) ⟨ho, ⟨.ref l, H, I, rfl, q⟩⟩⟩)
theorem k_repT {X : Cx} {K : PySem.W.Frag} (h : X.K = K) : OpR X (binaryOp .Mult) (fun x y H Q => rRepT K x y H Q ∨ rRep1 K x y H Q) := by
  subst h
  exact op_or op_repT op_rep1
theorem k_catA {X : Cx} {K : PySem.W.Frag} (h : X.K = K) : OpR X (binaryOp .Add) (rCatA K) := by
  subst h
  exact op_catA
end G

namespace G
open PySem PySem.Spec PyProof.Rows L2
local macro_rules | `(tactic| walk_at "lk") => `(tactic| first | assumption | exact rT_at | exact rL_at | exact upd_same | (refine sqT_mono ?_ (by assumption); assumption) | (refine sqL_mono ?_ (by assumption); assumption) | (refine rT_new (by assumption) ?_; walk_at "lk") | (refine rL_new (by assumption) ?_; walk_at "lk") | (refine rH_new (by assumption) ?_; walk_at "lk") | (refine rD_new (by assumption) ?_; walk_at "lk") | (refine dp_mono ?_ (by assumption); assumption))
local macro_rules | `(tactic| walk_at "r1") => `(tactic| first | ((with_reducible show tVar _ _ _ _); refine s_var rfl ?_) | with_reducible refine s_c ?_ | with_reducible refine s_op ?_ | with_reducible refine s_un ?_ | with_reducible refine s_neg ?_ | with_reducible refine s_test ?_ | with_reducible refine s_B ?_ | with_reducible refine s_bl ?_ | with_reducible refine s_not ?_ | with_reducible refine s_yes ?_ | with_reducible refine s_and ?_ | with_reducible refine s_or ?_ | with_reducible refine s_notV ?_ | with_reducible refine s_andV ?_ | with_reducible refine s_orV ?_ | with_reducible refine s_if ?_ | with_reducible refine s_cT ?_ | with_reducible refine s_cF ?_ | with_reducible refine s_nT ?_ | with_reducible refine s_nF ?_ | with_reducible refine s_addI ?_ | with_reducible refine s_eqI ?_ | with_reducible refine s_neI ?_ | with_reducible refine s_eqB ?_ | with_reducible refine s_neB ?_ | with_reducible refine s_I0 ?_ | with_reducible refine s_non ?_ | with_reducible refine s_int ?_ | with_reducible refine s_chain ?_ | with_reducible refine s_cons ?_ | with_reducible refine s_nil ?_ | with_reducible refine s_call ?_ | with_reducible refine s_cb ?_ | with_reducible refine s_meth ?_ | with_reducible refine s_make ?_ | with_reducible refine s_tup ?_ | with_reducible refine s_lst ?_ | with_reducible refine s_bm ?_ | with_reducible refine s_bm0 ?_ | with_reducible refine s_bmT ?_ | with_reducible refine s_fld ?_ | with_reducible refine s_dget ?_ | with_reducible refine s_sl ?_ | with_reducible refine s_part ?_ | with_reducible refine s_nopart ?_ | with_reducible refine s_seq ?_ | with_reducible refine s_next ?_ | with_reducible refine s_asg ?_ | with_reducible refine s_gn ?_ | with_reducible refine s_gc ?_ | with_reducible refine s_g0 ?_ | with_reducible refine s_gs ?_ | with_reducible refine s_ret ?_ | with_reducible refine s_ifS ?_ | with_reducible refine s_drop ?_ | with_reducible refine s_augS ?_ | ((with_reducible show tAug _ _ _ _ _ _); refine s_aug rfl ?_) | with_reducible refine s_ipI ?_ | with_reducible refine s_for ?_ | with_reducible refine s_iseq ?_ | with_reducible refine s_rng1 ?_ | with_reducible refine s_izip ?_ | with_reducible refine s_lc ?_ | with_reducible refine s_lc2 ?_ | with_reducible refine s_lstRg ?_ | with_reducible refine s_rg1 ?_ | with_reducible refine s_sfld ?_ | with_reducible refine s_ienum ?_ | with_reducible refine s_disp ?_ | with_reducible refine s_pc ?_ | with_reducible refine s_pn ?_)
local macro_rules | `(tactic| walk_at "rd") => `(tactic| repeat walk_at "r1")

theorem eqv_pair (a b c d : List Int) : PyData.eqv (.tuple [tD a, tD b]) (.tuple [tD c, tD d]) = decide (a = c ∧ b = d) := by
  show (PyData.eqvAll (a.map PyData.int) (c.map PyData.int) && (PyData.eqvAll (b.map PyData.int) (d.map PyData.int) && true)) = _
  rw [eqvAll_ints, eqvAll_ints, Bool.and_true]
  by_cases h1 : a = c <;> by_cases h2 : b = d <;> simp [h1, h2]
theorem take_forth (w : List Int) {r : List (Nat × Nat)} {gs hs : List Int} (d : Disj r) (hin : ∀ p ∈ r, p.1 < hs.length ∧ p.2 < hs.length) (hg : gs.length = r.length) : takeAll w (takeAll w hs r (gs.map fun g => -g)) r gs = hs := by
  have := take_back w (gs := gs.map fun g => -g) d hin (by rw [List.length_map]; exact hg)
  rw [List.map_map] at this
  have e : gs.map ((fun g => -g) ∘ fun g => -g) = gs := by
    have : ((fun (g : Int) => -g) ∘ fun g => -g) = id := by
      funext g
      exact Int.neg_neg g
    rw [this, List.map_id]
  rw [e] at this
  exact this
section
variable {P : Program} {w : World} {K : PySem.W.Frag} {mg : Str → Option Value} {base : Heap} {C : Addr}
abbrev s__law_due : Stmt := topS 40
abbrev n__law_due : List Str := ["_law_model", "_law_heights", "_law_number", "_law_dust", "_law_left", "_law_spot", "_law_other", "_law_grains_here"]
theorem sc__law_due : FnScope ["_law_model", "_law_heights", "_law_number", "_law_dust", "_law_left", "_law_spot", "_law_other", "_law_grains_here"] ["_law_model", "_law_heights", "_law_number", "_law_dust"] (defScope s__law_due) := ⟨rfl, rfl, rfl, by decide +kernel, rfl, by decide +kernel, by decide +kernel⟩
def spDue (K : PySem.W.Frag) : Sp := fun vs H Q _ => ∃ m B s hs r k d gs, vs = [.ref m, .ref s, .int (k : Nat), .ref d] ∧ LA K H m s B hs r k ∧ SqT K H d (gs.map V.int) ∧ gs.length = r.length ∧
  (dust B.heavy (takeAll B.heavy hs r (gs.map fun g => -g)) r = gs → ∀ H' p, Same H H' → H p = none → H' p = some (.tup ((takeAll B.heavy hs r (gs.map fun g => -g)).map V.int)) → Q (.ref p) H') ∧
  (dust B.heavy (takeAll B.heavy hs r (gs.map fun g => -g)) r ≠ gs → ∀ H', Same H H' → Q (.str "refused") H')
theorem ok_due (B0 : Blt mg) (d__law_ground : Def P w K mg base 2 "_law_ground" ["_law_model", "_law_heights", "_law_number"] (spLGround K)) (F : FunAt K mg "_law_due" s__law_due ["_law_model", "_law_heights", "_law_number", "_law_dust"]) : Def P w K mg base 3 "_law_due" ["_law_model", "_law_heights", "_law_number", "_law_dust"] (spDue K) := by
  refine F.def (k := 2) sc__law_due (fun vs H Q E h => ?_) (fun f cdv A outer s H vs Q E hr h => ?_)
  · obtain ⟨m, B, s, hs, r, k, d, gs, rfl, _⟩ := h
    rfl
  · obtain ⟨m, B1, st, hs, r, k, d, gs, rfl, g, hd0, hgl, q1, q2⟩ := h
    obtain ⟨l1, l2, l3, l4, hd, h1, h2, h3, h4⟩ := g.model.ex
    obtain ⟨xs, a, ys, e1, e2, e3, e4⟩ := meets_at h4 g.row
    have B := B0
    have ylen : ys.length = r.length := by rw [dpAll_len e4, List.length_map]
    have gl := g.len
    have rlen := g.ok.row_len g.mem
    have pl := g.ok.places
    refine ⟨_, (pss_cons (ps_set (i := 4) sc__law_due.nd rfl (Or.inl rfl) (pe_callTy (k_list (K := K) rfl) (by rfl) B.list bb_list (pa_cons (pv 1) pa_nil))) (pss_cons (ps_for PassesOwn.never rfl (k_zip (K := K) rfl (by rfl) B.zip (pa_cons (pe_ix (k_ix (K := K) rfl) (pe_dget (hu_of hr) (pv 0) pe_str (fun _ _ => rfl)) (pv 2) (fun _ _ => rfl)) (pa_cons (pv 3) pa_nil))) (k_tup (K := K) (n := 2) rfl rfl (pgs_cons (k_tup (K := K) (n := 2) rfl rfl (pgs_cons (pg_name (i := 5) sc__law_due.nd rfl (Or.inl rfl)) (pgs_cons (pg_name (i := 6) sc__law_due.nd rfl (Or.inl rfl)) pgs_nil))) (pgs_cons (pg_name (i := 7) sc__law_due.nd rfl (Or.inl rfl)) pgs_nil))) (pss_cons (ps_asg (pe_op (k_add (K := K) rfl) (pe_ix (k_ix (K := K) rfl) (pv 4) (pv 5) (fun _ _ => rfl)) (pe_op opMulU (pv 7) (pe_ix (k_ix (K := K) rfl) (pe_dget (hu_of hr) (pv 0) pe_str (fun _ _ => rfl)) (pv 6) (fun _ _ => rfl)))) (pg_sub (pv 4) (pv 5) set_list)) (pss_one (ps_asg (pe_op (k_add (K := K) rfl) (pe_ix (k_ix (K := K) rfl) (pv 4) (pv 6) (fun _ _ => rfl)) (pe_op opMulU (pv 7) (pe_ix (k_ix (K := K) rfl) (pe_dget (hu_of hr) (pv 0) pe_str (fun _ _ => rfl)) (pv 5) (fun _ _ => rfl)))) (pg_sub (pv 4) (pv 6) set_list))))) (pss_cons (ps_if (pt_cmpR (k_ne (K := K) rfl hr.units) (pe_d d__law_ground (hr.mono (by decide)) (by rfl) (pa_cons (pv 0) (pa_cons (pe_callTy (k_tuple (K := K) rfl) (by rfl) B.tuple bb_tuple (pa_cons (pv 4) pa_nil)) (pa_cons (pv 2) pa_nil)))) (pe_tup (pa_cons (pv 1) (pa_cons (pv 3) pa_nil))) (nomark _)) (pss_one (ps_ret pe_str)) pss_nil) (pss_one (ps_ret (pe_callTy (k_tuple (K := K) rfl) (by rfl) B.tuple bb_tuple (pa_cons (pv 4) pa_nil))))))), ?_⟩; refine start_eq (σ' := [some (.ref m), some (.ref st), some (.int k), some (.ref d), none, none, none, none]) rfl ?_
    walk_at "rd"
    refine s_listT g.stand fun l nl => ?_
    have s1 : Same H (upd H l (.lst (hs.map V.int))) := same_upd nl
    have hl1 : (upd H l (.lst (hs.map V.int))) l = some (.lst (hs.map V.int)) := upd_same
    generalize upd H l (.lst (hs.map V.int)) = H1 at *
    walk_at "rd"
    refine s_dgk (s1 _ _ hd) mv_meets ?_
    walk_at "rd"
    refine s_ixL (sqL_mono s1 e1) e2 ?_
    walk_at "rd"
    refine ⟨true, false, a, d, ys, gs.map V.int, rfl, sqL_mono s1 e3, sqT_mono s1 hd0, ?_⟩
    refine for_w (walk_zipM (n := r.length) (xs := ys) (ys := gs.map V.int) (by rw [ylen, List.length_map, hgl]; simp)) (fun i σ H2 => ∃ y5 y6 y7, σ = [some (.ref m), some (.ref st), some (.int k), some (.ref d), some (.ref l), y5, y6, y7] ∧ Same H H2 ∧ H2 l = some (.lst ((takeAll B1.heavy hs (r.take i) ((gs.map fun g => -g).take i)).map V.int))) ?_ ?_ ?_ ?_
    · exact ⟨none, none, none, rfl, s1, by rw [hl1]; simp [takeAll]⟩
    · rintro i σ H2 _ ⟨_, _, _, rfl, e, _⟩
      exact ⟨sqL_mono e e3, sqT_mono e hd0⟩
    · rintro i x σ H2 H3 hi ⟨y5, y6, y7, rfl, e, hlst⟩ ⟨Tp, x1, x2, rfl, nT, rfl, g1, g2⟩
      have g1 : ys[i]? = some x1 := g1
      have g2 : (gs.map V.int)[i]? = some x2 := g2
      have hri : r[i]? = some r[i] := List.getElem?_eq_getElem hi
      have hgi : gs[i]? = some gs[i] := List.getElem?_eq_getElem (by omega)
      have hgi' : (gs.map fun g => -g)[i]? = some (-gs[i]) := by rw [List.getElem?_map, hgi]; rfl
      obtain ⟨v, hv, dv⟩ := dpAll_get (i := i) e4 (by rw [List.getElem?_map, hri]; rfl)
      rw [g1] at hv
      cases hv
      obtain ⟨c, rfl, hc⟩ := pD_at dv
      have hx2 : x2 = .int gs[i] := by
        rw [List.getElem?_map, hgi] at g2
        exact (Option.some.inj g2).symm
      subst hx2
      obtain ⟨i1, i2⟩ := g.ok.row g.mem (List.getElem_mem hi)
      have tk := takeAll_take B1.heavy r (gs.map fun g => -g) hs i r[i] (-gs[i]) hri hgi'
      have ne1 : l ≠ Tp := ne_of_none hlst nT
      have s2 : Same H (upd H2 Tp (.tup [.ref c, .int gs[i]])) := e.trans (same_upd nT)
      have hT3 : SqT K (upd H2 Tp (.tup [.ref c, .int gs[i]])) Tp [.ref c, .int gs[i]] := rT_at
      have hl3 : (upd H2 Tp (.tup [.ref c, .int gs[i]])) l = some (.lst ((takeAll B1.heavy hs (r.take i) ((gs.map fun g => -g).take i)).map V.int)) := by rw [upd_ne ne1]; exact hlst
      have tl := takeAll_len B1.heavy hs (r.take i) ((gs.map fun g => -g).take i)
      generalize upd H2 Tp (.tup [.ref c, .int gs[i]]) = H4 at *
      generalize takeAll B1.heavy hs (r.take i) ((gs.map fun g => -g).take i) = hs5 at *
      generalize hu : r[i].1 = u at *
      generalize hv : r[i].2 = v at *
      have w1 := g.ok.w9 i1
      have w2 := g.ok.w9 i2
      refine s_gt hT3 rfl ?_
      walk_at "rd"
      refine s_gt (sqT_mono s2 hc) rfl ?_
      walk_at "rd"
      refine s_ixL (.inl (.inl hl3)) (at_int (by omega)) ?_
      walk_at "rd"
      refine s_dgk (s2 _ _ hd) mv_heavy ?_
      walk_at "rd"
      refine s_ixL (sqL_mono s2 h3) (at_int i2) ?_
      walk_at "rd"
      refine s_mulI (.inr ⟨by omega, by omega⟩) ?_
      walk_at "rd"
      refine s_setL hl3 (ix_int (by simp; omega)) ?_
      walk_at "rd"
      rw [set_map]
      have nl4 : ∀ {X : Hp}, Same H X → Same H (upd X l (.lst ((hs5.set u (hs5.getD u 0 + gs[i] * B1.heavy.getD v 0)).map V.int))) := fun z => same_updR z nl
      have s3 := nl4 s2
      refine s_ixL rL_at (at_int (by simp; omega)) ?_
      walk_at "rd"
      refine s_dgk (s3 _ _ hd) mv_heavy ?_
      walk_at "rd"
      refine s_ixL (sqL_mono s3 h3) (at_int i1) ?_
      walk_at "rd"
      refine s_mulI (.inr ⟨by omega, by omega⟩) ?_
      walk_at "rd"
      refine s_setL upd_same (ix_int (by simp; omega)) ?_
      rw [upd_upd]
      refine ⟨_, _, _, rfl, same_updR s2 nl, ?_⟩
      rw [upd_same, tk, set_map]
      have a1 : hs5.getD u 0 + gs[i] * B1.heavy.getD v 0 = hs5.getD u 0 - B1.heavy.getD v 0 * -gs[i] := by rw [Int.mul_neg, Int.mul_comm]; omega
      have a2 : ∀ z : Int, z + gs[i] * B1.heavy.getD u 0 = z - B1.heavy.getD u 0 * -gs[i] := fun z => by rw [Int.mul_neg, Int.mul_comm]; omega
      simp only [take1, hu, hv, a1, a2]
    · rintro σ H2 ⟨y5, y6, y7, rfl, e, hlst⟩
      rw [List.take_of_length_le (Nat.le_refl _), List.take_of_length_le (by rw [List.length_map]; omega)] at hlst
      have tl := takeAll_len B1.heavy hs r (gs.map fun g => -g)
      have tf := take_forth B1.heavy (gs := gs) (hs := hs) (g.ok.disj g.mem) (fun p hp => by rw [gl]; exact g.ok.row g.mem hp) hgl
      generalize hA : takeAll B1.heavy hs r (gs.map fun g => -g) = hsA at *
      walk_at "rd"
      refine s_tupleL (.inl (.inl hlst)) fun t nt => ?_
      have s3 := e.trans (same_upd (o := .tup (hsA.map V.int)) nt)
      have ht : (upd H2 t (.tup (hsA.map V.int))) t = some (.tup (hsA.map V.int)) := upd_same
      have hl3 : (upd H2 t (.tup (hsA.map V.int))) l = some (.lst (hsA.map V.int)) := rH_new nt hlst
      generalize upd H2 t (.tup (hsA.map V.int)) = H3 at *
      walk_at "rd"
      refine ⟨m, B1, t, hsA, r, k, rfl, ⟨g.ok, g.model.mono s3, .inl (.inl ht), by rw [tl]; exact gl, g.row⟩, fun H5 p p1 p2 s5 n n1 n2 hp hp1 hp2 => ?_⟩
      have s35 := s3.trans s5
      walk_at "rd"
      refine ⟨by show 2 ≤ sizeLine; decide, fun tq ntq => ?_⟩
      have s6 : Same H5 (upd H5 tq (.tup [.ref st, .ref d])) := same_upd ntq
      have htq : (upd H5 tq (.tup [.ref st, .ref d])) tq = some (.tup [.ref st, .ref d]) := upd_same
      generalize upd H5 tq (.tup [.ref st, .ref d]) = H6 at *
      have s36 := s35.trans s6
      refine s_neD (d := .tuple [tD (after B1.heavy hsA r), tD (dust B1.heavy hsA r)]) (e := .tuple [tD hs, tD gs]) (.tup (.inl (.inl (s6 _ _ hp))) (.cons (dp_tupI (.inl (.inl (s6 _ _ hp1)))) (.cons (dp_tupI (.inl (.inl (s6 _ _ hp2)))) .nil))) (.tup (.inl (.inl htq)) (.cons (dp_tupI (sqT_mono s36 g.stand)) (.cons (dp_tupI (sqT_mono s36 hd0)) .nil))) (sh_shaped (sh_pairI _ _)) (sh_shaped (sh_pairI _ _)) ?_
      rw [eqv_pair]
      walk_at "rd"
      refine s_n2 (fun hne => ?_) (fun heq => ?_)
      · walk_at "rd"
        refine q2 (fun ed => hne ⟨?_, ed⟩) _ s36
        unfold after
        rw [ed]
        exact tf
      · walk_at "rd"
        refine s_tupleL (.inl (.inl ((s5.trans s6) _ _ hl3))) fun t2 nt2 => ?_
        exact q1 heq.2 _ t2 (s36.trans (same_upd nt2)) (s36.free nt2) upd_same
end
end G

namespace G
open PySem PySem.Spec PyProof.Rows L2
local macro_rules | `(tactic| walk_at "lk") => `(tactic| first | assumption | exact rT_at | exact rL_at | exact upd_same | (refine sqT_mono ?_ (by assumption); assumption) | (refine sqL_mono ?_ (by assumption); assumption) | (refine rT_new (by assumption) ?_; walk_at "lk") | (refine rL_new (by assumption) ?_; walk_at "lk") | (refine rH_new (by assumption) ?_; walk_at "lk") | (refine rD_new (by assumption) ?_; walk_at "lk") | (refine dp_mono ?_ (by assumption); assumption))
local macro_rules | `(tactic| walk_at "r1") => `(tactic| first | ((with_reducible show tVar _ _ _ _); refine s_var rfl ?_) | with_reducible refine s_c ?_ | with_reducible refine s_op ?_ | with_reducible refine s_un ?_ | with_reducible refine s_neg ?_ | with_reducible refine s_test ?_ | with_reducible refine s_B ?_ | with_reducible refine s_bl ?_ | with_reducible refine s_not ?_ | with_reducible refine s_yes ?_ | with_reducible refine s_and ?_ | with_reducible refine s_or ?_ | with_reducible refine s_notV ?_ | with_reducible refine s_andV ?_ | with_reducible refine s_orV ?_ | with_reducible refine s_if ?_ | with_reducible refine s_cT ?_ | with_reducible refine s_cF ?_ | with_reducible refine s_nT ?_ | with_reducible refine s_nF ?_ | with_reducible refine s_addI ?_ | with_reducible refine s_eqI ?_ | with_reducible refine s_neI ?_ | with_reducible refine s_eqB ?_ | with_reducible refine s_neB ?_ | with_reducible refine s_I0 ?_ | with_reducible refine s_non ?_ | with_reducible refine s_int ?_ | with_reducible refine s_chain ?_ | with_reducible refine s_cons ?_ | with_reducible refine s_nil ?_ | with_reducible refine s_call ?_ | with_reducible refine s_cb ?_ | with_reducible refine s_meth ?_ | with_reducible refine s_make ?_ | with_reducible refine s_tup ?_ | with_reducible refine s_lst ?_ | with_reducible refine s_bm ?_ | with_reducible refine s_bm0 ?_ | with_reducible refine s_bmT ?_ | with_reducible refine s_fld ?_ | with_reducible refine s_dget ?_ | with_reducible refine s_sl ?_ | with_reducible refine s_part ?_ | with_reducible refine s_nopart ?_ | with_reducible refine s_seq ?_ | with_reducible refine s_next ?_ | with_reducible refine s_asg ?_ | with_reducible refine s_gn ?_ | with_reducible refine s_gc ?_ | with_reducible refine s_g0 ?_ | with_reducible refine s_gs ?_ | with_reducible refine s_ret ?_ | with_reducible refine s_ifS ?_ | with_reducible refine s_drop ?_ | with_reducible refine s_augS ?_ | ((with_reducible show tAug _ _ _ _ _ _); refine s_aug rfl ?_) | with_reducible refine s_ipI ?_ | with_reducible refine s_for ?_ | with_reducible refine s_iseq ?_ | with_reducible refine s_rng1 ?_ | with_reducible refine s_izip ?_ | with_reducible refine s_lc ?_ | with_reducible refine s_lc2 ?_ | with_reducible refine s_lstRg ?_ | with_reducible refine s_rg1 ?_ | with_reducible refine s_sfld ?_ | with_reducible refine s_ienum ?_ | with_reducible refine s_disp ?_ | with_reducible refine s_pc ?_ | with_reducible refine s_pn ?_)
local macro_rules | `(tactic| walk_at "rd") => `(tactic| repeat walk_at "r1")

abbrev rAddA (K : PySem.W.Frag) : R2 := fun x y H Q => rAddU K x y H Q ∨ rCatA K x y H Q
theorem k_addA {X : Cx} {K : PySem.W.Frag} (h : X.K = K) : OpR X (binaryOp .Add) (rAddA K) := op_or (k_add h) (k_catA h)
theorem s_catA {K : PySem.W.Frag} {st a b : Addr} {F0 H0 F H : Hp} {xs ys : List V} {Q : VK} (r : SExt st F0 H0 F H) (ha : SqT K F a xs) (hb : SqT K F b ys) (hz : xs.length + ys.length ≤ 1000) (q : ∀ p F' H', SExt st F0 H0 F' H' → Same F F' → SqT K F' p (xs ++ ys) → Q (.ref p) H') : rAddA K (.ref a) (.ref b) H Q := by
  refine .inr ⟨a, b, xs, ys, rfl, rfl, sqT_mono r.fh ha, sqT_mono r.fh hb, Nat.le_trans hz (by decide), fun e => ?_, fun _ e => ?_, fun _ _ p np => ?_⟩
  · subst e
    exact q b F H r (Same.refl _) hb
  · subst e
    exact q a F H r (Same.refl _) (by rw [List.append_nil]; exact ha)
  · exact q p _ _ (r.new np) (same_upd (sub_none r.fh np)) rT_at
theorem cut_from (ns : List Int) (n : Nat) (h : n ≤ ns.length) : cutV (ns.map V.int) (some (n : Int)) none = (ns.drop n).map V.int := by
  unfold cutV
  rw [HT.sIx_none, HT.sIx_nat]
  rw [List.length_map, Nat.min_eq_left h, List.take_of_length_le (by rw [List.length_drop, List.length_map]; omega), List.map_drop]
theorem s_cutT {K : PySem.W.Frag} {st a : Addr} {F0 H0 F H : Hp} {ns : List Int} {lo hi : Option Int} {ms : List Int} {Q : VK} (r : SExt st F0 H0 F H) (ha : SqT K F a (ns.map V.int)) (hw : ¬ (HT.sIx ns.length 0 lo = 0 ∧ HT.sIx ns.length ns.length hi = ns.length)) (hc : cutV (ns.map V.int) lo hi = ms.map V.int)
    (q : ∀ p F' H', SExt st F0 H0 F' H' → Same F F' → SqT K F' p (ms.map V.int) → Q (.ref p) H') : rSlU K (.ref a) lo hi H Q := by
  refine .inr ⟨a, _, rfl, sqT_mono r.fh ha, by rw [List.length_map]; exact hw, fun p np => ?_⟩
  rw [hc]
  exact q p _ _ (r.new np) (same_upd (sub_none r.fh np)) rT_at
theorem nw_hi {n k : Nat} (h : k < n) : ¬ (HT.sIx n 0 none = 0 ∧ HT.sIx n n (some (k : Int)) = n) := by
  rw [HT.sIx_nat]
  omega
theorem nw_lo {n k : Nat} (h : 1 ≤ k) (hn : 1 ≤ n) : ¬ (HT.sIx n 0 (some (k : Int)) = 0 ∧ HT.sIx n n none = n) := by
  rw [HT.sIx_nat]
  omega
section
variable {P : Program} {w : World} {K : PySem.W.Frag} {mg : Str → Option Value} {base : Heap} {C : Addr}
abbrev s__law_odd : Stmt := topS 41
abbrev n__law_odd : List Str := ["_law_state", "_law_dust", "_law_at", "_law_more"]
theorem sc__law_odd : FnScope ["_law_state", "_law_dust", "_law_at", "_law_more"] ["_law_state", "_law_dust"] (defScope s__law_odd) := ⟨rfl, rfl, rfl, by decide +kernel, rfl, by decide +kernel, by decide +kernel⟩
def spOdd (K : PySem.W.Frag) : Sp := fun vs H Q _ => ∃ st s F d, ∃ gs : List Int, vs = [.ref st, .ref d] ∧ H st = some (.lst s) ∧ StOk s ∧ Same F (del H st) ∧ SqT K F d (gs.map V.int) ∧ 1 ≤ gs.length ∧ gs.length ≤ 3 ∧
  ∀ p (gs' : List Int) F' H', SExt st F H F' H' → SqT K F' p (gs'.map V.int) → gs'.length = gs.length → Q (.ref p) H'
theorem ok_odd (B0 : Blt mg) (d__law_digit : Def P w K mg base 1 "_law_digit" ["_law_state", "_law_base"] (spDigit K)) (F : FunAt K mg "_law_odd" s__law_odd ["_law_state", "_law_dust"]) : Def P w K mg base 2 "_law_odd" ["_law_state", "_law_dust"] (spOdd K) := by
  refine F.def (k := 1) sc__law_odd (fun vs H Q E h => ?_) (fun f cdv A outer s H vs Q E hr h => ?_)
  · obtain ⟨st, s, F, d, gs, rfl, _⟩ := h
    rfl
  · obtain ⟨st, s, F, d, gs, rfl, hst, sok, hF, hd, g1, g3, q⟩ := h
    have B := B0
    have r0 : SExt st F H F H := SExt.refl hF hst sok
    refine ⟨_, (pss_cons (ps_set (i := 2) sc__law_odd.nd rfl (Or.inl rfl) (pe_d d__law_digit (hr.mono (by decide)) (by rfl) (pa_cons (pv 0) (pa_cons (pe_callB (k_len (K := K) rfl) (by rfl) B.len bb_len (pa_cons (pv 1) pa_nil)) pa_nil)))) (pss_cons (ps_set (i := 3) sc__law_odd.nd rfl (Or.inl rfl) (pe_ix (k_ix (K := K) rfl) (pe_lst (pa_cons pe_int (pa_cons (pe_un un_neg pe_int) (pa_cons (pe_op op_sub pe_int (pe_op opMulU pe_int (pe_ix (k_ix (K := K) rfl) (pv 1) (pv 2) (fun _ _ => rfl)))) (pa_cons pe_int (pa_cons (pe_op op_pow pe_int pe_int) pa_nil)))))) (pe_d d__law_digit (hr.mono (by decide)) (by rfl) (pa_cons (pv 0) (pa_cons pe_int pa_nil))) (fun _ _ => rfl))) (pss_one (ps_ret (pe_op (k_addA (K := K) rfl) (pe_op (k_addA (K := K) rfl) (pe_slice (k_sl (K := K) rfl) (pv 1) po_none (po_some (pv 2))) (pe_tup (pa_cons (pe_op (k_addA (K := K) rfl) (pe_ix (k_ix (K := K) rfl) (pv 1) (pv 2) (fun _ _ => rfl)) (pv 3)) pa_nil))) (pe_slice (k_sl (K := K) rfl) (pv 1) (po_some (pe_op (k_addA (K := K) rfl) (pv 2) pe_int)) po_none)))))), ?_⟩; refine start_eq (σ' := [some (.ref st), some (.ref d), none, none]) rfl ?_
    walk_at "rd"
    refine s_lenT (sqT_mono r0.fh hd) ?_
    rw [List.length_map]
    walk_at "rd"
    refine draw r0 (small_b (by omega) (by omega)) fun d0 H1 a0 b0 r1 _ => ?_
    obtain ⟨t, rfl⟩ : ∃ t : Nat, d0 = (t : Int) := ⟨d0.toNat, by omega⟩
    have tl : t < gs.length := by omega
    have dat : atI (gs.map V.int) (t : Int) = some (.int (gs.getD t 0)) := at_int tl
    walk_at "rd"
    refine s_ixT (sqT_mono r1.fh hd) dat ?_
    walk_at "rd"
    refine s_mulI (.inl ⟨by decide, by decide⟩) ?_
    walk_at "rd"
    refine s_I ⟨by decide, by decide, by decide⟩ ?_
    walk_at "rd"
    refine ⟨by show 5 ≤ sizeLine; decide, fun lp nlp => ?_⟩
    have r2 := r1.mut (o := .lst [.int 1, .int (-1), .int (0 - 2 * gs.getD t 0), .int 7, .int (10 ^ (20 : Int).toNat)]) nlp
    have hlp : (upd H1 lp (.lst [.int 1, .int (-1), .int (0 - 2 * gs.getD t 0), .int 7, .int (10 ^ (20 : Int).toNat)])) lp = some (.lst [.int 1, .int (-1), .int (0 - 2 * gs.getD t 0), .int 7, .int (10 ^ (20 : Int).toNat)]) := upd_same
    have lst : lp ≠ st := r1.ne nlp
    generalize upd H1 lp (.lst [.int 1, .int (-1), .int (0 - 2 * gs.getD t 0), .int 7, .int (10 ^ (20 : Int).toNat)]) = H2 at *
    walk_at "rd"
    refine draw r2 (small_b (by decide) (by decide)) fun d1 H3 a1 b1 r3 k3 => ?_
    have hlp3 := k3 _ _ lst hlp
    obtain ⟨more, hmore⟩ : ∃ more : Int, atI [V.int 1, .int (-1), .int (0 - 2 * gs.getD t 0), .int 7, .int (10 ^ (20 : Int).toNat)] d1 = some (.int more) := by
      have k5 : d1 = 0 ∨ d1 = 1 ∨ d1 = 2 ∨ d1 = 3 ∨ d1 = 4 := by omega
      rcases k5 with rfl | rfl | rfl | rfl | rfl <;> exact ⟨_, rfl⟩
    refine s_ixL (.inl (.inl hlp3)) hmore ?_
    walk_at "rd"
    refine s_cutT r3 hd (nw_hi tl) (cut_nat gs t) fun p1 F4 H4 r4 s4 hp1 => ?_
    walk_at "rd"
    refine s_ixT (sqT_mono (s4.trans r4.fh) hd) dat ?_
    walk_at "rd"
    refine .inl (s_addI ?_)
    walk_at "rd"
    refine ⟨by show 1 ≤ sizeLine; decide, fun p2 np2 => ?_⟩
    have r5 := r4.new (o := .tup [.int (gs.getD t 0 + more)]) np2
    have s5 : Same F4 (upd F4 p2 (.tup [.int (gs.getD t 0 + more)])) := same_upd (sub_none r4.fh np2)
    have hp2 : SqT K (upd F4 p2 (.tup [.int (gs.getD t 0 + more)])) p2 ([gs.getD t 0 + more].map V.int) := rT_at
    generalize upd F4 p2 (.tup [.int (gs.getD t 0 + more)]) = F5 at *
    generalize upd H4 p2 (.tup [.int (gs.getD t 0 + more)]) = H5 at *
    refine s_catA r5 (sqT_mono s5 hp1) hp2 (by simp; omega) fun p3 F6 H6 r6 s6 hp3 => ?_
    have s36 := s4.trans (s5.trans s6)
    walk_at "rd"
    refine .inl (s_addI ?_)
    walk_at "rd"
    refine s_cutT (lo := some ((t : Int) + 1)) (ms := gs.drop (t + 1)) r6 (sqT_mono s36 hd) (nw_lo (k := t + 1) (by omega) g1) (cut_from gs (t + 1) (by omega)) fun p4 F7 H7 r7 s7 hp4 => ?_
    refine s_catA r7 (sqT_mono s7 hp3) hp4 (by simp; omega) fun p5 F8 H8 r8 s8 hp5 => ?_
    have e : (gs.take t).map V.int ++ [gs.getD t 0 + more].map V.int ++ (gs.drop (t + 1)).map V.int = (gs.take t ++ [gs.getD t 0 + more] ++ gs.drop (t + 1)).map V.int := by simp
    rw [e] at hp5
    exact q p5 _ _ _ r8 hp5 (by simp; omega)
end
end G

namespace G
open PySem PySem.Spec PyProof.Rows L2
local macro_rules | `(tactic| walk_at "lk") => `(tactic| first | assumption | exact rT_at | exact rL_at | exact upd_same | (refine sqT_mono ?_ (by assumption); assumption) | (refine sqL_mono ?_ (by assumption); assumption) | (refine rT_new (by assumption) ?_; walk_at "lk") | (refine rL_new (by assumption) ?_; walk_at "lk") | (refine rH_new (by assumption) ?_; walk_at "lk") | (refine rD_new (by assumption) ?_; walk_at "lk") | (refine dp_mono ?_ (by assumption); assumption))
local macro_rules | `(tactic| walk_at "r1") => `(tactic| first | ((with_reducible show tVar _ _ _ _); refine s_var rfl ?_) | with_reducible refine s_c ?_ | with_reducible refine s_op ?_ | with_reducible refine s_un ?_ | with_reducible refine s_neg ?_ | with_reducible refine s_test ?_ | with_reducible refine s_B ?_ | with_reducible refine s_bl ?_ | with_reducible refine s_not ?_ | with_reducible refine s_yes ?_ | with_reducible refine s_and ?_ | with_reducible refine s_or ?_ | with_reducible refine s_notV ?_ | with_reducible refine s_andV ?_ | with_reducible refine s_orV ?_ | with_reducible refine s_if ?_ | with_reducible refine s_cT ?_ | with_reducible refine s_cF ?_ | with_reducible refine s_nT ?_ | with_reducible refine s_nF ?_ | with_reducible refine s_addI ?_ | with_reducible refine s_eqI ?_ | with_reducible refine s_neI ?_ | with_reducible refine s_eqB ?_ | with_reducible refine s_neB ?_ | with_reducible refine s_I0 ?_ | with_reducible refine s_non ?_ | with_reducible refine s_int ?_ | with_reducible refine s_chain ?_ | with_reducible refine s_cons ?_ | with_reducible refine s_nil ?_ | with_reducible refine s_call ?_ | with_reducible refine s_cb ?_ | with_reducible refine s_meth ?_ | with_reducible refine s_make ?_ | with_reducible refine s_tup ?_ | with_reducible refine s_lst ?_ | with_reducible refine s_bm ?_ | with_reducible refine s_bm0 ?_ | with_reducible refine s_bmT ?_ | with_reducible refine s_fld ?_ | with_reducible refine s_dget ?_ | with_reducible refine s_sl ?_ | with_reducible refine s_part ?_ | with_reducible refine s_nopart ?_ | with_reducible refine s_seq ?_ | with_reducible refine s_next ?_ | with_reducible refine s_asg ?_ | with_reducible refine s_gn ?_ | with_reducible refine s_gc ?_ | with_reducible refine s_g0 ?_ | with_reducible refine s_gs ?_ | with_reducible refine s_ret ?_ | with_reducible refine s_ifS ?_ | with_reducible refine s_drop ?_ | with_reducible refine s_augS ?_ | ((with_reducible show tAug _ _ _ _ _ _); refine s_aug rfl ?_) | with_reducible refine s_ipI ?_ | with_reducible refine s_for ?_ | with_reducible refine s_iseq ?_ | with_reducible refine s_rng1 ?_ | with_reducible refine s_izip ?_ | with_reducible refine s_lc ?_ | with_reducible refine s_lc2 ?_ | with_reducible refine s_lstRg ?_ | with_reducible refine s_rg1 ?_ | with_reducible refine s_sfld ?_ | with_reducible refine s_ienum ?_ | with_reducible refine s_disp ?_ | with_reducible refine s_pc ?_ | with_reducible refine s_pn ?_)
local macro_rules | `(tactic| walk_at "rd") => `(tactic| repeat walk_at "r1")

theorem SExt.add2 {st p1 p2 : Addr} {F0 H0 F H H' : Hp} {o1 o2 : HO} (r : SExt st F0 H0 F H) (s : Same H H') (n1 : H p1 = none) (n2 : H p2 = none) (h1 : H' p1 = some o1) (h2 : H' p2 = some o2) : SExt st F0 H0 (upd (upd F p1 o1) p2 o2) H' := by
  have f1 : F p1 = none := sub_none r.fh n1
  have f2 : F p2 = none := sub_none r.fh n2
  have s1 : Same F (upd F p1 o1) := same_upd f1
  refine r.pure ⟨s, same_updR s1 f2, same_add (same_add (r.fh.trans s) h1) h2, fun b hb hf => ?_⟩
  rw [upd_ne (fun z => hb (by rw [z]; exact n2)), upd_ne (fun z => hb (by rw [z]; exact n1))]
  exact hf
theorem s_repT {K : PySem.W.Frag} {st z : Addr} {F0 H0 F H : Hp} {n : Nat} {Q : VK} (r : SExt st F0 H0 F H) (hz : SqT K F z [.int 0]) (h1 : 1 ≤ n) (h2 : n ≤ 1000) (q : ∀ p F' H', SExt st F0 H0 F' H' → Same F F' → SqT K F' p ((List.replicate n (0 : Int)).map V.int) → Q (.ref p) H') : rRepT K (.ref z) (.int (n : Int)) H Q ∨ rRep1 K (.ref z) (.int (n : Int)) H Q := by
  by_cases h : n = 1
  · subst h
    exact .inr ⟨z, _, rfl, rfl, sqT_mono r.fh hz, q z F H r (Same.refl _) hz⟩
  · refine .inl ⟨z, (n : Int), [.int 0], rfl, rfl, sqT_mono r.fh hz, by simp, by omega, by omega, by decide, fun p np => ?_⟩
    have e : (List.replicate (n : Int).toNat [V.int 0]).flatten = (List.replicate n (0 : Int)).map V.int := by
      rw [Int.toNat_natCast, List.map_replicate]
      clear h h1 h2 q
      induction n with
      | zero => rfl
      | succ n ih => rw [List.replicate_succ, List.flatten_cons, ih, List.replicate_succ]; rfl
    rw [e]
    exact q p _ _ (r.new np) (same_upd (sub_none r.fh np)) rT_at
section
variable {P : Program} {w : World} {K : PySem.W.Frag} {mg : Str → Option Value} {base : Heap} {C : Addr}
abbrev s_law : Stmt := topS 42
abbrev n_law : List Str := ["_law_script", "_law_cell", "_law_state", "_law_model", "_law_bench_here", "_law_k", "_law_number", "_law_heights", "_law_dust", "_law_other", "_law_nought", "_law_here", "_law_dusts", "_law_some", "_law_bads", "_law_one"]
theorem sc_law : FnScope ["_law_script", "_law_cell", "_law_state", "_law_model", "_law_bench_here", "_law_k", "_law_number", "_law_heights", "_law_dust", "_law_other", "_law_nought", "_law_here", "_law_dusts", "_law_some", "_law_bads", "_law_one"] ["_law_script"] (defScope s_law) := ⟨rfl, rfl, rfl, by decide +kernel, rfl, by decide +kernel, by decide +kernel⟩
/-- a tuple of so many whole numbers -/
def IsDust (K : PySem.W.Frag) (F : Hp) (n : Nat) (v : V) : Prop := ∃ d, ∃ gs : List Int, v = .ref d ∧ SqT K F d (gs.map V.int) ∧ gs.length = n
theorem IsDust.mono {F F' : Hp} {n : Nat} {v : V} (e : Same F F') (h : IsDust K F n v) : IsDust K F' n v := by
  obtain ⟨d, gs, rfl, h1, h2⟩ := h
  exact ⟨d, gs, rfl, sqT_mono e h1, h2⟩
theorem ok_law (B0 : Blt mg) (T : Txt K mg C) (d__law_digit : Def P w K mg base 1 "_law_digit" ["_law_state", "_law_base"] (spDigit K)) (d__law_bench : Def P w K mg base 2 "_law_bench" ["_law_state", "_law_plates", "_law_places"] (spBench K)) (d__law_program : Def P w K mg base 7 "_law_program" ["_law_model"] (spProgram K C))
    (d__law_stand : Def P w K mg base 2 "_law_stand" ["_law_state", "_law_model", "_law_most"] (spStand K)) (d__law_ground : Def P w K mg base 2 "_law_ground" ["_law_model", "_law_heights", "_law_number"] (spLGround K)) (d__law_odd : Def P w K mg base 2 "_law_odd" ["_law_state", "_law_dust"] (spOdd K))
    (d__law_said : Def P w K mg base 6 "_law_said" ["_law_bench_here", "_law_heights", "_law_number", "_law_dust"] (spSaid K C)) (d__law_due : Def P w K mg base 3 "_law_due" ["_law_model", "_law_heights", "_law_number", "_law_dust"] (spDue K))
    {f : Addr} {fd : FuncData} (F : Fun K "law" "law" s_law f fd) : FnOk P w K mg base CX0 10 f fd ["_law_script"] (spLaw K) := by
  refine F.ok (k := 9) sc_law (fun vs H Q E h => ?_) (fun cdv A outer s H vs Q E hr h => ?_)
  · obtain ⟨a, ns, rfl, _⟩ := h
    rfl
  · obtain ⟨a, ns, rfl, hS, hlen, q⟩ := h
    have B := B0
    refine ⟨_, (pss_cons (ps_for PassesOwn.never rfl (k_seq (K := K) rfl (pe_op (k_addA (K := K) rfl) (pe_lst (pa_cons pe_int (pa_cons pe_int (pa_cons pe_int (pa_cons pe_int pa_nil))))) (pe_slice (k_sl (K := K) rfl) (pv 0) po_none (po_some pe_int)))) (pg_name (i := 1) sc_law.nd rfl (Or.inl rfl)) (pss_cons (ps_set (i := 2) sc_law.nd rfl (Or.inl rfl) (pe_lst (pa_cons (pv 1) pa_nil))) (pss_cons (ps_set (i := 3) sc_law.nd rfl (Or.inl rfl) (pe_d d__law_bench (hr.mono (by decide)) (by rfl) (pa_cons (pv 2) (pa_cons pe_int (pa_cons pe_int pa_nil))))) (pss_cons (ps_set (i := 4) sc_law.nd rfl (Or.inr rfl) (pe_d d__law_program (hr.mono (by decide)) (by rfl) (pa_cons (pv 3) pa_nil))) (pss_one (ps_for PassesOwn.never rfl (pi_range1 (by rfl) B.range (pa_cons pe_int pa_nil)) (pg_name (i := 5) sc_law.nd rfl (Or.inl rfl)) (pss_cons (ps_set (i := 6) sc_law.nd rfl (Or.inr rfl) (pe_d d__law_digit (hr.mono (by decide)) (by rfl) (pa_cons (pv 2) (pa_cons (pe_callB (k_len (K := K) rfl) (by rfl) B.len bb_len (pa_cons (pe_dget (hu_of hr) (pv 3) pe_str (fun _ _ => rfl)) pa_nil)) pa_nil)))) (pss_cons (ps_asg (pe_d d__law_ground (hr.mono (by decide)) (by rfl) (pa_cons (pv 3) (pa_cons (pe_d d__law_stand (hr.mono (by decide)) (by rfl) (pa_cons (pv 2) (pa_cons (pv 3) (pa_cons pe_int pa_nil)))) (pa_cons (pv 6) pa_nil)))) (k_tup (K := K) (n := 2) rfl rfl (pgs_cons (pg_name (i := 7) sc_law.nd rfl (Or.inr rfl)) (pgs_cons (pg_name (i := 8) sc_law.nd rfl (Or.inl rfl)) pgs_nil)))) (pss_cons (ps_set (i := 9) sc_law.nd rfl (Or.inl rfl) (pe_d d__law_stand (hr.mono (by decide)) (by rfl) (pa_cons (pv 2) (pa_cons (pv 3) (pa_cons (pe_ix (k_ix (K := K) rfl) (pe_lst (pa_cons pe_int (pa_cons pe_int pa_nil))) (pe_d d__law_digit (hr.mono (by decide)) (by rfl) (pa_cons (pv 2) (pa_cons pe_int pa_nil))) (fun _ _ => rfl)) pa_nil))))) (pss_cons (ps_set (i := 10) sc_law.nd rfl (Or.inl rfl) (pe_op (k_repT (K := K) rfl) (pe_tup (pa_cons pe_int pa_nil)) (pe_callB (k_len (K := K) rfl) (by rfl) B.len bb_len (pa_cons (pv 8) pa_nil)))) (pss_cons (ps_for PassesOwn.never rfl (k_seq (K := K) rfl (pe_lst (pa_cons (pv 7) (pa_cons (pv 9) pa_nil)))) (pg_name (i := 11) sc_law.nd rfl (Or.inl rfl)) (pss_cons (ps_set (i := 12) sc_law.nd rfl (Or.inl rfl) (pe_lst (pa_cons (pv 8) (pa_cons (pe_d d__law_odd (hr.mono (by decide)) (by rfl) (pa_cons (pv 2) (pa_cons (pv 8) pa_nil))) (pa_cons (pv 10) (pa_cons (pe_d d__law_odd (hr.mono (by decide)) (by rfl) (pa_cons (pv 2) (pa_cons (pv 10) pa_nil))) pa_nil)))))) (pss_one (ps_for PassesOwn.never rfl (k_seq (K := K) rfl (pe_op (k_addA (K := K) rfl) (pv 12) (pe_lst (pa_cons (pe_callTy (k_tuple (K := K) rfl) (by rfl) B.tuple bb_tuple (pa_cons (pe_lc (own := [("_law_one", 15)]) rfl sc_law.nd (k_seq (K := K) rfl (pv 8)) (blkOk_by (own := [("_law_one", 15)]) (N := n_law) (sc := defScope s_law) (by decide +kernel)) (fun _ _ _ _ _ => (pg_name (i := 15) sc_law.nd rfl (Or.inl rfl))) (fun _ _ _ _ _ => pts_nil) (fun _ _ _ _ _ => (pe_op op_sub pe_int (pv 15)))) pa_nil)) pa_nil)))) (pg_name (i := 13) sc_law.nd rfl (Or.inl rfl)) (pss_one (ps_if (pt_cmpR (k_ne (K := K) rfl hr.units) (pe_d d__law_said (hr.mono (by decide)) (by rfl) (pa_cons (pv 4) (pa_cons (pv 11) (pa_cons (pv 6) (pa_cons (pv 13) pa_nil))))) (pe_d d__law_due (hr.mono (by decide)) (by rfl) (pa_cons (pv 3) (pa_cons (pv 11) (pa_cons (pv 6) (pa_cons (pv 13) pa_nil))))) (nomark _)) (pss_one (ps_ret pe_bl)) pss_nil)))))) (pss_cons (ps_set (i := 14) sc_law.nd rfl (Or.inl rfl) (pe_lst (pa_cons pe_non (pa_cons (pe_callTy (k_list (K := K) rfl) (by rfl) B.list bb_list (pa_cons (pv 8) pa_nil)) (pa_cons (pe_op (k_addA (K := K) rfl) (pv 8) (pe_tup (pa_cons pe_int pa_nil))) (pa_cons (pe_slice (k_sl (K := K) rfl) (pv 8) (po_some pe_int) po_none) (pa_cons (pe_op (k_addA (K := K) rfl) (pe_slice (k_sl (K := K) rfl) (pv 8) (po_some pe_int) po_none) (pe_tup (pa_cons pe_bl pa_nil))) (pa_cons (pe_op (k_addA (K := K) rfl) (pe_slice (k_sl (K := K) rfl) (pv 8) (po_some pe_int) po_none) (pe_tup (pa_cons pe_non pa_nil))) (pa_cons pe_int (pa_cons pe_str pa_nil)))))))))) (pss_one (ps_if (pt_cmpR (k_ne (K := K) rfl hr.units) (pe_lc (own := [("_law_one", 15)]) rfl sc_law.nd (k_seq (K := K) rfl (pv 14)) (blkOk_by (own := [("_law_one", 15)]) (N := n_law) (sc := defScope s_law) (by decide +kernel)) (fun _ _ _ _ _ => (pg_name (i := 15) sc_law.nd rfl (Or.inl rfl))) (fun _ _ _ _ _ => (pts_one (pt_cmpR (k_ne (K := K) rfl hr.units) (pe_d d__law_said (hr.mono (by decide)) (by rfl) (pa_cons (pv 4) (pa_cons (pv 7) (pa_cons (pv 6) (pa_cons (pv 15) pa_nil))))) pe_str (nomark _)))) (fun _ _ _ _ _ => (pv 15))) (pe_lst pa_nil) (nomark _)) (pss_one (ps_ret pe_bl)) pss_nil)))))))))))))) (pss_one (ps_ret pe_bl))), ?_⟩; refine start_eq (σ' := [some (.ref a), none, none, none, none, none, none, none, none, none, none, none, none, none, none, none]) rfl ?_
    walk_at "rd"
    refine ⟨by show 4 ≤ sizeLine; decide, fun c1 n1 => ?_⟩
    walk_at "rd"
    refine .inl ⟨a, _, rfl, rL_new n1 hS, fun c2 n2 => ?_⟩
    rw [show cutV (ns.map V.int) none (some 8) = (ns.take 8).map V.int from cut_nat ns 8]
    refine .inl (.inr (.inl ⟨c1, c2, _, _, rfl, rfl, rH_new n2 upd_same, upd_same, ?_, fun c3 n3 => ?_⟩))
    · refine Nat.le_trans (show _ ≤ 100 by simp; omega) (by decide)
    have hc3 : ∀ (X : Hp), (upd X c3 (.lst ([V.int 0, .int 1, .int 2, .int 3] ++ (ns.take 8).map V.int))) c3 = some (.lst ([V.int 0, .int 1, .int 2, .int 3] ++ (ns.take 8).map V.int)) := fun X => upd_same
    have hc3 := hc3 (upd (upd H c1 (.lst [.int 0, .int 1, .int 2, .int 3])) c2 (.lst ((ns.take 8).map V.int)))
    generalize upd (upd (upd H c1 (.lst [.int 0, .int 1, .int 2, .int 3])) c2 (.lst ((ns.take 8).map V.int))) c3 (.lst ([V.int 0, .int 1, .int 2, .int 3] ++ (ns.take 8).map V.int)) = H0 at *
    have allI : ∀ v ∈ ([V.int 0, .int 1, .int 2, .int 3] ++ (ns.take 8).map V.int), ∃ n : Int, v = .int n := fun v hv => by
      rcases List.mem_append.mp hv with hv | hv
      · simp only [List.mem_cons, List.not_mem_nil, or_false] at hv
        rcases hv with rfl | rfl | rfl | rfl <;> exact ⟨_, rfl⟩
      · obtain ⟨n, _, rfl⟩ := List.mem_map.mp hv
        exact ⟨n, rfl⟩
    generalize ([V.int 0, .int 1, .int 2, .int 3] ++ (ns.take 8).map V.int) = cs at *
    refine .inl ⟨c3, rfl, ⟨_, .inl (.inl hc3)⟩, ?_⟩
    refine for_w (walk_list (xs := cs)) (fun i σ Hx => ∃ y1 y2 y3 y4 y5 y6 y7 y8 y9 y10 y11 y12 y13 y14, σ = [some (.ref a), y1, y2, y3, y4, y5, y6, y7, y8, y9, y10, y11, y12, y13, y14, none] ∧ Hx c3 = some (.lst cs)) ?_ ?_ ?_ ?_
    · exact ⟨_, _, _, _, _, _, _, _, _, _, _, _, _, _, rfl, hc3⟩
    · rintro i σ Hx _ ⟨_, _, _, _, _, _, _, _, _, _, _, _, _, _, _, e⟩
      exact .inl (.inl e)
    · rintro i v σ Hx Hy hi ⟨y1, y2, y3, y4, y5, y6, y7, y8, y9, y10, y11, y12, y13, y14, rfl, e⟩ ⟨rfl, hv⟩
      obtain ⟨cell, rfl⟩   := allI v (List.mem_of_getElem? hv)
      walk_at "rd"
      refine ⟨by show 1 ≤ sizeLine; decide, fun st nst => ?_⟩
      have hst : (upd Hy st (.lst [.int cell])) st = some (.lst [.int cell]) := upd_same
      have sF : Same Hy (del (upd Hy st (.lst [.int cell])) st) := by rw [del_upd]; exact del_none nst
      have hc4 : (upd Hy st (.lst [.int cell])) c3 = some (.lst cs) := rH_new nst e
      have cst : c3 ≠ st := fun z => by rw [z, nst] at e; cases e
      generalize upd Hy st (.lst [.int cell]) = H1 at *
      walk_at "rd"
      refine ⟨st, _, Hy, 4, 3, rfl, by decide, by decide, by decide, by decide, hst, .inl ⟨cell, rfl⟩, sF, fun m B1 F2 H2 ok _ _ r2 hm => ?_⟩
      walk_at "rd"
      refine ⟨m, B1, F2, rfl, r2.fh, ok, hm, fun b F3 H3 e3 hb => ?_⟩
      have r3 := r2.pure e3
      have hm3 := hm.mono e3.ff
      have tl := ok.told
      have ml := B1.meets_len
      walk_at "rd"
      refine ⟨_, rfl, by decide, by decide, ?_⟩
      refine for_w walk_range (fun j σ Hz => ∃ y5 y6 y7 y8 y9 y10 y11 y12 y13 y14 Fz, σ = [some (.ref a), some (.int cell), some (.ref st), some (.ref m), some (.ref b), y5, y6, y7, y8, y9, y10, y11, y12, y13, y14, none] ∧ SExt st Hy H1 Fz Hz ∧ Same F3 Fz) ?_ ?_ ?_ ?_
      · exact ⟨_, _, _, _, _, _, _, _, _, _, F3, rfl, r3, Same.refl _⟩
      · intro _ _ _ _ _
        trivial
      · rintro j x σ Hz Hz' hj ⟨y5, y6, y7, y8, y9, y10, y11, y12, y13, y14, Fz, rfl, rz, sz⟩ ⟨rfl, rfl⟩
        obtain ⟨l1, l2, l3, l4, hd, h1, h2, h3, h4⟩ := hm3.ex
        obtain ⟨mx, hmx, hma⟩ := dp_list h4
        have mlen : mx.length = B1.meets.length := by rw [dpAll_len hma, List.length_map]
        have s3z := sz.trans rz.fh
        have pl := ok.places
        have go : ∀ most : Int, 0 ≤ most → most < 2 ^ 200 → ∀ (F' : Hp) (H' : Hp), SExt st Hy H1 F' H' → Same F3 F' → ∀ R : VK, (∀ p (hs : List Int) F2 H2, SExt st Hy H1 F2 H2 → Same F' F2 → F2 p = some (.tup (hs.map V.int)) → hs.length = B1.heavy.length → R (.ref p) H2) → spStand K [.ref st, .ref m, .int most] H' R E0 := fun most m0 m1 F' H' r' s' R hR => by
          obtain ⟨s5, hs5, ok5⟩ := r'.st
          exact ⟨st, s5, F', m, B1, most, rfl, m0, m1, hs5, ok5, r'.ext.fh, ok, hm3.mono s', fun p hs F2 H2 r2 fp hl _ => hR p hs F2 H2 (r'.trans r2) r2.ext.ff fp hl⟩
        have goO : ∀ (F' H' : Hp), SExt st Hy H1 F' H' → ∀ (d : Addr) (gs : List Int), SqT K F' d (gs.map V.int) → gs.length = B1.places → ∀ R : VK, (∀ p F2 H2, SExt st Hy H1 F2 H2 → Same F' F2 → IsDust K F2 B1.places (.ref p) → R (.ref p) H2) → spOdd K [.ref st, .ref d] H' R E0 := fun F' H' r' d gs hd hl R hR => by
          obtain ⟨s5, hs5, ok5⟩ := r'.st
          exact ⟨st, s5, F', d, gs, rfl, hs5, ok5, r'.ext.fh, hd, by omega, by omega, fun p gs' F2 H2 r2 hp hl2 => hR p F2 H2 (r'.trans r2) r2.ext.ff ⟨p, gs', rfl, hp, by omega⟩⟩
        walk_at "rd"
        refine s_dgk (s3z _ _ hd) mv_meets ?_
        walk_at "rd"
        refine s_lenL (sqL_mono s3z hmx) ?_
        rw [mlen]
        walk_at "rd"
        refine draw rz (small_b (by omega) (by omega)) fun d5 H5 a5 b5 r5 k5 => ?_
        obtain ⟨k, rfl⟩ : ∃ k : Nat, d5 = (k : Int) := ⟨d5.toNat, by omega⟩
        have kl : k < B1.meets.length := by omega
        have rm : B1.meets.getD k [] ∈ B1.meets := by
          rw [List.getD_eq_getElem?_getD, List.getElem?_eq_getElem kl]
          exact List.getElem_mem _
        have rlen := ok.row_len rm
        have dlen : ∀ hs : List Int, (dust B1.heavy hs (B1.meets.getD k [])).length = B1.places := fun hs => by rw [dust, List.length_map]; exact rlen
        walk_at "rd"
        refine go 30 (by decide) (by decide) _ _ r5 sz _ fun hp0 hs0 F6 H6 r6 s6 fp0 hl0 => ?_
        have s36 := sz.trans s6
        walk_at "rd"
        refine ⟨m, B1, hp0, hs0, _, k, rfl, (show LB K H6 m hp0 B1 hs0 from ⟨ok, (hm3.mono s36).mono r6.fh, .inl (.inl (r6.fh _ _ fp0)), hl0⟩).at kl, fun H7 p p1 p2 s7 np np1 np2 e0 e1 e2 => ?_⟩
        have r7 := r6.add2 s7 np1 np2 e1 e2
        walk_at "rd"
        refine s_gt (.inl (.inl e0)) rfl ?_
        have al : (after B1.heavy hs0 (B1.meets.getD k [])).length = B1.heavy.length := by rw [after_len]; exact hl0
        generalize hgA : after B1.heavy hs0 (B1.meets.getD k []) = hsA at *
        have dl := dlen hs0
        generalize dust B1.heavy hs0 (B1.meets.getD k []) = gs at *
        have s67 : Same F6 (upd (upd F6 p1 (.tup (hsA.map V.int))) p2 (.tup (gs.map V.int))) := same_updR (same_upd (sub_none r6.fh np1)) (sub_none r6.fh np2)
        have g2 : (upd (upd F6 p1 (.tup (hsA.map V.int))) p2 (.tup (gs.map V.int))) p2 = some (.tup (gs.map V.int)) := upd_same
        have g1 : SqT K (upd (upd F6 p1 (.tup (hsA.map V.int))) p2 (.tup (gs.map V.int))) p1 (hsA.map V.int) := by
          by_cases z : p1 = p2
          · subst z
            have hh := e1.symm.trans e2
            rw [← hh] at g2
            exact .inl (.inl g2)
          · exact .inl (.inl (by rw [upd_ne z, upd_same]))
        have gd : SqT K (upd (upd F6 p1 (.tup (hsA.map V.int))) p2 (.tup (gs.map V.int))) p2 (gs.map V.int) := .inl (.inl g2)
        generalize upd (upd F6 p1 (.tup (hsA.map V.int))) p2 (.tup (gs.map V.int)) = F7 at *
        have s37 := s36.trans s67
        walk_at "rd"
        refine ⟨by show 2 ≤ sizeLine; decide, fun lp nlp => ?_⟩
        have r8 := r7.mut (o := .lst [.int 3, .int 30]) nlp
        have hlp : (upd H7 lp (.lst [.int 3, .int 30])) lp = some (.lst [.int 3, .int 30]) := upd_same
        have lst : lp ≠ st := r7.ne nlp
        generalize upd H7 lp (.lst [.int 3, .int 30]) = H8 at *
        walk_at "rd"
        refine draw r8 (small_b (by decide) (by decide)) fun d9 H9 a9 b9 r9 k9 => ?_
        have hlp9 := k9 _ _ lst hlp
        obtain ⟨most, hmost, m0, m1⟩ : ∃ most : Int, atI [V.int 3, .int 30] d9 = some (.int most) ∧ 0 ≤ most ∧ most < 2 ^ 200 := by
          have k3 : d9 = 0 ∨ d9 = 1 := by omega
          rcases k3 with rfl | rfl
          · exact ⟨3, rfl, by decide, by decide⟩
          · exact ⟨30, rfl, by decide, by decide⟩
        refine s_ixL (.inl (.inl hlp9)) hmost ?_
        walk_at "rd"
        refine go most m0 m1 _ _ r9 s37 _ fun hp2 hs2 F10 H10 r10 s10 fp2 hl2 => ?_
        have gd10 := sqT_mono s10 gd
        have g110 := sqT_mono s10 g1
        walk_at "rd"
        refine ⟨by show 1 ≤ sizeLine; decide, fun z0 nz0 => ?_⟩
        have r11 := r10.new (o := .tup [.int 0]) nz0
        have s11 : Same F10 (upd F10 z0 (.tup [.int 0])) := same_upd (sub_none r10.fh nz0)
        have hz0 : SqT K (upd F10 z0 (.tup [.int 0])) z0 [.int 0] := rT_at
        generalize upd F10 z0 (.tup [.int 0]) = F11 at *
        generalize upd H10 z0 (.tup [.int 0]) = H11 at *
        have gd11 := sqT_mono s11 gd10
        have g111 := sqT_mono s11 g110
        walk_at "rd"
        refine s_lenT (sqT_mono r11.fh gd11) ?_
        rw [List.length_map, dl]
        refine s_repT r11 hz0 (by omega) (by omega) fun zp F12 H12 r12 s12 hzp => ?_
        have gd12 := sqT_mono s12 gd11
        have g112 := sqT_mono s12 g111
        have fp12 := s12 _ _ (s11 _ _ fp2)
        have s312 := ((s37.trans s10).trans s11).trans s12
        walk_at "rd"
        refine ⟨by show 2 ≤ sizeLine; decide, fun lh nlh => ?_⟩
        have r13 := r12.new (o := .lst [.ref p1, .ref hp2]) nlh
        have s13 : Same F12 (upd F12 lh (.lst [.ref p1, .ref hp2])) := same_upd (sub_none r12.fh nlh)
        have f13 : (upd F12 lh (.lst [.ref p1, .ref hp2])) lh = some (.lst [.ref p1, .ref hp2]) := upd_same
        generalize upd F12 lh (.lst [.ref p1, .ref hp2]) = F13 at *
        generalize upd H12 lh (.lst [.ref p1, .ref hp2]) = H13 at *
        have gd13 := sqT_mono s13 gd12
        have hz13 := sqT_mono s13 hzp
        have s313 := s312.trans s13
        have zl : (List.replicate B1.places (0 : Int)).length = B1.places := List.length_replicate
        walk_at "rd"
        refine .inl ⟨lh, rfl, ⟨_, .inl (.inl (r13.fh _ _ f13))⟩, ?_⟩
        refine for_w (walk_list (xs := [.ref p1, .ref hp2])) (fun i σ Hq => ∃ y11 y12 y13 y14 Fq, σ = [some (.ref a), some (.int cell), some (.ref st), some (.ref m), some (.ref b), some (.int (0 + (j : Int))), some (.int k), some (.ref p1), some (.ref p2), some (.ref hp2), some (.ref zp), y11, y12, y13, y14, none] ∧ SExt st Hy H1 Fq Hq ∧ Same F13 Fq) ?_ ?_ ?_ ?_
        · exact ⟨_, _, _, _, F13, rfl, r13, Same.refl _⟩
        · rintro i σ Hq _ ⟨_, _, _, _, Fq, _, rq, sq⟩
          exact .inl (.inl (rq.fh _ _ (sq _ _ f13)))
        · rintro i x σ Hq Hq' hi ⟨y11, y12, y13, y14, Fq, rfl, rq, sq⟩ ⟨rfl, hx⟩
          obtain ⟨hd0, hsx, rfl, hsq, hlx⟩ : ∃ (hd0 : Addr) (hsx : List Int), x = .ref hd0 ∧ SqT K F13 hd0 (hsx.map V.int) ∧ hsx.length = B1.heavy.length := by
            rcases i with _ | _ | i
            · cases hx
              exact ⟨_, hsA, rfl, sqT_mono s13 g112, al⟩
            · cases hx
              exact ⟨_, hs2, rfl, .inl (.inl (s13 _ _ fp12)), hl2⟩
            · simp at hx
          walk_at "rd"
          refine goO _ _ rq p2 gs (sqT_mono sq gd13) dl _ fun o1 F14 H14 r14 s14 ho1 => ?_
          walk_at "rd"
          refine goO _ _ r14 zp _ (sqT_mono (sq.trans s14) hz13) zl _ fun o2 F15 H15 r15 s15 ho2 => ?_
          have s1315 := (sq.trans s14).trans s15
          walk_at "rd"
          refine ⟨by show 4 ≤ sizeLine; decide, fun ld nd => ?_⟩
          have r16 := r15.new (o := .lst [.ref p2, .ref o1, .ref zp, .ref o2]) nd
          have s16 : Same F15 (upd F15 ld (.lst [.ref p2, .ref o1, .ref zp, .ref o2])) := same_upd (sub_none r15.fh nd)
          have f16 : (upd F15 ld (.lst [.ref p2, .ref o1, .ref zp, .ref o2])) ld = some (.lst [.ref p2, .ref o1, .ref zp, .ref o2]) := upd_same
          generalize upd F15 ld (.lst [.ref p2, .ref o1, .ref zp, .ref o2]) = F16 at *
          generalize upd H15 ld (.lst [.ref p2, .ref o1, .ref zp, .ref o2]) = H16 at *
          have s1316 := s1315.trans s16
          have gd16 := sqT_mono s1316 gd13
          walk_at "rd"
          refine .inr ⟨p2, rfl, ⟨_, sqT_mono r16.fh gd16⟩, ?_⟩
          refine lc_map (walk_tup (xs := gs.map V.int)) (F := F16) r16.fh (by rw [List.length_map]; omega) (fun H' e' => sqT_mono e' gd16) (fun i _ v => ∃ x, gs[i]? = some x ∧ v = .int (0 - x)) (fun _ _ _ _ _ h => h) (fun i2 x2 F' Ha Hb D Z hi2 ex _ _ hy hz => ?_) (fun D zs F17 H17 hD ex hdz hlz hR => ?_)
          · obtain ⟨rfl, hx2⟩ := hy
            have il : i2 < gs.length := by simpa using hi2
            have hgi : gs[i2]? = some gs[i2] := List.getElem?_eq_getElem il
            have hx' : x2 = .int gs[i2] := by
              rw [List.getElem?_map, hgi] at hx2
              exact (Option.some.inj hx2).symm
            subst hx'
            walk_at "rd"
            refine ⟨rfl, ?_⟩
            walk_at "rd"
            exact hz _ F' _ (Ext.refl ex.fh) ⟨_, hgi, rfl⟩
          · have hys : zs = (gs.map fun g => 0 - g).map V.int := by
              refine List.ext_getElem? fun i => ?_
              cases hv : zs[i]? with
              | none =>
                have : zs.length ≤ i := List.getElem?_eq_none_iff.mp hv
                rw [List.length_map] at hlz
                rw [List.getElem?_eq_none (by simp; omega)]
              | some v =>
                obtain ⟨x, h1, rfl⟩ := hR i v hv
                simp [h1]
            subst hys
            have r17 := r16.pure ex
            walk_at "rd"
            refine s_tupleL (.inl (.inl (ex.fh _ _ hdz))) fun t nt => ?_
            have r18 := r17.new (o := .tup ((gs.map fun g => 0 - g).map V.int)) nt
            have s18 : Same F17 (upd F17 t (.tup ((gs.map fun g => 0 - g).map V.int))) := same_upd (sub_none r17.fh nt)
            have f18 : (upd F17 t (.tup ((gs.map fun g => 0 - g).map V.int))) t = some (.tup ((gs.map fun g => 0 - g).map V.int)) := upd_same
            generalize upd F17 t (.tup ((gs.map fun g => 0 - g).map V.int)) = F18 at *
            generalize upd H17 t (.tup ((gs.map fun g => 0 - g).map V.int)) = H18 at *
            have s1618 := ex.ff.trans s18
            walk_at "rd"
            refine ⟨by show 1 ≤ sizeLine; decide, fun lt nlt => ?_⟩
            refine .inl (.inr (.inl ⟨ld, lt, _, _, rfl, rfl, rH_new nlt (r18.fh _ _ (s1618 _ _ f16)), upd_same, by show 5 ≤ sizeLine; decide, fun lc nlc => ?_⟩))
            have s19 : Same F18 (upd (upd H18 lt (.lst [.ref t])) lc (.lst ([.ref p2, .ref o1, .ref zp, .ref o2] ++ [.ref t]))) := (r18.fh.trans (same_upd nlt)).trans (same_upd nlc)
            have e19 : Ext F18 H18 F18 (upd (upd H18 lt (.lst [.ref t])) lc (.lst ([.ref p2, .ref o1, .ref zp, .ref o2] ++ [.ref t]))) := Ext.same r18.fh ((same_upd nlt).trans (same_upd nlc))
            have hlc : (upd (upd H18 lt (.lst [.ref t])) lc (.lst ([.ref p2, .ref o1, .ref zp, .ref o2] ++ [.ref t]))) lc = some (.lst [.ref p2, .ref o1, .ref zp, .ref o2, .ref t]) := upd_same
            generalize upd (upd H18 lt (.lst [.ref t])) lc (.lst ([.ref p2, .ref o1, .ref zp, .ref o2] ++ [.ref t])) = H19 at *
            have r19 := r18.pure e19
            have s1318 := s1316.trans s1618
            have all : ∀ v ∈ [V.ref p2, .ref o1, .ref zp, .ref o2, .ref t], IsDust K F18 B1.places v := by
              intro v hv
              simp only [List.mem_cons, List.not_mem_nil, or_false] at hv
              rcases hv with rfl | rfl | rfl | rfl | rfl
              · exact ⟨_, gs, rfl, sqT_mono s1318 gd13, dl⟩
              · exact ho1.mono ((s15.trans s16).trans s1618)
              · exact ⟨_, _, rfl, sqT_mono s1318 hz13, zl⟩
              · exact ho2.mono (s16.trans s1618)
              · exact ⟨_, _, rfl, .inl (.inl f18), by rw [List.length_map]; exact dl⟩
            have s318 := s313.trans s1318
            refine .inl ⟨lc, rfl, ⟨_, .inl (.inl hlc)⟩, ?_⟩
            refine for_w (walk_list (xs := [.ref p2, .ref o1, .ref zp, .ref o2, .ref t])) (fun i3 σ Hr => ∃ y13, σ = [some (.ref a), some (.int cell), some (.ref st), some (.ref m), some (.ref b), some (.int (0 + (j : Int))), some (.int k), some (.ref p1), some (.ref p2), some (.ref hp2), some (.ref zp), some (.ref hd0), some (.ref ld), y13, y14, none] ∧ Same H19 Hr) ?_ ?_ ?_ ?_
            · exact ⟨_, rfl, Same.refl _⟩
            · rintro i3 σ Hr _ ⟨_, _, e⟩
              exact .inl (.inl (e _ _ hlc))
            · rintro i3 x3 σ Hr Hr' hi3 ⟨y13, rfl, e⟩ ⟨rfl, hx3⟩
              obtain ⟨dd, gx, rfl, hgx, glx⟩ := all x3 (List.mem_of_getElem? hx3)
              have sF := r19.fh.trans e
              have gP : GB K C Hr' b hd0 B1 hsx := ⟨ok, (hb.mono s318).mono sF, sqT_mono (s1318.trans sF) hsq, hlx⟩
              have gL : LB K Hr' m hd0 B1 hsx := ⟨ok, (hm3.mono s318).mono sF, sqT_mono (s1318.trans sF) hsq, hlx⟩
              have hgr : SqT K Hr' dd (gx.map V.int) := sqT_mono sF hgx
              have glr : gx.length = (B1.meets.getD k []).length := by rw [glx, rlen]
              walk_at "rd"
              refine ⟨b, B1, hd0, hsx, _, k, .ref dd, rfl, gP.at kl, .inl ⟨dd, gx, rfl, hgr, glr, fun ed Ha p sa np hp => ?_, fun ne Ha sa => ?_⟩⟩
              · walk_at "rd"
                refine ⟨m, B1, hd0, hsx, _, k, dd, gx, rfl, (gL.mono sa).at kl, sqT_mono sa hgr, glr, fun _ Hb p' sb np' hp' => ?_, fun ne => absurd ed ne⟩
                refine s_neD (dp_tupI (.inl (.inl (sb _ _ hp)))) (dp_tupI (.inl (.inl hp'))) (sh_shaped (sh_tupleI _)) (sh_shaped (sh_tupleI _)) ?_
                rw [eqv_self (sh_tupleI _)]
                walk_at "rd"
                exact ⟨_, rfl, e.trans (sa.trans sb)⟩
              · walk_at "rd"
                refine ⟨m, B1, hd0, hsx, _, k, dd, gx, rfl, (gL.mono sa).at kl, sqT_mono sa hgr, glr, fun ed => absurd ed ne, fun _ Hb sb => ?_⟩
                refine s_ne rfl ?_
                rw [decide_eq_true rfl]
                walk_at "rd"
                exact ⟨_, rfl, e.trans (sa.trans sb)⟩
            · rintro σ Hr ⟨y13, rfl, e⟩
              exact ⟨_, _, _, _, F18, rfl, r19.pure (Ext.same r19.fh e), s1318⟩
        · rintro σ Hq ⟨y11, y12, y13, y14, Fq, rfl, rq, sq⟩
          have gdq := sqT_mono sq gd13
          have hne1 : ¬ (HT.sIx gs.length 0 (some 1) = 0 ∧ HT.sIx gs.length gs.length none = gs.length) := nw_lo (k := 1) (by omega) (by omega)
          have hcut : cutV (gs.map V.int) (some 1) none = (gs.drop 1).map V.int := cut_from gs 1 (by omega)
          have dr : (gs.drop 1).length + 1 = B1.places := by rw [List.length_drop]; omega
          walk_at "rd"
          refine s_listT (sqT_mono rq.fh gdq) fun ll nll => ?_
          have r20 := rq.new (o := .lst (gs.map V.int)) nll
          have s20 : Same Fq (upd Fq ll (.lst (gs.map V.int))) := same_upd (sub_none rq.fh nll)
          have f20 : (upd Fq ll (.lst (gs.map V.int))) ll = some (.lst (gs.map V.int)) := upd_same
          generalize upd Fq ll (.lst (gs.map V.int)) = F20 at *
          generalize upd Hq ll (.lst (gs.map V.int)) = H20 at *
          walk_at "rd"
          refine ⟨by show 1 ≤ sizeLine; decide, fun t1 nt1 => ?_⟩
          have r21 := r20.new (o := .tup [.int 0]) nt1
          have s21 : Same F20 (upd F20 t1 (.tup [.int 0])) := same_upd (sub_none r20.fh nt1)
          have f21 : SqT K (upd F20 t1 (.tup [.int 0])) t1 [.int 0] := rT_at
          generalize upd F20 t1 (.tup [.int 0]) = F21 at *
          generalize upd H20 t1 (.tup [.int 0]) = H21 at *
          refine s_catA r21 (sqT_mono (s20.trans s21) gdq) f21 (by simp; omega) fun c1 F22 H22 r22 s22 hc1 => ?_
          have sq22 := (s20.trans s21).trans s22
          walk_at "rd"
          refine s_cutT r22 (sqT_mono sq22 gdq) hne1 hcut fun c2 F23 H23 r23 s23 hc2 => ?_
          have sq23 := sq22.trans s23
          walk_at "rd"
          refine s_cutT r23 (sqT_mono sq23 gdq) hne1 hcut fun c3 F24 H24 r24 s24 hc3' => ?_
          have sq24 := sq23.trans s24
          walk_at "rd"
          refine ⟨by show 1 ≤ sizeLine; decide, fun t2 nt2 => ?_⟩
          have r25 := r24.new (o := .tup [.bl true]) nt2
          have s25 : Same F24 (upd F24 t2 (.tup [.bl true])) := same_upd (sub_none r24.fh nt2)
          have f25 : SqT K (upd F24 t2 (.tup [.bl true])) t2 [.bl true] := rT_at
          generalize upd F24 t2 (.tup [.bl true]) = F25 at *
          generalize upd H24 t2 (.tup [.bl true]) = H25 at *
          refine s_catA r25 (sqT_mono s25 hc3') f25 (by simp; omega) fun c4 F26 H26 r26 s26 hc4' => ?_
          have sq26 := (sq24.trans s25).trans s26
          walk_at "rd"
          refine s_cutT r26 (sqT_mono sq26 gdq) hne1 hcut fun c5 F27 H27 r27 s27 hc5 => ?_
          walk_at "rd"
          refine ⟨by show 1 ≤ sizeLine; decide, fun t3 nt3 => ?_⟩
          have r28 := r27.new (o := .tup [.non]) nt3
          have s28 : Same F27 (upd F27 t3 (.tup [.non])) := same_upd (sub_none r27.fh nt3)
          have f28 : SqT K (upd F27 t3 (.tup [.non])) t3 [.non] := rT_at
          generalize upd F27 t3 (.tup [.non]) = F28 at *
          generalize upd H27 t3 (.tup [.non]) = H28 at *
          refine s_catA r28 (sqT_mono s28 hc5) f28 (by simp; omega) fun c6 F29 H29 r29 s29 hc6 => ?_
          have s2629 := (s27.trans s28).trans s29
          have sq29 := sq26.trans s2629
          walk_at "rd"
          refine ⟨by show 8 ≤ sizeLine; decide, fun lb nlb => ?_⟩
          have r30 := r29.new (o := .lst [.non, .ref ll, .ref c1, .ref c2, .ref c4, .ref c6, .int 0, .str "dust"]) nlb
          have s30 : Same F29 (upd F29 lb (.lst [.non, .ref ll, .ref c1, .ref c2, .ref c4, .ref c6, .int 0, .str "dust"])) := same_upd (sub_none r29.fh nlb)
          have f30 : (upd F29 lb (.lst [.non, .ref ll, .ref c1, .ref c2, .ref c4, .ref c6, .int 0, .str "dust"])) lb = some (.lst [.non, .ref ll, .ref c1, .ref c2, .ref c4, .ref c6, .int 0, .str "dust"]) := upd_same
          generalize upd F29 lb (.lst [.non, .ref ll, .ref c1, .ref c2, .ref c4, .ref c6, .int 0, .str "dust"]) = F30 at *
          generalize upd H29 lb (.lst [.non, .ref ll, .ref c1, .ref c2, .ref c4, .ref c6, .int 0, .str "dust"]) = H30 at *
          have sq30 := sq29.trans s30
          have s330 := (s313.trans sq).trans sq30
          have bad : ∀ v ∈ [V.non, .ref ll, .ref c1, .ref c2, .ref c4, .ref c6, .int 0, .str "dust"], ∀ X, Same F30 X → NoWholes K X v B1.places := by
            intro v hv X sX
            simp only [List.mem_cons, List.not_mem_nil, or_false] at hv
            rcases hv with rfl | rfl | rfl | rfl | rfl | rfl | rfl | rfl
            · exact .inr (.inr (.inr (.inl rfl)))
            · exact .inr (.inr (.inr (.inr (.inr ⟨_, _, rfl, sqL_mono ((((s21.trans s22).trans (s23.trans (s24.trans (s25.trans s26)))).trans s2629).trans (s30.trans sX)) (.inl (.inl f20))⟩))))
            · refine .inl ⟨_, _, rfl, sqT_mono (((s23.trans (s24.trans (s25.trans s26))).trans s2629).trans (s30.trans sX)) hc1, by simp; omega, fun y hy => ?_, ?_⟩
              · rcases List.mem_append.mp hy with hy | hy
                · exact kn_int y hy
                · rw [List.mem_singleton.mp hy]
                  exact .inl ⟨_, rfl⟩
              · rw [decide_eq_false (by simp; omega)]
                rfl
            · refine .inl ⟨_, _, rfl, sqT_mono (((s24.trans (s25.trans s26)).trans s2629).trans (s30.trans sX)) hc2, by simp; omega, kn_int, ?_⟩
              rw [decide_eq_false (by rw [List.length_map]; omega)]
              rfl
            · refine .inl ⟨_, _, rfl, sqT_mono (s2629.trans (s30.trans sX)) hc4', by simp; omega, fun y hy => ?_, ?_⟩
              · rcases List.mem_append.mp hy with hy | hy
                · exact kn_int y hy
                · rw [List.mem_singleton.mp hy]
                  exact .inr (.inl ⟨_, rfl⟩)
              · rw [List.all_append, show [V.bl true].all isInt = false from rfl, Bool.and_false, Bool.and_false]
            · refine .inl ⟨_, _, rfl, sqT_mono (s30.trans sX) hc6, by simp; omega, fun y hy => ?_, ?_⟩
              · rcases List.mem_append.mp hy with hy | hy
                · exact kn_int y hy
                · rw [List.mem_singleton.mp hy]
                  exact .inr (.inr (.inl rfl))
              · rw [List.all_append, show [V.non].all isInt = false from rfl, Bool.and_false, Bool.and_false]
            · exact .inr (.inl ⟨_, rfl⟩)
            · exact .inr (.inr (.inr (.inr (.inl ⟨_, rfl⟩))))
          walk_at "rd"
          refine .inl ⟨lb, rfl, ⟨_, .inl (.inl (r30.fh _ _ f30))⟩, ?_⟩
          refine lc_filt (walk_list (xs := [V.non, .ref ll, .ref c1, .ref c2, .ref c4, .ref c6, .int 0, .str "dust"])) (F := F30) r30.fh (by show 8 < 100000; decide) (fun H' e' => .inl (.inl (e' _ _ f30))) (fun _ => false) (fun _ => .non) (fun i x F' Ha Hb D Z1 Z0 hi ex _ _ hy hz1 hz0 => ?_) (fun D F' H' hD ex hdz => ?_)
          · obtain ⟨rfl, hx⟩ := hy
            have nw := bad x (List.mem_of_getElem? hx) Hb (ex.ff.trans ex.fh)
            have sX := ex.ff.trans ex.fh
            walk_at "rd"
            refine ⟨rfl, ?_⟩
            walk_at "rd"
            refine ⟨b, B1, p1, hsA, _, k, x, rfl, (show GB K C _ b p1 B1 hsA from ⟨ok, (hb.mono s330).mono sX, sqT_mono ((s13.trans sq).trans (sq30.trans sX)) g112, al⟩).at kl, .inr ⟨nw, fun Hc sc => ?_⟩⟩
            walk_at "rd"
            refine s_ne rfl ?_
            rw [decide_eq_true rfl]
            walk_at "rd"
            exact hz0 F' Hc (Ext.same ex.fh sc) rfl
          · have hf : ((List.range 8).filter fun _ => false).map (fun _ => V.non) = ([] : List Int).map V.int := by decide
            have r31 := r30.pure ex
            walk_at "rd"
            refine ⟨Nat.zero_le _, fun o no => ?_⟩
            have hD2 : SqL K (upd H' o (.lst [])) D (([] : List Int).map V.int) := .inl (.inl (rH_new no (ex.fh _ _ hdz)))
            refine s_neD (d := .list (([] : List Int).map PyData.int)) (e := .list (([] : List Int).map PyData.int)) (dp_lstI hD2) (dp_lstI rL_at) (sh_shaped (sh_listI _)) (sh_shaped (sh_listI _)) ?_
            rw [eqv_self (sh_listI _)]
            walk_at "rd"
            exact ⟨_, _, _, _, _, _, _, _, _, _, F', rfl, r31.pure (Ext.same r31.fh (same_upd no)), ((sz.trans s6).trans s67).trans (((s10.trans s11).trans s12).trans ((s13.trans sq).trans (sq30.trans ex.ff)))⟩
      · rintro σ Hz ⟨y5, y6, y7, y8, y9, y10, y11, y12, y13, y14, Fz, rfl, rz, sz⟩
        exact ⟨_, _, _, _, _, _, _, _, _, _, _, _, _, _, rfl, rz.keep cst hc4⟩
    · rintro σ Hx ⟨y1, y2, y3, y4, y5, y6, y7, y8, y9, y10, y11, y12, y13, y14, rfl, e⟩
      walk_at "rd"
      exact q _
end
end G

namespace G
open PySem PySem.Spec PyProof.Rows L2
theorem kit_self {K : PySem.W.Frag} {C : Addr} : PySem.W.kitOne K (.ref C) (.ref C) = some true := by
  unfold PySem.W.kitOne
  rw [if_pos (beq_self_eq_true _)]
theorem kit_no1 {K : PySem.W.Frag} {C D : Addr} (n : (Value.ref C == Value.ref D) = false) (i : PySem.W.isClsIn K D = true) (t : PySem.W.typeIn K (.ref D) = some (.type "type")) (s : PySem.W.subIn K (.ref C) (.ref D) = some false) : PySem.W.kitOne K (.ref C) (.ref D) = some false := by
  unfold PySem.W.kitOne
  rw [if_neg (by rw [n]; decide)]
  have i' : (PySem.W.clsIn K D).isSome = true := i
  show (if ((PySem.W.clsIn K D).isSome && PySem.W.typeIn K (.ref D) == some (.type "type")) = true then PySem.W.subIn K (.ref C) (.ref D) else none) = some false
  rw [if_pos (by rw [i', t]; rfl)]
  exact s
theorem kit_no3 {K : PySem.W.Frag} {C F R S : Addr} (nF : (Value.ref C == Value.ref F) = false) (iF : PySem.W.isClsIn K F = true) (tF : PySem.W.typeIn K (.ref F) = some (.type "type")) (sF : PySem.W.subIn K (.ref C) (.ref F) = some false)
    (nR : (Value.ref C == Value.ref R) = false) (iR : PySem.W.isClsIn K R = true) (tR : PySem.W.typeIn K (.ref R) = some (.type "type")) (sR : PySem.W.subIn K (.ref C) (.ref R) = some false)
    (nS : (Value.ref C == Value.ref S) = false) (iS : PySem.W.isClsIn K S = true) (tS : PySem.W.typeIn K (.ref S) = some (.type "type")) (sS : PySem.W.subIn K (.ref C) (.ref S) = some false) : PySem.W.kitAny K (.ref C) [.ref F, .ref R, .ref S] = some false := by
  unfold PySem.W.kitAny
  rw [kit_no1 nF iF tF sF]
  show PySem.W.kitAny K (.ref C) [.ref R, .ref S] = _
  unfold PySem.W.kitAny
  rw [kit_no1 nR iR tR sR]
  show PySem.W.kitAny K (.ref C) [.ref S] = _
  unfold PySem.W.kitAny
  rw [kit_no1 nS iS tS sS]
  rfl
theorem all_mk {l : PySem.W.OpenLaw} {w : World} {K : PySem.W.Frag} {h : Heap} {mg : Str → Option Value} {fa C : Addr} (X : K.In h) (G0 : h.Ns mainGlobals mg) (hfa : mg "law" = some (.ref fa))
    {f1 : Addr} {od1 an1 : Option Addr} {sl1 : Array (Option Value)} {oc1 kV1 dc1 pm1 cd1 ct1 : Value} (a1 : PySem.W.nsIn K mainGlobals "is_whole" = some (some (.ref f1))) (l1 : K.lookup f1 = some ⟨oc1, od1, .func (PySem.W.fnOf "is_whole" "is_whole" (defArgs s_is_whole) (defBody s_is_whole) (defScope s_is_whole) .none kV1 dc1 pm1 an1 cd1 ct1), sl1⟩) (c1 : PySem.W.codeIn K cd1 "is_whole" = true) (k1 : PySem.W.keepIn K (.ref f1) = true)
    {f2 : Addr} {od2 an2 : Option Addr} {sl2 : Array (Option Value)} {oc2 kV2 dc2 pm2 cd2 ct2 : Value} (a2 : PySem.W.nsIn K mainGlobals "are_wholes" = some (some (.ref f2))) (l2 : K.lookup f2 = some ⟨oc2, od2, .func (PySem.W.fnOf "are_wholes" "are_wholes" (defArgs s_are_wholes) (defBody s_are_wholes) (defScope s_are_wholes) .none kV2 dc2 pm2 an2 cd2 ct2), sl2⟩) (c2 : PySem.W.codeIn K cd2 "are_wholes" = true) (k2 : PySem.W.keepIn K (.ref f2) = true)
    {f3 : Addr} {od3 an3 : Option Addr} {sl3 : Array (Option Value)} {oc3 kV3 dc3 pm3 cd3 ct3 : Value} (a3 : PySem.W.nsIn K mainGlobals "towards_nought" = some (some (.ref f3))) (l3 : K.lookup f3 = some ⟨oc3, od3, .func (PySem.W.fnOf "towards_nought" "towards_nought" (defArgs s_towards_nought) (defBody s_towards_nought) (defScope s_towards_nought) .none kV3 dc3 pm3 an3 cd3 ct3), sl3⟩) (c3 : PySem.W.codeIn K cd3 "towards_nought" = true) (k3 : PySem.W.keepIn K (.ref f3) = true)
    {f4 : Addr} {od4 an4 : Option Addr} {sl4 : Array (Option Value)} {oc4 kV4 dc4 pm4 cd4 ct4 : Value} (a4 : PySem.W.nsIn K mainGlobals "grains_at" = some (some (.ref f4))) (l4 : K.lookup f4 = some ⟨oc4, od4, .func (PySem.W.fnOf "grains_at" "grains_at" (defArgs s_grains_at) (defBody s_grains_at) (defScope s_grains_at) .none kV4 dc4 pm4 an4 cd4 ct4), sl4⟩) (c4 : PySem.W.codeIn K cd4 "grains_at" = true) (k4 : PySem.W.keepIn K (.ref f4) = true)
    {f5 : Addr} {od5 an5 : Option Addr} {sl5 : Array (Option Value)} {oc5 kV5 dc5 pm5 cd5 ct5 : Value} (a5 : PySem.W.nsIn K mainGlobals "dust_of" = some (some (.ref f5))) (l5 : K.lookup f5 = some ⟨oc5, od5, .func (PySem.W.fnOf "dust_of" "dust_of" (defArgs s_dust_of) (defBody s_dust_of) (defScope s_dust_of) .none kV5 dc5 pm5 an5 cd5 ct5), sl5⟩) (c5 : PySem.W.codeIn K cd5 "dust_of" = true) (k5 : PySem.W.keepIn K (.ref f5) = true)
    {f6 : Addr} {od6 an6 : Option Addr} {sl6 : Array (Option Value)} {oc6 kV6 dc6 pm6 cd6 ct6 : Value} (a6 : PySem.W.nsIn K mainGlobals "taken" = some (some (.ref f6))) (l6 : K.lookup f6 = some ⟨oc6, od6, .func (PySem.W.fnOf "taken" "taken" (defArgs s_taken) (defBody s_taken) (defScope s_taken) .none kV6 dc6 pm6 an6 cd6 ct6), sl6⟩) (c6 : PySem.W.codeIn K cd6 "taken" = true) (k6 : PySem.W.keepIn K (.ref f6) = true)
    {f7 : Addr} {od7 an7 : Option Addr} {sl7 : Array (Option Value)} {oc7 kV7 dc7 pm7 cd7 ct7 : Value} (a7 : PySem.W.nsIn K mainGlobals "put_on" = some (some (.ref f7))) (l7 : K.lookup f7 = some ⟨oc7, od7, .func (PySem.W.fnOf "put_on" "put_on" (defArgs s_put_on) (defBody s_put_on) (defScope s_put_on) .none kV7 dc7 pm7 an7 cd7 ct7), sl7⟩) (c7 : PySem.W.codeIn K cd7 "put_on" = true) (k7 : PySem.W.keepIn K (.ref f7) = true)
    {f8 : Addr} {od8 an8 : Option Addr} {sl8 : Array (Option Value)} {oc8 kV8 dc8 pm8 cd8 ct8 : Value} (a8 : PySem.W.nsIn K mainGlobals "led_back" = some (some (.ref f8))) (l8 : K.lookup f8 = some ⟨oc8, od8, .func (PySem.W.fnOf "led_back" "led_back" (defArgs s_led_back) (defBody s_led_back) (defScope s_led_back) .none kV8 dc8 pm8 an8 cd8 ct8), sl8⟩) (c8 : PySem.W.codeIn K cd8 "led_back" = true) (k8 : PySem.W.keepIn K (.ref f8) = true)
    {f9 : Addr} {od9 an9 : Option Addr} {sl9 : Array (Option Value)} {oc9 kV9 dc9 pm9 cd9 ct9 : Value} (a9 : PySem.W.nsIn K mainGlobals "is_hardness" = some (some (.ref f9))) (l9 : K.lookup f9 = some ⟨oc9, od9, .func (PySem.W.fnOf "is_hardness" "is_hardness" (defArgs s_is_hardness) (defBody s_is_hardness) (defScope s_is_hardness) .none kV9 dc9 pm9 an9 cd9 ct9), sl9⟩) (c9 : PySem.W.codeIn K cd9 "is_hardness" = true) (k9 : PySem.W.keepIn K (.ref f9) = true)
    {f10 : Addr} {od10 an10 : Option Addr} {sl10 : Array (Option Value)} {oc10 kV10 dc10 pm10 cd10 ct10 : Value} (a10 : PySem.W.nsIn K mainGlobals "is_turn" = some (some (.ref f10))) (l10 : K.lookup f10 = some ⟨oc10, od10, .func (PySem.W.fnOf "is_turn" "is_turn" (defArgs s_is_turn) (defBody s_is_turn) (defScope s_is_turn) .none kV10 dc10 pm10 an10 cd10 ct10), sl10⟩) (c10 : PySem.W.codeIn K cd10 "is_turn" = true) (k10 : PySem.W.keepIn K (.ref f10) = true)
    {f11 : Addr} {od11 an11 : Option Addr} {sl11 : Array (Option Value)} {oc11 kV11 dc11 pm11 cd11 ct11 : Value} (a11 : PySem.W.nsIn K mainGlobals "is_grinding" = some (some (.ref f11))) (l11 : K.lookup f11 = some ⟨oc11, od11, .func (PySem.W.fnOf "is_grinding" "is_grinding" (defArgs s_is_grinding) (defBody s_is_grinding) (defScope s_is_grinding) .none kV11 dc11 pm11 an11 cd11 ct11), sl11⟩) (c11 : PySem.W.codeIn K cd11 "is_grinding" = true) (k11 : PySem.W.keepIn K (.ref f11) = true)
    {f12 : Addr} {od12 an12 : Option Addr} {sl12 : Array (Option Value)} {oc12 kV12 dc12 pm12 cd12 ct12 : Value} (a12 : PySem.W.nsIn K mainGlobals "_law_digit" = some (some (.ref f12))) (l12 : K.lookup f12 = some ⟨oc12, od12, .func (PySem.W.fnOf "_law_digit" "_law_digit" (defArgs s__law_digit) (defBody s__law_digit) (defScope s__law_digit) .none kV12 dc12 pm12 an12 cd12 ct12), sl12⟩) (c12 : PySem.W.codeIn K cd12 "_law_digit" = true) (k12 : PySem.W.keepIn K (.ref f12) = true)
    {f13 : Addr} {od13 an13 : Option Addr} {sl13 : Array (Option Value)} {oc13 kV13 dc13 pm13 cd13 ct13 : Value} (a13 : PySem.W.nsIn K mainGlobals "_law_made" = some (some (.ref f13))) (l13 : K.lookup f13 = some ⟨oc13, od13, .func (PySem.W.fnOf "_law_made" "_law_made" (defArgs s__law_made) (defBody s__law_made) (defScope s__law_made) .none kV13 dc13 pm13 an13 cd13 ct13), sl13⟩) (c13 : PySem.W.codeIn K cd13 "_law_made" = true) (k13 : PySem.W.keepIn K (.ref f13) = true)
    {f14 : Addr} {od14 an14 : Option Addr} {sl14 : Array (Option Value)} {oc14 kV14 dc14 pm14 cd14 ct14 : Value} (a14 : PySem.W.nsIn K mainGlobals "_law_bench" = some (some (.ref f14))) (l14 : K.lookup f14 = some ⟨oc14, od14, .func (PySem.W.fnOf "_law_bench" "_law_bench" (defArgs s__law_bench) (defBody s__law_bench) (defScope s__law_bench) .none kV14 dc14 pm14 an14 cd14 ct14), sl14⟩) (c14 : PySem.W.codeIn K cd14 "_law_bench" = true) (k14 : PySem.W.keepIn K (.ref f14) = true)
    {f15 : Addr} {od15 an15 : Option Addr} {sl15 : Array (Option Value)} {oc15 kV15 dc15 pm15 cd15 ct15 : Value} (a15 : PySem.W.nsIn K mainGlobals "_law_program" = some (some (.ref f15))) (l15 : K.lookup f15 = some ⟨oc15, od15, .func (PySem.W.fnOf "_law_program" "_law_program" (defArgs s__law_program) (defBody s__law_program) (defScope s__law_program) .none kV15 dc15 pm15 an15 cd15 ct15), sl15⟩) (c15 : PySem.W.codeIn K cd15 "_law_program" = true) (k15 : PySem.W.keepIn K (.ref f15) = true)
    {f16 : Addr} {od16 an16 : Option Addr} {sl16 : Array (Option Value)} {oc16 kV16 dc16 pm16 cd16 ct16 : Value} (a16 : PySem.W.nsIn K mainGlobals "_law_stand" = some (some (.ref f16))) (l16 : K.lookup f16 = some ⟨oc16, od16, .func (PySem.W.fnOf "_law_stand" "_law_stand" (defArgs s__law_stand) (defBody s__law_stand) (defScope s__law_stand) .none kV16 dc16 pm16 an16 cd16 ct16), sl16⟩) (c16 : PySem.W.codeIn K cd16 "_law_stand" = true) (k16 : PySem.W.keepIn K (.ref f16) = true)
    {f17 : Addr} {od17 an17 : Option Addr} {sl17 : Array (Option Value)} {oc17 kV17 dc17 pm17 cd17 ct17 : Value} (a17 : PySem.W.nsIn K mainGlobals "_law_grains" = some (some (.ref f17))) (l17 : K.lookup f17 = some ⟨oc17, od17, .func (PySem.W.fnOf "_law_grains" "_law_grains" (defArgs s__law_grains) (defBody s__law_grains) (defScope s__law_grains) .none kV17 dc17 pm17 an17 cd17 ct17), sl17⟩) (c17 : PySem.W.codeIn K cd17 "_law_grains" = true) (k17 : PySem.W.keepIn K (.ref f17) = true)
    {f18 : Addr} {od18 an18 : Option Addr} {sl18 : Array (Option Value)} {oc18 kV18 dc18 pm18 cd18 ct18 : Value} (a18 : PySem.W.nsIn K mainGlobals "_law_ground" = some (some (.ref f18))) (l18 : K.lookup f18 = some ⟨oc18, od18, .func (PySem.W.fnOf "_law_ground" "_law_ground" (defArgs s__law_ground) (defBody s__law_ground) (defScope s__law_ground) .none kV18 dc18 pm18 an18 cd18 ct18), sl18⟩) (c18 : PySem.W.codeIn K cd18 "_law_ground" = true) (k18 : PySem.W.keepIn K (.ref f18) = true)
    {f19 : Addr} {od19 an19 : Option Addr} {sl19 : Array (Option Value)} {oc19 kV19 dc19 pm19 cd19 ct19 : Value} (a19 : PySem.W.nsIn K mainGlobals "_law_said" = some (some (.ref f19))) (l19 : K.lookup f19 = some ⟨oc19, od19, .func (PySem.W.fnOf "_law_said" "_law_said" (defArgs s__law_said) (defBody s__law_said) (defScope s__law_said) .none kV19 dc19 pm19 an19 cd19 ct19), sl19⟩) (c19 : PySem.W.codeIn K cd19 "_law_said" = true) (k19 : PySem.W.keepIn K (.ref f19) = true)
    {f20 : Addr} {od20 an20 : Option Addr} {sl20 : Array (Option Value)} {oc20 kV20 dc20 pm20 cd20 ct20 : Value} (a20 : PySem.W.nsIn K mainGlobals "_law_due" = some (some (.ref f20))) (l20 : K.lookup f20 = some ⟨oc20, od20, .func (PySem.W.fnOf "_law_due" "_law_due" (defArgs s__law_due) (defBody s__law_due) (defScope s__law_due) .none kV20 dc20 pm20 an20 cd20 ct20), sl20⟩) (c20 : PySem.W.codeIn K cd20 "_law_due" = true) (k20 : PySem.W.keepIn K (.ref f20) = true)
    {f21 : Addr} {od21 an21 : Option Addr} {sl21 : Array (Option Value)} {oc21 kV21 dc21 pm21 cd21 ct21 : Value} (a21 : PySem.W.nsIn K mainGlobals "_law_odd" = some (some (.ref f21))) (l21 : K.lookup f21 = some ⟨oc21, od21, .func (PySem.W.fnOf "_law_odd" "_law_odd" (defArgs s__law_odd) (defBody s__law_odd) (defScope s__law_odd) .none kV21 dc21 pm21 an21 cd21 ct21), sl21⟩) (c21 : PySem.W.codeIn K cd21 "_law_odd" = true) (k21 : PySem.W.keepIn K (.ref f21) = true)
    {f22 : Addr} {od22 an22 : Option Addr} {sl22 : Array (Option Value)} {oc22 kV22 dc22 pm22 cd22 ct22 : Value} (a22 : PySem.W.findIn K (.ref C) "__init__" = some (some (.ref f22))) (i22 : PySem.W.isFn K (.ref f22) = true) (l22 : K.lookup f22 = some ⟨oc22, od22, .func (PySem.W.fnOf "__init__" "Bench.__init__" (defArgs s_Bench___init__) (defBody s_Bench___init__) (defScope s_Bench___init__) .none kV22 dc22 pm22 an22 cd22 ct22), sl22⟩) (c22 : PySem.W.codeIn K cd22 "Bench.__init__" = true) (k22 : PySem.W.keepIn K (.ref f22) = true)
    {f23 : Addr} {od23 an23 : Option Addr} {sl23 : Array (Option Value)} {oc23 kV23 dc23 pm23 cd23 ct23 : Value} (a23 : PySem.W.findIn K (.ref C) "pairs_of" = some (some (.ref f23))) (i23 : PySem.W.isFn K (.ref f23) = true) (l23 : K.lookup f23 = some ⟨oc23, od23, .func (PySem.W.fnOf "pairs_of" "Bench.pairs_of" (defArgs s_Bench_pairs_of) (defBody s_Bench_pairs_of) (defScope s_Bench_pairs_of) .none kV23 dc23 pm23 an23 cd23 ct23), sl23⟩) (c23 : PySem.W.codeIn K cd23 "Bench.pairs_of" = true) (k23 : PySem.W.keepIn K (.ref f23) = true)
    {f24 : Addr} {od24 an24 : Option Addr} {sl24 : Array (Option Value)} {oc24 kV24 dc24 pm24 cd24 ct24 : Value} (a24 : PySem.W.findIn K (.ref C) "is_stand" = some (some (.ref f24))) (i24 : PySem.W.isFn K (.ref f24) = true) (l24 : K.lookup f24 = some ⟨oc24, od24, .func (PySem.W.fnOf "is_stand" "Bench.is_stand" (defArgs s_Bench_is_stand) (defBody s_Bench_is_stand) (defScope s_Bench_is_stand) .none kV24 dc24 pm24 an24 cd24 ct24), sl24⟩) (c24 : PySem.W.codeIn K cd24 "Bench.is_stand" = true) (k24 : PySem.W.keepIn K (.ref f24) = true)
    {f25 : Addr} {od25 an25 : Option Addr} {sl25 : Array (Option Value)} {oc25 kV25 dc25 pm25 cd25 ct25 : Value} (a25 : PySem.W.findIn K (.ref C) "sure_stand" = some (some (.ref f25))) (i25 : PySem.W.isFn K (.ref f25) = true) (l25 : K.lookup f25 = some ⟨oc25, od25, .func (PySem.W.fnOf "sure_stand" "Bench.sure_stand" (defArgs s_Bench_sure_stand) (defBody s_Bench_sure_stand) (defScope s_Bench_sure_stand) .none kV25 dc25 pm25 an25 cd25 ct25), sl25⟩) (c25 : PySem.W.codeIn K cd25 "Bench.sure_stand" = true) (k25 : PySem.W.keepIn K (.ref f25) = true)
    {f26 : Addr} {od26 an26 : Option Addr} {sl26 : Array (Option Value)} {oc26 kV26 dc26 pm26 cd26 ct26 : Value} (a26 : PySem.W.findIn K (.ref C) "sure_number" = some (some (.ref f26))) (i26 : PySem.W.isFn K (.ref f26) = true) (l26 : K.lookup f26 = some ⟨oc26, od26, .func (PySem.W.fnOf "sure_number" "Bench.sure_number" (defArgs s_Bench_sure_number) (defBody s_Bench_sure_number) (defScope s_Bench_sure_number) .none kV26 dc26 pm26 an26 cd26 ct26), sl26⟩) (c26 : PySem.W.codeIn K cd26 "Bench.sure_number" = true) (k26 : PySem.W.keepIn K (.ref f26) = true)
    {f27 : Addr} {od27 an27 : Option Addr} {sl27 : Array (Option Value)} {oc27 kV27 dc27 pm27 cd27 ct27 : Value} (a27 : PySem.W.findIn K (.ref C) "pair_weights" = some (some (.ref f27))) (i27 : PySem.W.isFn K (.ref f27) = true) (l27 : K.lookup f27 = some ⟨oc27, od27, .func (PySem.W.fnOf "pair_weights" "Bench.pair_weights" (defArgs s_Bench_pair_weights) (defBody s_Bench_pair_weights) (defScope s_Bench_pair_weights) .none kV27 dc27 pm27 an27 cd27 ct27), sl27⟩) (c27 : PySem.W.codeIn K cd27 "Bench.pair_weights" = true) (k27 : PySem.W.keepIn K (.ref f27) = true)
    {f28 : Addr} {od28 an28 : Option Addr} {sl28 : Array (Option Value)} {oc28 kV28 dc28 pm28 cd28 ct28 : Value} (a28 : PySem.W.nsIn K mainGlobals "law" = some (some (.ref f28))) (l28 : K.lookup f28 = some ⟨oc28, od28, .func (PySem.W.fnOf "law" "law" (defArgs s_law) (defBody s_law) (defScope s_law) .none kV28 dc28 pm28 an28 cd28 ct28), sl28⟩) (c28 : PySem.W.codeIn K cd28 "law" = true) (k28 : PySem.W.keepIn K (.ref f28) = true)
    (aC : PySem.W.nsIn K mainGlobals "Bench" = some (some (.ref C))) (pg : PySem.W.plainGet K C Str.empty = true) (hd : PySem.W.hasDictIn K C = true) (po : PySem.W.plainOver K C = true) (sa : PySem.W.findIn K (.ref C) "__setattr__" = some (some (.builtin "object.__setattr__"))) (mk : PySem.W.makesIn K C = true) (kc : PySem.W.keepIn K (.ref C) = true)
    (n_hard : PySem.W.findIn K (.ref C) "hard" = some none) (n_places : PySem.W.findIn K (.ref C) "places" = some none) (n_told : PySem.W.findIn K (.ref C) "told" = some none) (n_heavy : PySem.W.findIn K (.ref C) "heavy" = some none) (n_meets : PySem.W.findIn K (.ref C) "meets" = some none)
    {t_MOST_PLATES : Tok} (g_MOST_PLATES : PySem.W.nsIn K mainGlobals "MOST_PLATES" = some (some (.int 4 t_MOST_PLATES))) {t_MOST_HARDNESS : Tok} (g_MOST_HARDNESS : PySem.W.nsIn K mainGlobals "MOST_HARDNESS" = some (some (.int 9 t_MOST_HARDNESS))) {t_MOST_PLACES : Tok} (g_MOST_PLACES : PySem.W.nsIn K mainGlobals "MOST_PLACES" = some (some (.int 3 t_MOST_PLACES))) {t_MOST_GRINDINGS : Tok} (g_MOST_GRINDINGS : PySem.W.nsIn K mainGlobals "MOST_GRINDINGS" = some (some (.int 6 t_MOST_GRINDINGS)))
    (b_len : PySem.W.nsIn K mainGlobals "len" = some none) (b_sum : PySem.W.nsIn K mainGlobals "sum" = some none) (b_sorted : PySem.W.nsIn K mainGlobals "sorted" = some none) (b_all : PySem.W.nsIn K mainGlobals "all" = some none) (b_any : PySem.W.nsIn K mainGlobals "any" = some none) (b_abs : PySem.W.nsIn K mainGlobals "abs" = some none) (b_isinstance : PySem.W.nsIn K mainGlobals "isinstance" = some none) (b_list : PySem.W.nsIn K mainGlobals "list" = some none) (b_tuple : PySem.W.nsIn K mainGlobals "tuple" = some none) (b_int : PySem.W.nsIn K mainGlobals "int" = some none) (b_bool : PySem.W.nsIn K mainGlobals "bool" = some none) (b_range : PySem.W.nsIn K mainGlobals "range" = some none) (b_zip : PySem.W.nsIn K mainGlobals "zip" = some none) (b_enumerate : PySem.W.nsIn K mainGlobals "enumerate" = some none)
    {C_NoDust C_GrindError C_NoForm C_NoGrinding C_NoStand : Addr}
    (x1 : PySem.W.nsIn K mainGlobals "NoDust" = some (some (.ref C_NoDust)))
    (x2 : PySem.W.nsIn K mainGlobals "GrindError" = some (some (.ref C_GrindError)))
    (x3 : PySem.W.nsIn K mainGlobals "NoForm" = some (some (.ref C_NoForm)))
    (x4 : PySem.W.nsIn K mainGlobals "NoGrinding" = some (some (.ref C_NoGrinding)))
    (x5 : PySem.W.nsIn K mainGlobals "NoStand" = some (some (.ref C_NoStand)))
    (x6 : PySem.W.excIn K C_NoDust [.type "ValueError", .type "Exception", .type "BaseException", .type "object"] "ValueError.__new__" = true)
    (x7 : PySem.W.keepIn K (.ref C_NoDust) = true)
    (x8 : PySem.W.subIn K (.ref C_NoDust) (.type "BaseException") = some true)
    (x9 : PySem.W.typeIn K (.ref C_NoDust) = some (.type "type"))
    (x10 : PySem.W.subIn K (.ref C_GrindError) (.type "BaseException") = some true)
    (x11 : PySem.W.hasDictIn K C_GrindError = true)
    (x12 : PySem.W.typeIn K (.ref C_GrindError) = some (.type "type"))
    (x13 : PySem.W.subIn K (.ref C_NoDust) (.ref C_GrindError) = some true)
    (x14 : PySem.W.findIn K (.ref C_NoDust) "__getattribute__" = some (some (.builtin "BaseException.__getattribute__")))
    (x15 : PySem.W.findIn K (.ref C_NoDust) "__getattr__" = some none)
    (x16 : PySem.W.hasDictIn K C_NoDust = true)
    (x17 : PySem.W.findIn K (.ref C_NoDust) "__class__" = some (some (.builtin "object.__class__")))
    (x18 : PySem.W.specialIn K (.builtin "object.__class__") "__get__" = some (some (.builtin "getset_descriptor.__get__")))
    (x19 : PySem.W.takesIn K (.builtin "object.__class__") = some true)
    (x20 : PySem.W.mroIn K C_NoDust (.type "object") = some true)
    (x21 : PySem.W.isClsIn K C_NoDust = true)
    (nF : (Value.ref C_NoDust == Value.ref C_NoForm) = false)
    (iF : PySem.W.isClsIn K C_NoForm = true)
    (tF : PySem.W.typeIn K (.ref C_NoForm) = some (.type "type"))
    (sF : PySem.W.subIn K (.ref C_NoDust) (.ref C_NoForm) = some false)
    (nR : (Value.ref C_NoDust == Value.ref C_NoGrinding) = false)
    (iR : PySem.W.isClsIn K C_NoGrinding = true)
    (tR : PySem.W.typeIn K (.ref C_NoGrinding) = some (.type "type"))
    (sR : PySem.W.subIn K (.ref C_NoDust) (.ref C_NoGrinding) = some false)
    (nS : (Value.ref C_NoDust == Value.ref C_NoStand) = false)
    (iS : PySem.W.isClsIn K C_NoStand = true)
    (tS : PySem.W.typeIn K (.ref C_NoStand) = some (.type "type"))
    (sS : PySem.W.subIn K (.ref C_NoDust) (.ref C_NoStand) = some false) :
    ∃ fd : FuncData, (∀ (s : Shared) (v : Value), BindsTo s fd ⟨[v], []⟩ [("_law_script", v)]) ∧ ∀ base : Heap, K.In base → base.Ns mainGlobals mg → FnOk l.prog w K mg base CX0 10 fa fd ["_law_script"] (spLaw K) := by
  have e := hfa.symm.trans (PySem.W.mg_of X G0 a28)
  cases e
  have B : Blt mg := ⟨PySem.W.mg_none_of X G0 b_len, PySem.W.mg_none_of X G0 b_sum, PySem.W.mg_none_of X G0 b_sorted, PySem.W.mg_none_of X G0 b_all, PySem.W.mg_none_of X G0 b_any, PySem.W.mg_none_of X G0 b_abs, PySem.W.mg_none_of X G0 b_isinstance, PySem.W.mg_none_of X G0 b_list, PySem.W.mg_none_of X G0 b_tuple, PySem.W.mg_none_of X G0 b_int, PySem.W.mg_none_of X G0 b_bool, PySem.W.mg_none_of X G0 b_range, PySem.W.mg_none_of X G0 b_zip, PySem.W.mg_none_of X G0 b_enumerate⟩
  have F_is_whole : FunAt K mg "is_whole" s_is_whole ["thing", "low", "high"] := ⟨f1, _, fun_mk (st := s_is_whole) l1 c1 k1, PySem.W.mg_of X G0 a1, (fun_mk (st := s_is_whole) l1 c1 k1).binds (ps := ["thing", "low", "high"]) fun _ _ _ _ _ _ us hl => match us, hl with | [_, _, _], _ => rfl⟩
  have F_are_wholes : FunAt K mg "are_wholes" s_are_wholes ["thing", "many"] := ⟨f2, _, fun_mk (st := s_are_wholes) l2 c2 k2, PySem.W.mg_of X G0 a2, (fun_mk (st := s_are_wholes) l2 c2 k2).binds (ps := ["thing", "many"]) fun _ _ _ _ _ _ us hl => match us, hl with | [_, _], _ => rfl⟩
  have F_towards_nought : FunAt K mg "towards_nought" s_towards_nought ["number", "other"] := ⟨f3, _, fun_mk (st := s_towards_nought) l3 c3 k3, PySem.W.mg_of X G0 a3, (fun_mk (st := s_towards_nought) l3 c3 k3).binds (ps := ["number", "other"]) fun _ _ _ _ _ _ us hl => match us, hl with | [_, _], _ => rfl⟩
  have F_grains_at : FunAt K mg "grains_at" s_grains_at ["bench", "stand", "pair"] := ⟨f4, _, fun_mk (st := s_grains_at) l4 c4 k4, PySem.W.mg_of X G0 a4, (fun_mk (st := s_grains_at) l4 c4 k4).binds (ps := ["bench", "stand", "pair"]) fun _ _ _ _ _ _ us hl => match us, hl with | [_, _, _], _ => rfl⟩
  have F_dust_of : FunAt K mg "dust_of" s_dust_of ["bench", "stand", "number"] := ⟨f5, _, fun_mk (st := s_dust_of) l5 c5 k5, PySem.W.mg_of X G0 a5, (fun_mk (st := s_dust_of) l5 c5 k5).binds (ps := ["bench", "stand", "number"]) fun _ _ _ _ _ _ us hl => match us, hl with | [_, _, _], _ => rfl⟩
  have F_taken : FunAt K mg "taken" s_taken ["bench", "stand", "pairs", "dust"] := ⟨f6, _, fun_mk (st := s_taken) l6 c6 k6, PySem.W.mg_of X G0 a6, (fun_mk (st := s_taken) l6 c6 k6).binds (ps := ["bench", "stand", "pairs", "dust"]) fun _ _ _ _ _ _ us hl => match us, hl with | [_, _, _, _], _ => rfl⟩
  have F_put_on : FunAt K mg "put_on" s_put_on ["bench", "stand", "number", "dust"] := ⟨f7, _, fun_mk (st := s_put_on) l7 c7 k7, PySem.W.mg_of X G0 a7, (fun_mk (st := s_put_on) l7 c7 k7).binds (ps := ["bench", "stand", "number", "dust"]) fun _ _ _ _ _ _ us hl => match us, hl with | [_, _, _, _], _ => rfl⟩
  have F_led_back : FunAt K mg "led_back" s_led_back ["bench", "stand", "number", "dust"] := ⟨f8, _, fun_mk (st := s_led_back) l8 c8 k8, PySem.W.mg_of X G0 a8, (fun_mk (st := s_led_back) l8 c8 k8).binds (ps := ["bench", "stand", "number", "dust"]) fun _ _ _ _ _ _ us hl => match us, hl with | [_, _, _, _], _ => rfl⟩
  have F_is_hardness : FunAt K mg "is_hardness" s_is_hardness ["thing"] := ⟨f9, _, fun_mk (st := s_is_hardness) l9 c9 k9, PySem.W.mg_of X G0 a9, (fun_mk (st := s_is_hardness) l9 c9 k9).binds (ps := ["thing"]) fun _ _ _ _ _ _ us hl => match us, hl with | [_], _ => rfl⟩
  have F_is_turn : FunAt K mg "is_turn" s_is_turn ["thing", "places"] := ⟨f10, _, fun_mk (st := s_is_turn) l10 c10 k10, PySem.W.mg_of X G0 a10, (fun_mk (st := s_is_turn) l10 c10 k10).binds (ps := ["thing", "places"]) fun _ _ _ _ _ _ us hl => match us, hl with | [_, _], _ => rfl⟩
  have F_is_grinding : FunAt K mg "is_grinding" s_is_grinding ["thing", "plates", "places"] := ⟨f11, _, fun_mk (st := s_is_grinding) l11 c11 k11, PySem.W.mg_of X G0 a11, (fun_mk (st := s_is_grinding) l11 c11 k11).binds (ps := ["thing", "plates", "places"]) fun _ _ _ _ _ _ us hl => match us, hl with | [_, _, _], _ => rfl⟩
  have F__law_digit : FunAt K mg "_law_digit" s__law_digit ["_law_state", "_law_base"] := ⟨f12, _, fun_mk (st := s__law_digit) l12 c12 k12, PySem.W.mg_of X G0 a12, (fun_mk (st := s__law_digit) l12 c12 k12).binds (ps := ["_law_state", "_law_base"]) fun _ _ _ _ _ _ us hl => match us, hl with | [_, _], _ => rfl⟩
  have F__law_made : FunAt K mg "_law_made" s__law_made ["_law_hard", "_law_places", "_law_told"] := ⟨f13, _, fun_mk (st := s__law_made) l13 c13 k13, PySem.W.mg_of X G0 a13, (fun_mk (st := s__law_made) l13 c13 k13).binds (ps := ["_law_hard", "_law_places", "_law_told"]) fun _ _ _ _ _ _ us hl => match us, hl with | [_, _, _], _ => rfl⟩
  have F__law_bench : FunAt K mg "_law_bench" s__law_bench ["_law_state", "_law_plates", "_law_places"] := ⟨f14, _, fun_mk (st := s__law_bench) l14 c14 k14, PySem.W.mg_of X G0 a14, (fun_mk (st := s__law_bench) l14 c14 k14).binds (ps := ["_law_state", "_law_plates", "_law_places"]) fun _ _ _ _ _ _ us hl => match us, hl with | [_, _, _], _ => rfl⟩
  have F__law_program : FunAt K mg "_law_program" s__law_program ["_law_model"] := ⟨f15, _, fun_mk (st := s__law_program) l15 c15 k15, PySem.W.mg_of X G0 a15, (fun_mk (st := s__law_program) l15 c15 k15).binds (ps := ["_law_model"]) fun _ _ _ _ _ _ us hl => match us, hl with | [_], _ => rfl⟩
  have F__law_stand : FunAt K mg "_law_stand" s__law_stand ["_law_state", "_law_model", "_law_most"] := ⟨f16, _, fun_mk (st := s__law_stand) l16 c16 k16, PySem.W.mg_of X G0 a16, (fun_mk (st := s__law_stand) l16 c16 k16).binds (ps := ["_law_state", "_law_model", "_law_most"]) fun _ _ _ _ _ _ us hl => match us, hl with | [_, _, _], _ => rfl⟩
  have F__law_grains : FunAt K mg "_law_grains" s__law_grains ["_law_model", "_law_heights", "_law_pair"] := ⟨f17, _, fun_mk (st := s__law_grains) l17 c17 k17, PySem.W.mg_of X G0 a17, (fun_mk (st := s__law_grains) l17 c17 k17).binds (ps := ["_law_model", "_law_heights", "_law_pair"]) fun _ _ _ _ _ _ us hl => match us, hl with | [_, _, _], _ => rfl⟩
  have F__law_ground : FunAt K mg "_law_ground" s__law_ground ["_law_model", "_law_heights", "_law_number"] := ⟨f18, _, fun_mk (st := s__law_ground) l18 c18 k18, PySem.W.mg_of X G0 a18, (fun_mk (st := s__law_ground) l18 c18 k18).binds (ps := ["_law_model", "_law_heights", "_law_number"]) fun _ _ _ _ _ _ us hl => match us, hl with | [_, _, _], _ => rfl⟩
  have F__law_said : FunAt K mg "_law_said" s__law_said ["_law_bench_here", "_law_heights", "_law_number", "_law_dust"] := ⟨f19, _, fun_mk (st := s__law_said) l19 c19 k19, PySem.W.mg_of X G0 a19, (fun_mk (st := s__law_said) l19 c19 k19).binds (ps := ["_law_bench_here", "_law_heights", "_law_number", "_law_dust"]) fun _ _ _ _ _ _ us hl => match us, hl with | [_, _, _, _], _ => rfl⟩
  have F__law_due : FunAt K mg "_law_due" s__law_due ["_law_model", "_law_heights", "_law_number", "_law_dust"] := ⟨f20, _, fun_mk (st := s__law_due) l20 c20 k20, PySem.W.mg_of X G0 a20, (fun_mk (st := s__law_due) l20 c20 k20).binds (ps := ["_law_model", "_law_heights", "_law_number", "_law_dust"]) fun _ _ _ _ _ _ us hl => match us, hl with | [_, _, _, _], _ => rfl⟩
  have F__law_odd : FunAt K mg "_law_odd" s__law_odd ["_law_state", "_law_dust"] := ⟨f21, _, fun_mk (st := s__law_odd) l21 c21 k21, PySem.W.mg_of X G0 a21, (fun_mk (st := s__law_odd) l21 c21 k21).binds (ps := ["_law_state", "_law_dust"]) fun _ _ _ _ _ _ us hl => match us, hl with | [_, _], _ => rfl⟩
  have Fi := fun_mk (st := s_Bench___init__) l22 c22 k22
  have bi := (fun_mk (st := s_Bench___init__) l22 c22 k22).binds (ps := ["self", "hardness", "places", "grindings"]) fun _ _ _ _ _ _ us hl => match us, hl with | [_, _, _, _], _ => rfl
  have M_pairs_of : MethAt K C "pairs_of" "Bench.pairs_of" s_Bench_pairs_of ["self", "grinding"] := ⟨f23, _, fun_mk (st := s_Bench_pairs_of) l23 c23 k23, ⟨a23, i23, k23⟩, (fun_mk (st := s_Bench_pairs_of) l23 c23 k23).binds (ps := ["self", "grinding"]) fun _ _ _ _ _ _ us hl => match us, hl with | [_, _], _ => rfl⟩
  have M_is_stand : MethAt K C "is_stand" "Bench.is_stand" s_Bench_is_stand ["self", "thing"] := ⟨f24, _, fun_mk (st := s_Bench_is_stand) l24 c24 k24, ⟨a24, i24, k24⟩, (fun_mk (st := s_Bench_is_stand) l24 c24 k24).binds (ps := ["self", "thing"]) fun _ _ _ _ _ _ us hl => match us, hl with | [_, _], _ => rfl⟩
  have M_sure_stand : MethAt K C "sure_stand" "Bench.sure_stand" s_Bench_sure_stand ["self", "thing"] := ⟨f25, _, fun_mk (st := s_Bench_sure_stand) l25 c25 k25, ⟨a25, i25, k25⟩, (fun_mk (st := s_Bench_sure_stand) l25 c25 k25).binds (ps := ["self", "thing"]) fun _ _ _ _ _ _ us hl => match us, hl with | [_, _], _ => rfl⟩
  have M_sure_number : MethAt K C "sure_number" "Bench.sure_number" s_Bench_sure_number ["self", "number"] := ⟨f26, _, fun_mk (st := s_Bench_sure_number) l26 c26 k26, ⟨a26, i26, k26⟩, (fun_mk (st := s_Bench_sure_number) l26 c26 k26).binds (ps := ["self", "number"]) fun _ _ _ _ _ _ us hl => match us, hl with | [_, _], _ => rfl⟩
  have M_pair_weights : MethAt K C "pair_weights" "Bench.pair_weights" s_Bench_pair_weights ["self", "pair"] := ⟨f27, _, fun_mk (st := s_Bench_pair_weights) l27 c27 k27, ⟨a27, i27, k27⟩, (fun_mk (st := s_Bench_pair_weights) l27 c27 k27).binds (ps := ["self", "pair"]) fun _ _ _ _ _ _ us hl => match us, hl with | [_, _], _ => rfl⟩
  have FL := fun_mk (st := s_law) l28 c28 k28
  refine ⟨_, fun s v => .of_eq (rfl : bindArgs (PySem.W.fnOf "law" "law" (defArgs s_law) (defBody s_law) (defScope s_law) .none kV28 dc28 pm28 an28 cd28 ct28) ⟨[v], []⟩ = _), fun base _ _ => ?_⟩
  have T : Txt K mg C := ⟨⟨pg, hd, po, sa⟩, n_hard, n_places, n_told, n_heavy, n_meets, PySem.W.mg_of X G0 aC, ⟨_, PySem.W.mg_of X G0 g_MOST_PLATES⟩, ⟨_, PySem.W.mg_of X G0 g_MOST_HARDNESS⟩, ⟨_, PySem.W.mg_of X G0 g_MOST_PLACES⟩, ⟨_, PySem.W.mg_of X G0 g_MOST_GRINDINGS⟩⟩
  have d1 := ok_is_whole (P := l.prog) (w := w) (base := base) B F_is_whole
  have d2 := ok_are_wholes B d1 F_are_wholes
  have d3 := ok_towards_nought (P := l.prog) (w := w) (base := base) F_towards_nought
  have d4 := ok_pair_weights (P := l.prog) (w := w) (base := base) T M_pair_weights
  have d5 := ok_grains_at B T d4 d3 F_grains_at
  have d6 := ok_dust_of B T d5 F_dust_of
  have d7 := ok_taken B T d4 F_taken
  have d11 := ok_is_stand B T d2 M_is_stand
  have d12 := ok_sure_stand B T d11 M_sure_stand
  have d13 := ok_sure_number B T d1 M_sure_number
  have d16 := ok_put_on B T d7 F_put_on
  have XN : OwnX K mg "NoDust" C_NoDust := ⟨PySem.W.mg_of X G0 x1, x6, x7, x8, x9⟩
  have SX : SaidX K mg C_GrindError C_NoDust C_NoForm C_NoGrinding C_NoStand := ⟨⟨PySem.W.mg_of X G0 x2⟩, ⟨PySem.W.mg_of X G0 x3⟩, ⟨PySem.W.mg_of X G0 x4⟩, ⟨PySem.W.mg_of X G0 x5⟩, PySem.W.exm_ref x10 x11 x12 x13, ⟨⟨x14, x15, x8, x16, x17, x18, x19, x20⟩, x21⟩, kit_self, kit_no3 nF iF tF sF nR iR tR sR nS iS tS sS⟩
  have d41 := ok_led_backX B T XN d2 d12 d13 d16 d6 F_led_back
  have d42 := ok_said B XN SX d41 F__law_said
  have d17 := ok_is_hardness B T d1 F_is_hardness
  have d18 := ok_is_turn B d2 F_is_turn
  have d19 := ok_is_grinding B d1 d18 F_is_grinding
  have d20 := ok_pairs_of (P := l.prog) (w := w) (base := base) B T M_pairs_of
  have d21 : DefC l.prog w K mg base 5 C "Bench" ["self", "hardness", "places", "grindings"] (spInit K C) := ⟨_, _, ok_init B T d17 d1 d19 d20 Fi, bi, ⟨mk, a22, i22, kc⟩, PySem.W.mg_of X G0 aC⟩
  have d22 := ok_digit (P := l.prog) (w := w) (base := base) B F__law_digit
  have d23 := ok_made (P := l.prog) (w := w) (base := base) B F__law_made
  have d24 := ok_bench B d22 d23 F__law_bench
  have d25 := ok_program B d21 F__law_program
  have d26 := ok_stand B d22 F__law_stand
  have d27 := ok_lgrains (P := l.prog) (w := w) (base := base) B F__law_grains
  have d28 := ok_lground B d27 F__law_ground
  have d29 := ok_due B d28 F__law_due
  have d30 := ok_odd B d22 F__law_odd
  exact ok_law B T d22 d24 d25 d26 d28 d30 d42 d29 FL
end G
open PySem PySem.W PyProof.Rows
set_option maxRecDepth 100000 in
set_option maxHeartbeats 0 in
theorem PySem.Challenge.cw_groundmatch_k05_what_is_no_dust_holds : PySem.Challenge.rw_groundmatch_k05_what_is_no_dust.Holds := by
  w_on; o_law; k_head; (case hw => w_witness2)
  k_fill
  refine L2.walk_of (l := PySem.Challenge.rw_groundmatch_k05_what_is_no_dust) (n := 63) (k := 10) (x := "_law_script") (CX := fun _ => L2.CX0) (sp := fun w => G.spLaw _) rfl (by decide) rfl ⟨rfl, by decide, by decide⟩ (fun w h Y => PySem.W.kIn_of Y) ?F (fun _ _ a ns hl _ hS => ⟨a, ns, rfl, hS, hl, fun _ => rfl⟩) (fun _ _ _ _ _ h => h)
  case F =>
    intro w mg fa h KX G0 hmg
    refine' G.all_mk KX G0 hmg ?a1 ?l1 ?c1 ?k1 ?a2 ?l2 ?c2 ?k2 ?a3 ?l3 ?c3 ?k3 ?a4 ?l4 ?c4 ?k4 ?a5 ?l5 ?c5 ?k5 ?a6 ?l6 ?c6 ?k6 ?a7 ?l7 ?c7 ?k7 ?a8 ?l8 ?c8 ?k8 ?a9 ?l9 ?c9 ?k9 ?a10 ?l10 ?c10 ?k10 ?a11 ?l11 ?c11 ?k11 ?a12 ?l12 ?c12 ?k12 ?a13 ?l13 ?c13 ?k13 ?a14 ?l14 ?c14 ?k14 ?a15 ?l15 ?c15 ?k15 ?a16 ?l16 ?c16 ?k16 ?a17 ?l17 ?c17 ?k17 ?a18 ?l18 ?c18 ?k18 ?a19 ?l19 ?c19 ?k19 ?a20 ?l20 ?c20 ?k20 ?a21 ?l21 ?c21 ?k21 ?a22 ?i22 ?l22 ?c22 ?k22 ?a23 ?i23 ?l23 ?c23 ?k23 ?a24 ?i24 ?l24 ?c24 ?k24 ?a25 ?i25 ?l25 ?c25 ?k25 ?a26 ?i26 ?l26 ?c26 ?k26 ?a27 ?i27 ?l27 ?c27 ?k27 ?a28 ?l28 ?c28 ?k28 ?aC ?pg ?hd ?po ?sa ?mk ?kc ?n_hard ?n_places ?n_told ?n_heavy ?n_meets ?g_MOST_PLATES ?g_MOST_HARDNESS ?g_MOST_PLACES ?g_MOST_GRINDINGS ?b_len ?b_sum ?b_sorted ?b_all ?b_any ?b_abs ?b_isinstance ?b_list ?b_tuple ?b_int ?b_bool ?b_range ?b_zip ?b_enumerate ?x1 ?x2 ?x3 ?x4 ?x5 ?x6 ?x7 ?x8 ?x9 ?x10 ?x11 ?x12 ?x13 ?x14 ?x15 ?x16 ?x17 ?x18 ?x19 ?x20 ?x21 ?nF ?iF ?tF ?sF ?nR ?iR ?tR ?sR ?nS ?iS ?tS ?sS
    (case aC => k_is); (case a1 => k_is); (case l1 => k_is); (case c1 => k_is); (case k1 => k_is); (case a2 => k_is); (case l2 => k_is); (case c2 => k_is)
    (case k2 => k_is); (case a3 => k_is); (case l3 => k_is); (case c3 => k_is); (case k3 => k_is); (case a4 => k_is); (case l4 => k_is); (case c4 => k_is)
    (case k4 => k_is); (case a5 => k_is); (case l5 => k_is); (case c5 => k_is); (case k5 => k_is); (case a6 => k_is); (case l6 => k_is); (case c6 => k_is)
    (case k6 => k_is); (case a7 => k_is); (case l7 => k_is); (case c7 => k_is); (case k7 => k_is); (case a8 => k_is); (case l8 => k_is); (case c8 => k_is)
    (case k8 => k_is); (case a9 => k_is); (case l9 => k_is); (case c9 => k_is); (case k9 => k_is); (case a10 => k_is); (case l10 => k_is); (case c10 => k_is)
    (case k10 => k_is); (case a11 => k_is); (case l11 => k_is); (case c11 => k_is); (case k11 => k_is); (case a12 => k_is); (case l12 => k_is); (case c12 => k_is)
    (case k12 => k_is); (case a13 => k_is); (case l13 => k_is); (case c13 => k_is); (case k13 => k_is); (case a14 => k_is); (case l14 => k_is); (case c14 => k_is)
    (case k14 => k_is); (case a15 => k_is); (case l15 => k_is); (case c15 => k_is); (case k15 => k_is); (case a16 => k_is); (case l16 => k_is); (case c16 => k_is)
    (case k16 => k_is); (case a17 => k_is); (case l17 => k_is); (case c17 => k_is); (case k17 => k_is); (case a18 => k_is); (case l18 => k_is); (case c18 => k_is)
    (case k18 => k_is); (case a19 => k_is); (case l19 => k_is); (case c19 => k_is); (case k19 => k_is); (case a20 => k_is); (case l20 => k_is); (case c20 => k_is)
    (case k20 => k_is); (case a21 => k_is); (case l21 => k_is); (case c21 => k_is); (case k21 => k_is); (case a22 => k_is); (case i22 => k_is); (case l22 => k_is)
    (case c22 => k_is); (case k22 => k_is); (case a23 => k_is); (case i23 => k_is); (case l23 => k_is); (case c23 => k_is); (case k23 => k_is); (case a24 => k_is)
    (case i24 => k_is); (case l24 => k_is); (case c24 => k_is); (case k24 => k_is); (case a25 => k_is); (case i25 => k_is); (case l25 => k_is); (case c25 => k_is)
    (case k25 => k_is); (case a26 => k_is); (case i26 => k_is); (case l26 => k_is); (case c26 => k_is); (case k26 => k_is); (case a27 => k_is); (case i27 => k_is)
    (case l27 => k_is); (case c27 => k_is); (case k27 => k_is); (case a28 => k_is); (case l28 => k_is); (case c28 => k_is); (case k28 => k_is); (case pg => k_is)
    (case hd => k_is); (case po => k_is); (case sa => k_is); (case mk => k_is); (case kc => k_is); (case n_hard => k_is); (case n_places => k_is); (case n_told => k_is)
    (case n_heavy => k_is); (case n_meets => k_is); (case g_MOST_PLATES => k_is); (case g_MOST_HARDNESS => k_is); (case g_MOST_PLACES => k_is); (case g_MOST_GRINDINGS => k_is); (case b_len => k_is); (case b_sum => k_is)
    (case b_sorted => k_is); (case b_all => k_is); (case b_any => k_is); (case b_abs => k_is); (case b_isinstance => k_is); (case b_list => k_is); (case b_tuple => k_is); (case b_int => k_is)
    (case b_bool => k_is); (case b_range => k_is); (case b_zip => k_is); (case b_enumerate => k_is); (case x1 => first | k_is | rfl | decide +kernel); (case x2 => first | k_is | rfl | decide +kernel); (case x3 => first | k_is | rfl | decide +kernel); (case x4 => first | k_is | rfl | decide +kernel)
    (case x5 => first | k_is | rfl | decide +kernel); (case x6 => k_exc); (case x7 => first | k_is | rfl | decide +kernel); (case x8 => first | k_is | rfl | decide +kernel); (case x9 => first | k_is | rfl | decide +kernel); (case x10 => first | k_is | rfl | decide +kernel); (case x11 => first | k_is | rfl | decide +kernel); (case x12 => first | k_is | rfl | decide +kernel)
    (case x13 => first | k_is | rfl | decide +kernel); (case x14 => first | k_is | rfl | decide +kernel); (case x15 => first | k_is | rfl | decide +kernel); (case x16 => first | k_is | rfl | decide +kernel); (case x17 => first | k_is | rfl | decide +kernel); (case x18 => first | k_is | rfl | decide +kernel); (case x19 => first | k_is | rfl | decide +kernel); (case x20 => first | k_is | rfl | decide +kernel)
    (case x21 => first | k_is | rfl | decide +kernel); (case nF => first | k_is | rfl | decide +kernel); (case iF => first | k_is | rfl | decide +kernel); (case tF => first | k_is | rfl | decide +kernel); (case sF => first | k_is | rfl | decide +kernel); (case nR => first | k_is | rfl | decide +kernel); (case iR => first | k_is | rfl | decide +kernel); (case tR => first | k_is | rfl | decide +kernel)
    (case sR => first | k_is | rfl | decide +kernel); (case nS => first | k_is | rfl | decide +kernel); (case iS => first | k_is | rfl | decide +kernel); (case tS => first | k_is | rfl | decide +kernel); (case sS => first | k_is | rfl | decide +kernel)

