import PyProof.Rows.All
import Wide.All
import OpenK.AllK
import Wide.FinOn
import HandS.ForMost
import HandS.Conv
import HandS.Zip
import HandS.IsInst
import HandS.Wide
import HandS.Walk
import KE.KIndexOf
import KE.GoesEnum
import HandS.TupAny
import HandS.TupLe
import HandS.DictEq
import HandS.Deep
import HandS.WordsExc
import HandS.TryOnly
import HandS.ExcIs
import HandS.ExcField
import HandS.RaiseMore
import HandS.Small
import KE.KExcIs
import HandS.TupMul
import HandS.Lambda
import HandS.ExcInit
import KE.KNest
import HandS.DictComp
import HandS.TupLen
import HandS.More
import PyProof.Rows.TupDisplay
import HandS.Style
import HandS.Iter
import HandS.DictTup
import HandS.DictSubView
import OpenK.KCls
import HandS.ExcValue
import HandS.SetFor
import HandS.Defaults
import PySem.Challenge.RW_groundmatch_k59_refusals_by_hand
set_option Elab.async false
set_option linter.all false
set_option maxRecDepth 100000
set_option maxHeartbeats 4000000
set_option exponentiation.threshold 4000
namespace G
open PySem
def topS (i : Nat) : Stmt := PySem.Challenge.pw_groundmatch_k59_refusals_by_hand.main.body.getD i (.Pass ⟨0, 0, 0, 0⟩)
end G

namespace G
open PySem PySem.Spec PyProof.Rows L2

section
variable {X : Cx}
theorem op_or {f : Value → Value → Sem Value} {r1 r2 : R2} (h1 : OpR X f r1) (h2 : OpR X f r2) : OpR X f (fun x y H Q => r1 x y H Q ∨ r2 x y H Q) := by
  intro pins s σ H x y v u Q I rx ry h
  rcases h with h | h
  · exact h1 pins s σ H x y v u Q I rx ry h
  · exact h2 pins s σ H x y v u Q I rx ry h
/-- sum(t) of a tuple of ints -/
def rSumT (K : PySem.W.Frag) : List V → Hp → VK → Prop := fun vs H Q => ∃ (a : Addr) (ns : List Int), vs = [V.ref a] ∧ SqT K H a (ns.map V.int) ∧ Q (.int ns.sum) H
/-- sorted(t) of a tuple of ints, fewer than 64 -/
def rSortedT (K : PySem.W.Frag) : List V → Hp → VK → Prop := fun vs H Q => ∃ (a : Addr) (ns : List Int), vs = [V.ref a] ∧ SqT K H a (ns.map V.int) ∧ ns.length < 64 ∧
  ∀ (ns' : List Int) (p : Addr), ns'.Perm ns → ns'.Pairwise (· ≤ ·) → H p = none → Q (.ref p) (upd H p (.lst (ns'.map V.int)))
/-- tuple(xs) of a list: the new tuple known by its object (it has no dict) -/
def rTupleF (K : PySem.W.Frag) : List V → Hp → VK → Prop := fun xs H Q => ∃ p ys, xs = [.ref p] ∧ SqL K H p ys ∧ ∀ (l : Addr) (ob : Obj), ob.dict = none → H l = none → Q (.ref l) (upd H l (.frz ob (.tup ys)))
/-- t.m(e, ..), t such a tuple -/
def tBMT (r : V → List V → Hp → VK → Prop) (to : TE) (t : TA) : TE := fun σ H Q => to σ H fun x H1 => (∃ p ob ys, x = .ref p ∧ H1 p = some (.frz ob (.tup ys)) ∧ ob.dict = none) ∧ t σ H1 fun xs H2 => r x xs H2 Q
/-! zip of two sequences, lists or tuples in any mix -/
end
def SqB (k : Bool) (K : PySem.W.Frag) (H : Hp) (a : Addr) (xs : List V) : Prop := match k with | true => SqL K H a xs | false => SqT K H a xs
def ItB (k : Bool) (h : Heap) (it l : Addr) (i : Nat) : Prop := match k with | true => h.IsListIter it l i | false => h.IsTupleIter it l i
def IsB (k : Bool) (h : Heap) (l : Addr) (xs : Array Value) : Prop := match k with | true => h.IsList l xs | false => h.IsTuple l xs
def itObj (k : Bool) (l : Addr) : Obj := { cls := .type (match k with | true => "list_iterator" | false => "tuple_iterator"), data := .fields #[.ref l, .int 0 0] }
theorem ItB.at {k : Bool} {h h' : Heap} {it l : Addr} {i : Nat} (x : ItB k h it l i) (e : ∀ o, h.get? it = some o → h'.get? it = some o) : ItB k h' it l i := by
  cases k with
  | true => exact Heap.IsListIter.at x e
  | false => exact Heap.IsTupleIter.at x e
/-- what a zip's turn yields: a new pair of the two items at hand -/
def ItzM (j k : Bool) (K : PySem.W.Frag) (a b : Addr) : It :=
  ⟨fun i H => ∃ (xs ys : List V) (x y : V), SqB j K H a xs ∧ SqB k K H b ys ∧ xs[i]? = some x ∧ ys[i]? = some y,
    fun i H v H' => ∃ T x y, v = .ref T ∧ H T = none ∧ H' = upd H T (.tup [x, y]) ∧ (∀ xs, SqB j K H a xs → xs[i]? = some x) ∧ ∀ ys, SqB k K H b ys → ys[i]? = some y,
    fun i H => ∃ xs ys : List V, SqB j K H a xs ∧ SqB k K H b ys ∧ i ≤ xs.length ∧ i ≤ ys.length ∧ (i = xs.length ∨ i = ys.length)⟩
def iZipM (K : PySem.W.Frag) (ta : TA) : TI := fun σ H R => ta σ H fun vs H1 => ∃ j k a b xs ys, vs = [.ref a, .ref b] ∧ SqB j K H1 a xs ∧ SqB k K H1 b ys ∧ R (ItzM j k K a b) H1
end G

namespace G
open PySem PySem.Spec PyProof.Rows L2

/-! ### heaps: F the frozen part, H all -/
def del (H : Hp) (a : Addr) : Hp := fun b => if b = a then none else H b
theorem del_same {H : Hp} {a : Addr} : del H a a = none := by unfold del; rw [if_pos rfl]
theorem del_ne {H : Hp} {a b : Addr} (h : b ≠ a) : del H a b = H b := by unfold del; rw [if_neg h]
theorem del_upd_ne {H : Hp} {a p : Addr} {o : HO} (h : p ≠ a) : del (upd H p o) a = upd (del H a) p o := by
  funext b
  unfold del upd
  by_cases h1 : b = a
  · subst h1
    simp [Ne.symm h]
  · simp [h1]
theorem del_sub {H : Hp} {a : Addr} : Same (del H a) H := fun b o e => by
  by_cases h : b = a
  · rw [h, del_same] at e; cases e
  · rw [del_ne h] at e; exact e
theorem same_upd {H : Hp} {p : Addr} {o : HO} (h : H p = none) : Same H (upd H p o) := fun b x e => by
  rw [upd_ne (ne_of_none e h)]
  exact e
theorem same_updR {F H : Hp} {p : Addr} {o : HO} (e : Same F H) (h : F p = none) : Same F (upd H p o) := fun b x q => by
  rw [upd_ne (ne_of_none q h)]
  exact e b x q
theorem same_upd2 {F H : Hp} {p : Addr} {o : HO} (e : Same F H) : Same (upd F p o) (upd H p o) := fun b x q => by
  by_cases h : b = p
  · rw [h, upd_same] at q ⊢; exact q
  · rw [upd_ne h] at q ⊢; exact e b x q
theorem sub_none {F H : Hp} {p : Addr} (e : Same F H) (h : H p = none) : F p = none := e.free h

structure Ext (F H F' H' : Hp) : Prop where
  hh : Same H H'
  ff : Same F F'
  fh : Same F' H'
  fr : ∀ b, H b ≠ none → F b = none → F' b = none
  nt : ∀ b ps, F' b = some (.tbl ps) → F b = some (.tbl ps)
theorem Ext.refl {F H : Hp} (e : Same F H) : Ext F H F H := ⟨Same.refl H, Same.refl F, e, fun _ _ h => h, fun _ _ h => h⟩
theorem Ext.trans {F H F1 H1 F2 H2 : Hp} (a : Ext F H F1 H1) (b : Ext F1 H1 F2 H2) : Ext F H F2 H2 :=
  ⟨a.hh.trans b.hh, a.ff.trans b.ff, b.fh, fun c h1 h2 => b.fr c (fun z => by
    cases q : H c with
    | none => exact h1 q
    | some o => rw [a.hh c o q] at z; cases z) (a.fr c h1 h2), fun c ps h => a.nt c ps (b.nt c ps h)⟩
theorem nt_upd {F F1 : Hp} {p : Addr} {o : HO} (h : ∀ b ps, F1 b = some (.tbl ps) → F b = some (.tbl ps)) (n : ∀ ps, o ≠ .tbl ps) : ∀ b ps, upd F1 p o b = some (.tbl ps) → F b = some (.tbl ps) := fun b ps e => by
  by_cases z : b = p
  · rw [z, upd_same] at e
    exact absurd (Option.some.inj e) (n ps)
  · rw [upd_ne z] at e
    exact h b ps e
/-- a new frozen object -/
theorem Ext.new {F H F1 H1 : Hp} {p : Addr} {o : HO} (a : Ext F H F1 H1) (h : H1 p = none) (n : ∀ ps, o ≠ .tbl ps := by intro _ z; cases z) : Ext F H (upd F1 p o) (upd H1 p o) :=
  ⟨a.hh.trans (same_upd h), a.ff.trans (same_upd (sub_none a.fh h)), same_upd2 a.fh, fun b h1 h2 => by
    rw [upd_ne]
    · exact a.fr b h1 h2
    · intro z
      subst z
      exact h1 (a.hh.free h), nt_upd a.nt n⟩
/-- a new object that will change -/
theorem Ext.mut {F H F1 H1 : Hp} {p : Addr} {o : HO} (a : Ext F H F1 H1) (h : H1 p = none) : Ext F H F1 (upd H1 p o) :=
  ⟨a.hh.trans (same_upd h), a.ff, same_updR a.fh (sub_none a.fh h), a.fr, a.nt⟩
/-- it changes -/
theorem Ext.chg {F H F1 H1 : Hp} {p : Addr} {o : HO} (a : Ext F H F1 H1) (h : H p = none) (hf : F1 p = none) : Ext F H F1 (upd H1 p o) :=
  ⟨same_updR a.hh h, a.ff, same_updR a.fh hf, a.fr, a.nt⟩
/-- it is frozen -/
theorem Ext.frz {F H F1 H1 : Hp} {p : Addr} {o : HO} (a : Ext F H F1 H1) (h : H p = none) (hf : F1 p = none) (ho : H1 p = some o) (n : ∀ ps, o ≠ .tbl ps := by intro _ z; cases z) : Ext F H (upd F1 p o) H1 :=
  ⟨a.hh, a.ff.trans (same_upd hf), fun b x q => by
    by_cases z : b = p
    · rw [z, upd_same] at q; rw [z]; cases q; exact ho
    · rw [upd_ne z] at q; exact a.fh b x q, fun b h1 h2 => by
    rw [upd_ne]
    · exact a.fr b h1 h2
    · intro z
      subst z
      exact h1 h, nt_upd a.nt n⟩
/-! ### what stays when the frozen part grows -/
theorem sqT_mono {K : PySem.W.Frag} {H H' : Hp} {a : Addr} {xs : List V} (e : Same H H') (h : SqT K H a xs) : SqT K H' a xs := by
  rcases h with (h | ⟨o, h⟩) | h
  · exact .inl (.inl (e _ _ h))
  · exact .inl (.inr ⟨o, e _ _ h⟩)
  · exact .inr h
theorem sqL_mono {K : PySem.W.Frag} {H H' : Hp} {a : Addr} {xs : List V} (e : Same H H') (h : SqL K H a xs) : SqL K H' a xs := e.seq h
mutual
theorem dp_mono {K : PySem.W.Frag} {H H' : Hp} (e : Same H H') : ∀ {v : V} {d : PyData}, Dp K H v d → Dp K H' v d
  | _, _, .non => .non
  | _, _, .bl b => .bl b
  | _, _, .int i => .int i
  | _, _, .str x => .str x
  | _, _, .lst h hs => .lst (sqL_mono e h) (dpAll_mono e hs)
  | _, _, .tup h hs => .tup (sqT_mono e h) (dpAll_mono e hs)
theorem dpAll_mono {K : PySem.W.Frag} {H H' : Hp} (e : Same H H') : ∀ {vs : List V} {ds : List PyData}, DpAll K H vs ds → DpAll K H' vs ds
  | _, _, .nil => .nil
  | _, _, .cons h hs => .cons (dp_mono e h) (dpAll_mono e hs)
end

/-! ### defs of the module -/
section
variable {P : Program} {w : World} {K : PySem.W.Frag} {mg : Str → Option Value} {base : Heap}
/-- the def of a name stands in the module -/
structure FunAt (K : PySem.W.Frag) (mg : Str → Option Value) (x : Str) (st : Stmt) (ps : List Str) : Prop where
  ex : ∃ f fd, Fun K x x st f fd ∧ mg x = some (.ref f) ∧ Binds K fd ps []
/-- .. and keeps a promise -/
structure Def (P : Program) (w : World) (K : PySem.W.Frag) (mg : Str → Option Value) (base : Heap) (k : Nat) (x : Str) (ps : List Str) (sp : Sp) : Prop where
  ex : ∃ f fd, FnOk P w K mg base CX0 k f fd ps sp ∧ Binds K fd ps [] ∧ mg x = some (.ref f) ∧ PySem.W.keepIn K (.ref f) = true
theorem FunAt.def {x : Str} {st : Stmt} {N ps : List Str} {k : Nat} {sp : Sp} (F : FunAt K mg x st ps) (S : FnScope N ps (defScope st)) (len : ∀ vs H Q E, sp vs H Q E → vs.length = ps.length)
    (hbody : ∀ (f : Addr) (cdv : Value) (A : Around) (outer : List Env) (s : Shared) (H : Hp) (vs : List V) (Q : VK) (E : XK), Room k (A.deeper (envOfC x (defScope st) s.heap.objs.size f cdv)) → sp vs H Q E →
      ∃ t, PSs (cxOf CX0 P w K mg base N x (defScope st) f cdv A outer s H E).nox (defBody st) t ∧ t { nx := fun _ H' => Q .non H', rt := Q } (start N vs) H) : Def P w K mg base (k + 1) x ps sp := by
  obtain ⟨f, fd, F, m, b⟩ := F.ex
  exact ⟨f, fd, F.ok S len (hbody f), b, m, F.kp⟩
theorem Def.mono {j k : Nat} {x : Str} {ps : List Str} {sp : Sp} (D : Def P w K mg base j x ps sp) (h : j ≤ k) : Def P w K mg base k x ps sp := by
  obtain ⟨f, fd, F, b⟩ := D.ex
  exact ⟨f, fd, F.mono h, b⟩
end
section
variable {X : Cx} {k : Nat} {x : Str} {ps : List Str} {sp : Sp} {e : Expr} {es : List Expr} {t : TA} {p pos : Pos}
theorem pe_d (D : Def X.prog X.w X.K X.mg X.base k x ps sp) (hr : Room k X.A) (hg : Gl X x) (ha : PA X (e :: es) t) (hdb : (x == ("__debug__" : Str)) = false := by decide)
    (he : starEach (e :: es) X.env = (false, eval e X.env) :: starEach es X.env := by rfl) (hpl : (backTo pos (starEach es X.env)).any (·.1) = false := by rfl) :
    PE X (.Call (.Name x p) (e :: es) [] pos) (tCall sp [] E0 t) := by
  obtain ⟨f, fd, F, b, m, kp⟩ := D.ex
  exact pe_call F hr hg m kp b .nil pass0 ha hdb he hpl
end
/-- methods -/
structure MethAt (K : PySem.W.Frag) (C : Addr) (m qual : Str) (st : Stmt) (ps : List Str) : Prop where
  ex : ∃ f fd, Fun K m qual st f fd ∧ Meth K C m f ∧ Binds K fd ps []
structure DefM (P : Program) (w : World) (K : PySem.W.Frag) (mg : Str → Option Value) (base : Heap) (k : Nat) (C : Addr) (m : Str) (ps : List Str) (sp : Sp) : Prop where
  ex : ∃ f fd, FnOk P w K mg base CX0 k f fd ps sp ∧ Binds K fd ps [] ∧ Meth K C m f
theorem MethAt.def {P : Program} {w : World} {K : PySem.W.Frag} {mg : Str → Option Value} {base : Heap} {C : Addr} {m qual : Str} {st : Stmt} {N ps : List Str} {k : Nat} {sp : Sp} (F : MethAt K C m qual st ps) (S : FnScope N ps (defScope st)) (len : ∀ vs H Q E, sp vs H Q E → vs.length = ps.length)
    (hbody : ∀ (f : Addr) (cdv : Value) (A : Around) (outer : List Env) (s : Shared) (H : Hp) (vs : List V) (Q : VK) (E : XK), Room k (A.deeper (envOfC qual (defScope st) s.heap.objs.size f cdv)) → sp vs H Q E →
      ∃ t, PSs (cxOf CX0 P w K mg base N qual (defScope st) f cdv A outer s H E).nox (defBody st) t ∧ t { nx := fun _ H' => Q .non H', rt := Q } (start N vs) H) : DefM P w K mg base (k + 1) C m ps sp := by
  obtain ⟨f, fd, F, m, b⟩ := F.ex
  exact ⟨f, fd, F.ok S len (hbody f), b, m⟩
section
variable {X : Cx} {k : Nat} {C : Addr} {m : Str} {ps : List Str} {sp : Sp} {o e : Expr} {es : List Expr} {ta : TE} {t : TA} {apos pos : Pos} {pl : Sem Bool}
end

section
variable {X : Cx} {k : Nat} {C : Addr} {m : Str} {ps : List Str} {sp : Sp} {o : Expr} {ta : TE} {apos pos : Pos} {pl : Sem Bool}
end
/-- a class that is made by its __init__ -/
structure DefC (P : Program) (w : World) (K : PySem.W.Frag) (mg : Str → Option Value) (base : Heap) (k : Nat) (C : Addr) (x : Str) (ps : List Str) (sp : Sp) : Prop where
  ex : ∃ f fd, FnOk P w K mg base CX0 k f fd ps sp ∧ Binds K fd ps [] ∧ Mk K C f ∧ mg x = some (.ref C)
section
variable {X : Cx} {k : Nat} {C : Addr} {x : Str} {ps : List Str} {sp : Sp} {e : Expr} {es : List Expr} {t : TA} {p pos : Pos}
end

/-! ### unions of rules -/
section
variable {X : Cx}
abbrev rAddU (K : PySem.W.Frag) : R2 := fun x y H Q => rI0 (fun i j => .int (i + j)) x y H Q ∨ (rCat x y H Q ∨ rCatT K x y H Q)
theorem opAddU : OpR X (binaryOp .Add) (rAddU X.K) := op_or op_add (op_or op_cat op_catT)
abbrev rMulU : R2 := fun x y H Q => rI CMul (fun i j => .int (i * j)) x y H Q ∨ rRep x y H Q
theorem slU : SlR X (fun x lo hi H Q => rSlL X.K x lo hi H Q ∨ rSlT X.K x lo hi H Q) := SlR.or sl_list sl_tup
/-- for x in s, s a list or a tuple -/
def iSeq (K : PySem.W.Frag) (tl : TE) : TI := fun σ H R => tl σ H fun x H1 => (∃ a, x = .ref a ∧ (∃ xs, SqL K H1 a xs) ∧ R (Itl K a) H1) ∨ (∃ a, x = .ref a ∧ (∃ xs, SqT K H1 a xs) ∧ R (Itt K a) H1)
theorem pi_seq {tg l : Expr} {tl : TE} (hl : PE X l tl) : PI X tg l (iSeq X.K tl) := by
  refine ⟨fun pins s σ H R I h => ?_⟩
  refine thn (hl.run pins s σ H _ I h) fun v s1 ⟨x, H1, I1, r1, q1⟩ => ?_
  have fp : ∀ b ∈ [s1.heap.objs.size], FpOk X pins H1 b := fun b hb => by
    rw [List.mem_singleton.mp hb]
    exact I1.fpOk (Nat.le_refl _) (I1.hok.fresh (Nat.le_refl _))
  rcases q1 with ⟨a, e, ⟨xs, hq⟩, q⟩ | ⟨a, e, ⟨xs, hq⟩, q⟩
  · subst e
    cases r1
    obtain ⟨its, rv, p, hz⟩ := I1.list hq
    exact wpAny_pyIter_list p.isList ⟨_, [s1.heap.objs.size], _, _, H1, rfl, I1.kept (t' := s1.toks) fun b o e => Heap.get?_push_of_some _ e, turn_list a _, ⟨_, Heap.get?_push_size _ rfl, rfl, rfl⟩, fp, q⟩
  · subst e
    cases r1
    obtain ⟨its, rv, p, hz⟩ := I1.tuple hq
    exact wpAny_pyIter_tuple (show s1.heap.IsTuple a its.toArray from p) ⟨_, [s1.heap.objs.size], _, _, H1, rfl, I1.kept (t' := s1.toks) fun b o e => Heap.get?_push_of_some _ e, turn_tuple a _, ⟨_, Heap.get?_push_size _ rfl, rfl, rfl⟩, fp, q⟩
end


/-! ### the same rules, the written part by its own letter -/
section
variable {X : Cx} {K : PySem.W.Frag}
theorem k_ix (h : X.K = K) : IxR X (rIx K) := by subst h; exact ix_seq
abbrev rEqU (K : PySem.W.Frag) : R2 := fun x y H Q => rEq x y H Q ∨ rEqD K x y H Q
abbrev rNeU (K : PySem.W.Frag) : R2 := fun x y H Q => rNe x y H Q ∨ rNeD K x y H Q
theorem k_eq (h : X.K = K) (hu : X.A.units + 64 < cLine) : OpR X (compareOp .Eq) (rEqU K) := by subst h; exact op_or op_eq (op_eqD hu)
theorem k_ne (h : X.K = K) (hu : X.A.units + 64 < cLine) : OpR X (compareOp .NotEq) (rNeU K) := by subst h; exact op_or op_ne (op_neD hu)
theorem k_add (h : X.K = K) : OpR X (binaryOp .Add) (rAddU K) := by subst h; exact opAddU
abbrev rSlU (K : PySem.W.Frag) : V → Option Int → Option Int → Hp → VK → Prop := fun x lo hi H Q => rSlL K x lo hi H Q ∨ rSlT K x lo hi H Q
theorem k_sl (h : X.K = K) : SlR X (rSlU K) := by subst h; exact slU
abbrev rLen (K : PySem.W.Frag) : List V → Hp → VK → Prop := fun xs H Q => ∃ p ys, xs = [V.ref p] ∧ (SqL K H p ys ∨ SqT K H p ys) ∧ Q (V.int ys.length) H
abbrev rSumU (K : PySem.W.Frag) : List V → Hp → VK → Prop := fun vs H Q => rSum K vs H Q ∨ rSumT K vs H Q
abbrev rSortedU (K : PySem.W.Frag) : List V → Hp → VK → Prop := fun vs H Q => rSorted K vs H Q ∨ rSortedT K vs H Q
abbrev rListOf (K : PySem.W.Frag) : List V → Hp → VK → Prop := fun xs H Q => ∃ p ys, xs = [V.ref p] ∧ (SqL K H p ys ∨ SqT K H p ys) ∧ ∀ l, H l = none → Q (V.ref l) (upd H l (.lst ys))
theorem k_list (h : X.K = K) : CallR X (.type "list") (rListOf K) := by subst h; exact call_list_of
abbrev rTupleOf (K : PySem.W.Frag) : List V → Hp → VK → Prop := fun xs H Q => ∃ p ys, xs = [V.ref p] ∧ ((SqL K H p ys ∧ ∀ l, H l = none → Q (V.ref l) (upd H l (.tup ys))) ∨ SqT K H p ys ∧ Q (V.ref p) H)
theorem k_seq {tg l : Expr} {tl : TE} (h : X.K = K) (hl : PE X l tl) : PI X tg l (iSeq K tl) := by subst h; exact pi_seq hl
theorem k_tup {es : List Expr} {k : Nat} {t : TGs} {n : Nat} {pos : Pos} (h : X.K = K) (hc : X.calm = true) (hg : PGs X es t) (hn : (assignEach es X.env).length = n := by rfl) (hst : (assignEach es X.env).findIdx? (·.1) = none := by rfl) :
    PG X (.Tuple es k pos) (gTup K n t) := by subst h; exact pg_tup hc hg hn hst
theorem k_bm {o e : Expr} {es : List Expr} {to : TE} {t : TA} {name : Str} {apos cpos : Pos} {T id : String} {r : V → List V → Hp → VK → Prop} (h : X.K = K) (hp : PlainAttrs T) (hs : Slot T name id) (ht : typeOf (Value.builtin id) = pure (Value.type "method_descriptor")) (hm : MtR X id r) (ho : PE X o to) (ha : PA X (e :: es) t)
    (h1 : attributeBase o name X.env (eval o X.env) = eval o X.env := by rfl)
    (h2 : ((((backTo cpos (starEach (e :: es) X.env)).all fun x => !x.fst) && (backToKw cpos (keywordEach [] X.env)).all fun x => x.fst.isSome) && decide (((e :: es).length + ([] : List Keyword).length + if ([] : List Keyword).isEmpty = true then 0 else 1) < 30)) = true := by rfl)
    (h3 : (apos.endLine == cpos.line) = true := by rfl) (h4 : starEach (e :: es) X.env = (false, eval e X.env) :: starEach es X.env := by rfl) (h5 : ((backTo cpos (starEach es X.env)).any fun x => x.fst) = false := by rfl) :
    PE X ((o.Attribute name apos).Call (e :: es) [] cpos) (tBM K T r to t) := by subst h; exact pe_bm hp hs ht hm ho ha h1 h2 h3 h4 h5
abbrev rTupIx (K : PySem.W.Frag) : V → List V → Hp → VK → Prop := fun x xs H Q => ∃ p, ∃ ns : List Int, ∃ k : Int, x = .ref p ∧ xs = [.int k] ∧ SqT K H p (ns.map V.int) ∧ k ∈ ns ∧ Q (.int ((ns.idxOf k : Nat) : Int)) H
end

/-! ### built-ins that no name of the module hides -/
structure Blt (mg : Str → Option Value) : Prop where
  len : mg "len" = none
  sum : mg "sum" = none
  sorted : mg "sorted" = none
  all : mg "all" = none
  any : mg "any" = none
  abs : mg "abs" = none
  isinstance : mg "isinstance" = none
  list : mg "list" = none
  tuple : mg "tuple" = none
  int : mg "int" = none
  bool : mg "bool" = none
  range : mg "range" = none
  zip : mg "zip" = none
  enumerate : mg "enumerate" = none
theorem bb_isinstance : bootBuiltins "isinstance" = some (.builtin "isinstance") := by decide +kernel
theorem bb_list : bootBuiltins "list" = some (.type "list") := by decide +kernel
theorem start_eq {t : TS} {D : Ends} {σ σ' : L2.St} {H : Hp} (e : σ = σ') (h : t D σ' H) : t D σ H := by rw [e]; exact h
end G

namespace G
open PySem PySem.Spec PyProof.Rows L2

section
variable {K : PySem.W.Frag} {σ : L2.St} {H F : Hp} {Q : VK} {QT : Bool → Hp → Prop} {QA : List V → Hp → Prop} {D : Ends} {i : Nat} {v x y : V} {ta tb te : TE} {t u : TT} {ts us : TS} {tr : TA} {a p : Addr} {xs ys : List V} {o : HO}

/-! ### expressions, step by step -/
theorem s_var (h : σ[i]? = some (some v)) (q : Q v H) : tVar i σ H Q := ⟨v, h, q⟩
theorem s_c (q : Q v H) : tC v σ H Q := q
theorem s_op {r : R2} (h : ta σ H fun x H1 => tb σ H1 fun y H2 => r x y H2 Q) : tOp r ta tb σ H Q := h
theorem s_un {r : V → Hp → VK → Prop} (h : ta σ H fun x H1 => r x H1 Q) : tUn r ta σ H Q := h
theorem s_neg {m : Int} (q : Q (.int (-m)) H) : (rU fun i => .int (-i)) (.int m) H Q := ⟨m, rfl, q⟩
theorem s_test (h : te σ H fun x H1 => ∃ k, x = .bl k ∧ QT k H1) : tTest te σ H QT := h
theorem s_B (h : te σ H fun x H1 => ∃ k, x = .bl k ∧ QT k H1) : tB te σ H QT := h
theorem s_bl {b : Bool} {A : Bool → Prop} (q : A b) : ∃ k, V.bl b = .bl k ∧ A k := ⟨b, rfl, q⟩
theorem s_not (h : t σ H fun c H1 => QT (!c) H1) : tNot t σ H QT := h
theorem s_and (h : t σ H fun c H1 => if c = true then u σ H1 QT else QT false H1) : tAnd t u σ H QT := h
theorem s_or (h : t σ H fun c H1 => if c = true then QT true H1 else u σ H1 QT) : tOr t u σ H QT := h
theorem s_notV (h : ta σ H fun x H1 => ∃ c, x = .bl c ∧ Q (.bl (!c)) H1) : tNotV ta σ H Q := h
theorem s_andV (h : ta σ H fun x H1 => ∃ c, x = .bl c ∧ if c = true then tb σ H1 Q else Q (.bl false) H1) : tAndV ta tb σ H Q := h
theorem s_orV (h : ta σ H fun x H1 => ∃ c, x = .bl c ∧ if c = true then Q (.bl true) H1 else tb σ H1 Q) : tOrV ta tb σ H Q := h
theorem s_if (h : t σ H fun c H1 => if c = true then ta σ H1 Q else tb σ H1 Q) : tIf t ta tb σ H Q := h
theorem s_yes (q : QT true H) : tYes σ H QT := q
theorem s_cT {A B : Prop} (h : A) : if true = true then A else B := iteT h
theorem s_cF {A B : Prop} (h : B) : if false = true then A else B := iteF h
theorem s_nT {A B : Prop} (h : A) : if (!false) = true then A else B := iteT h
theorem s_nF {A B : Prop} (h : B) : if (!true) = true then A else B := iteF h
theorem s_non {A : Prop} (h : A) : V.non = V.non ∧ A := ⟨rfl, h⟩
/-! ints -/
theorem s_I0 {g : Int → Int → V} {m n : Int} (q : Q (g m n) H) : rI0 g (.int m) (.int n) H Q := ⟨m, n, rfl, rfl, q⟩
theorem s_addI {m n : Int} (q : Q (.int (m + n)) H) : rAddU K (.int m) (.int n) H Q := .inl (s_I0 q)
theorem s_eq (h : scal x y = true) (q : Q (.bl (decide (x = y))) H) : rEqU K x y H Q := .inl ⟨h, q⟩
theorem s_ne (h : scal x y = true) (q : Q (.bl (!decide (x = y))) H) : rNeU K x y H Q := .inl ⟨h, q⟩
theorem s_eqI {m n : Int} (q : Q (.bl (decide (m = n))) H) : rEqU K (.int m) (.int n) H Q := .inl ⟨rfl, by rw [show decide (V.int m = V.int n) = decide (m = n) from by simp]; exact q⟩
theorem s_neI {m n : Int} (q : Q (.bl (!decide (m = n))) H) : rNeU K (.int m) (.int n) H Q := .inl ⟨rfl, by rw [show decide (V.int m = V.int n) = decide (m = n) from by simp]; exact q⟩
theorem s_eqB {m n : Bool} (q : Q (.bl (decide (m = n))) H) : rEqU K (.bl m) (.bl n) H Q := .inl ⟨rfl, by rw [show decide (V.bl m = V.bl n) = decide (m = n) from by simp]; exact q⟩
theorem s_neB {m n : Bool} (q : Q (.bl (!decide (m = n))) H) : rNeU K (.bl m) (.bl n) H Q := .inl ⟨rfl, by rw [show decide (V.bl m = V.bl n) = decide (m = n) from by simp]; exact q⟩
theorem s_eqD {d e : PyData} (h1 : Dp K H x d) (h2 : Dp K H y e) (s1 : SeqAt.shaped d = true) (s2 : SeqAt.shaped e = true) (q : Q (.bl (PyData.eqv d e)) H) : rEqU K x y H Q := .inr ⟨d, e, h1, h2, s1, s2, q⟩
theorem s_neD {d e : PyData} (h1 : Dp K H x d) (h2 : Dp K H y e) (s1 : SeqAt.shaped d = true) (s2 : SeqAt.shaped e = true) (q : Q (.bl (!PyData.eqv d e)) H) : rNeU K x y H Q := .inr ⟨d, e, h1, h2, s1, s2, q⟩
theorem s_chain {r r' : R2} {tc : TE} (h : ta σ H fun x H1 => tb σ H1 fun y H2 => r x y H2 fun z H3 => ∃ k, z = .bl k ∧ if k = true then tc σ H3 fun w H4 => r' y w H4 Q else Q (.bl false) H3) : tChain r r' ta tb tc σ H Q := h
/-! calls -/
theorem s_cons (h : ta σ H fun x H1 => tr σ H1 fun xs H2 => QA (x :: xs) H2) : tCons ta tr σ H QA := h
theorem s_nil (q : QA [] H) : tNil σ H QA := q
theorem s_call {sp : Sp} {E : XK} (h : tr σ H fun vs H1 => sp vs H1 Q E) : tCall sp [] E tr σ H Q := by
  show tr σ H fun vs H1 => sp (vs ++ []) H1 Q E
  simp only [List.append_nil]
  exact h
theorem s_cb {r : List V → Hp → VK → Prop} (h : tr σ H fun vs H1 => r vs H1 Q) : tCB r tr σ H Q := h
theorem s_meth {C : Addr} {m : Str} {sp : Sp} {E : XK} (h : ta σ H fun x H1 => ∃ a dx fs, x = .ref a ∧ H1 a = some (.ins C dx fs) ∧ fs.lookup m = none ∧ tr σ H1 fun vs H2 => sp (x :: vs) H2 Q E) : tMeth C m sp [] E ta tr σ H Q := by
  show ta σ H fun x H1 => ∃ a dx fs, x = .ref a ∧ H1 a = some (.ins C dx fs) ∧ fs.lookup m = none ∧ tr σ H1 fun vs H2 => sp (x :: (vs ++ [])) H2 Q E
  simp only [List.append_nil]
  exact h
theorem s_make {C : Addr} {sp : Sp} {E : XK} (h : tr σ H fun vs H1 => ∀ x dx, H1 x = none → H1 dx = none → dx ≠ x → sp (.ref x :: vs) (upd (upd H1 dx (.own x)) x (.ins C dx [])) (fun v H2 => v = .non ∧ Q (.ref x) H2) E) : tMake C sp [] E tr σ H Q := by
  show tr σ H fun vs H1 => ∀ x dx, H1 x = none → H1 dx = none → dx ≠ x → sp (.ref x :: (vs ++ [])) (upd (upd H1 dx (.own x)) x (.ins C dx [])) (fun v H2 => v = .non ∧ Q (.ref x) H2) E
  simp only [List.append_nil]
  exact h
theorem s_tup (h : tr σ H fun xs H1 => xs.length ≤ sizeLine ∧ ∀ p, H1 p = none → Q (.ref p) (upd H1 p (.tup xs))) : tTup tr σ H Q := h
theorem s_lst (h : tr σ H fun xs H1 => xs.length ≤ sizeLine ∧ ∀ p, H1 p = none → Q (.ref p) (upd H1 p (.lst xs))) : tLst tr σ H Q := h
theorem s_bm {T : String} {r : V → List V → Hp → VK → Prop} (h : te σ H fun x H1 => tyV K T x H1 ∧ tr σ H1 fun xs H2 => r x xs H2 Q) : tBM K T r te tr σ H Q := h
theorem s_bm0 {T : String} {r : V → List V → Hp → VK → Prop} (h : te σ H fun x H1 => tyV K T x H1 ∧ r x [] H1 Q) : tBM0 K T r te σ H Q := h
theorem s_bmT {r : V → List V → Hp → VK → Prop} (h : te σ H fun x H1 => (∃ p ob ys, x = .ref p ∧ H1 p = some (.frz ob (.tup ys)) ∧ ob.dict = none) ∧ tr σ H1 fun xs H2 => r x xs H2 Q) : tBMT r te tr σ H Q := h
theorem s_fld {f : Str} (h : ta σ H fun x H1 => ∃ a C dx fs v, x = .ref a ∧ H1 a = some (.ins C dx fs) ∧ Cls K C ∧ NoAttr K C f ∧ fs.lookup f = some v ∧ Q v H1) : tFld K ta f σ H Q := h
theorem s_dget (h : ta σ H fun x H1 => tb σ H1 fun y H2 => ∃ a v, x = .ref a ∧ DGet H2 a y (some v) ∧ Q v H2) : tDGet ta tb σ H Q := h
theorem s_sl {r : V → Option Int → Option Int → Hp → VK → Prop} {tl th : TO} (h : te σ H fun x H1 => tl σ H1 fun l H2 => th σ H2 fun u H3 => r x l u H3 Q) : tSl r te tl th σ H Q := h
theorem s_part {QO : Option Int → Hp → Prop} (h : te σ H fun x H1 => ∃ i, x = .int i ∧ QO (some i) H1) : tPart te σ H QO := h
theorem s_nopart {QO : Option Int → Hp → Prop} (h : QO none H) : tNoPart σ H QO := h
theorem s_int {m : Int} {P : Int → Prop} (h : P m) : ∃ i, V.int m = .int i ∧ P i := ⟨m, rfl, h⟩
/-! sequences -/
theorem s_ixT {m : Int} (h : SqT K H p xs) (hv : atI xs m = some v) (q : Q v H) : rIx K (.ref p) (.int m) H Q := .inr (.inl ⟨p, xs, m, v, rfl, rfl, h, hv, q⟩)
theorem s_ixL {m : Int} (h : SqL K H p xs) (hv : atI xs m = some v) (q : Q v H) : rIx K (.ref p) (.int m) H Q := .inl ⟨p, xs, m, v, rfl, rfl, h, hv, q⟩
theorem s_lenL (h : SqL K H p xs) (q : Q (.int xs.length) H) : rLen K [.ref p] H Q := ⟨p, xs, rfl, .inl h, q⟩
theorem s_lenT (h : SqT K H p xs) (q : Q (.int xs.length) H) : rLen K [.ref p] H Q := ⟨p, xs, rfl, .inr h, q⟩
theorem s_sumL {ns : List Int} (h : SqL K H p (ns.map V.int)) (q : Q (.int ns.sum) H) : rSumU K [.ref p] H Q := .inl ⟨p, ns, rfl, h, q⟩
theorem s_sumT {ns : List Int} (h : SqT K H p (ns.map V.int)) (q : Q (.int ns.sum) H) : rSumU K [.ref p] H Q := .inr ⟨p, ns, rfl, h, q⟩
theorem s_all {bs : List Bool} (h : SqL K H p (bs.map V.bl)) (q : Q (.bl (bs.all id)) H) : rAll K [.ref p] H Q := ⟨p, bs, rfl, h, q⟩
theorem s_any {bs : List Bool} (h : SqL K H p (bs.map V.bl)) (q : Q (.bl (bs.any id)) H) : rAny K [.ref p] H Q := ⟨p, bs, rfl, h, q⟩
theorem s_listL (h : SqL K H p xs) (q : ∀ l, H l = none → Q (.ref l) (upd H l (.lst xs))) : rListOf K [.ref p] H Q := ⟨p, xs, rfl, .inl h, q⟩
theorem s_listT (h : SqT K H p xs) (q : ∀ l, H l = none → Q (.ref l) (upd H l (.lst xs))) : rListOf K [.ref p] H Q := ⟨p, xs, rfl, .inr h, q⟩
theorem s_tupleL (h : SqL K H p xs) (q : ∀ l, H l = none → Q (.ref l) (upd H l (.tup xs))) : rTupleOf K [.ref p] H Q := ⟨p, xs, rfl, .inl ⟨h, q⟩⟩
theorem s_isi {c : V} {ty u : Value} {b : Bool} (hc : ClsV c u) (ht : TyX K H x ty) (hk : PySem.W.kitOne K ty u = some b) (q : Q (.bl b) H) : rIsi K [x, c] H Q := ⟨x, c, ty, u, b, rfl, hc, ht, hk, q⟩
/-! ### statements -/
variable {nx bk ct : L2.St → Hp → Prop}
theorem s_seq (h : ts ⟨us ⟨nx, Q, bk, ct⟩, Q, bk, ct⟩ σ H) : tSeq ts us ⟨nx, Q, bk, ct⟩ σ H := h
theorem s_next (h : nx σ H) : tNext ⟨nx, Q, bk, ct⟩ σ H := h
theorem s_asg {g : TG} (h : te σ H fun x H1 => g x σ H1 nx) : tAsg te g ⟨nx, Q, bk, ct⟩ σ H := h
theorem s_gn {R : L2.St → Hp → Prop} (h : R (σ.set i (some v)) H) : gName i v σ H R := h
theorem s_gc {R : L2.St → Hp → Prop} {g : TG} {tg : TGs} (q : g v σ H fun σ' H' => tg xs σ' H' R) : gCons g tg (v :: xs) σ H R := ⟨v, xs, rfl, q⟩
theorem s_g0 {R : L2.St → Hp → Prop} (q : R σ H) : gNil [] σ H R := ⟨rfl, q⟩
theorem s_gs {R : L2.St → Hp → Prop} {tset : TSet} (q : ta σ H fun o H1 => tb σ H1 fun i H2 => tset o i v H2 fun H3 => R σ H3) : gSub ta tb tset v σ H R := q
theorem s_ret (h : te σ H Q) : tRet te ⟨nx, Q, bk, ct⟩ σ H := h
theorem s_ifS (h : t σ H fun b H1 => if b = true then ts ⟨nx, Q, bk, ct⟩ σ H1 else us ⟨nx, Q, bk, ct⟩ σ H1) : tIfS t ts us ⟨nx, Q, bk, ct⟩ σ H := h
theorem s_drop (h : te σ H fun _ H1 => nx σ H1) : tDrop te ⟨nx, Q, bk, ct⟩ σ H := h
theorem s_aug {ti : TIp} (hx : σ[i]? = some (some x)) (h : te σ H fun y H1 => ti x y H1 fun z H2 => nx (σ.set i (some z)) H2) : tAug i te ti ⟨nx, Q, bk, ct⟩ σ H := ⟨x, hx, h⟩
theorem s_augS {ti : TE} {tget : V → V → Hp → VK → Prop} {tip : TIp} {tset : TSet} (h : ta σ H fun o H1 => ti σ H1 fun i H2 => tget o i H2 fun x H3 => te σ H3 fun y H4 => tip x y H4 fun z H5 => tset o i z H5 fun H6 => nx σ H6) : tAugS ta ti te tget tip tset ⟨nx, Q, bk, ct⟩ σ H := h
theorem s_ipI {f : Int → Int → Int} {m n : Int} (q : Q (.int (f m n)) H) : ipI f (.int m) (.int n) H Q := ⟨m, n, rfl, rfl, q⟩
/-! loops -/
def ForB (J : It) (g : TG) (tb : TS) (nx : L2.St → Hp → Prop) (Q : VK) (σ : L2.St) (H1 : Hp) : Prop := ∃ W : Nat → Nat → L2.St → Hp → Prop, (∃ m, W 0 m σ H1) ∧ ∀ i m σ H, W i m σ H →
  (J.stop i H ∧ nx σ H) ∨ (J.go i H ∧ ∃ N : L2.St → Hp → Prop, (∀ σ' H', N σ' H' → ∃ m', m' < m ∧ W (i + 1) m' σ' H') ∧ ∀ x H', J.yld i H x H' → g x σ H' fun σ2 H2 => tb ⟨N, Q, nx, N⟩ σ2 H2)
theorem s_for {wi : TI} {g : TG} {tb : TS} (h : wi σ H fun J H1 => ForB J g tb nx Q σ H1) : tFor wi g tb ⟨nx, Q, bk, ct⟩ σ H := h
theorem for_w {J : It} {n : Nat} {G : Hp → Prop} {Y : Nat → Hp → V → Hp → Prop} {g : TG} {tb : TS} (w : Walk J n G Y) (Pv : Nat → L2.St → Hp → Prop) (h0 : Pv 0 σ H) (hG : ∀ i σ H, i ≤ n → Pv i σ H → G H)
    (hs : ∀ i x σ H H', i < n → Pv i σ H → Y i H x H' → g x σ H' fun σ2 H2 => tb ⟨Pv (i + 1), Q, nx, Pv (i + 1)⟩ σ2 H2) (hd : ∀ σ H, Pv n σ H → nx σ H) : ForB J g tb nx Q σ H :=
  for_it w (D := ⟨nx, Q, fun _ _ => False, fun _ _ => False⟩) Pv h0 hG hs hd
theorem s_iseq {R : It → Hp → Prop} (h : te σ H fun x H1 => (∃ a, x = .ref a ∧ (∃ xs, SqL K H1 a xs) ∧ R (Itl K a) H1) ∨ (∃ a, x = .ref a ∧ (∃ xs, SqT K H1 a xs) ∧ R (Itt K a) H1)) : iSeq K te σ H R := h
theorem s_rng1 {R : It → Hp → Prop} (h : tr σ H fun vs H1 => ∃ j : Int, vs = [.int j] ∧ -(2 ^ 62) ≤ j ∧ j < 2 ^ 62 ∧ R (Itr 0 j.toNat) H1) : iRng1 tr σ H R := h
theorem s_rngI {R : It → Hp → Prop} {m : Int} (h : -1000000 ≤ m ∧ m ≤ 1000000) (q : R (Itr 0 m.toNat) H) : ∃ j : Int, [V.int m] = [.int j] ∧ -(2 ^ 62) ≤ j ∧ j < 2 ^ 62 ∧ R (Itr 0 j.toNat) H := ⟨m, rfl, by omega, by omega, q⟩
theorem s_izip {R : It → Hp → Prop} (h : tr σ H fun vs H1 => ∃ j k a b xs ys, vs = [.ref a, .ref b] ∧ SqB j K H1 a xs ∧ SqB k K H1 b ys ∧ R (ItzM j k K a b) H1) : iZipM K tr σ H R := h
def LcB (J : It) (g : TG) (tt : TT) (te : TE) (vs : List Nat) (σ : L2.St) (H1 : Hp) (Q : VK) : Prop := ∀ D, H1 D = none → ∃ W : Nat → Nat → Hp → Prop, (∃ m, W 0 m (upd H1 D (.lst []))) ∧ ∀ i m H, W i m H →
  (J.stop i H ∧ Q (.ref D) H) ∨ (J.go i H ∧ ∃ Nx : Hp → Prop, (∀ H', Nx H' → ∃ m', m' < m ∧ W (i + 1) m' H') ∧ ∀ x H', J.yld i H x H' → g x (wipe σ vs) H' fun σ2 H2 => wipe σ2 vs = wipe σ vs ∧ tt σ2 H2 fun b H3 =>
    if b = true then te σ2 H3 fun y H4 => ∃ acc, H4 D = some (.lst acc) ∧ acc.length < sizeLine ∧ Nx (upd H4 D (.lst (acc ++ [y]))) else Nx H3)
theorem s_lc {wi : TI} {g : TG} {tt : TT} {vs : List Nat} (h : wi σ H fun J H1 => LcB J g tt te vs σ H1 Q) : tLc wi g tt te vs σ H Q := h
/-! two clauses -/
def InB (J1 : It) (g1 : TG) (tt1 : TT) (te : TE) (vs1 : List Nat) (σ2 : L2.St) (H4 : Hp) (D : Addr) (Nx : Hp → Prop) : Prop := ∃ W1 : Nat → Nat → Hp → Prop, (∃ m, W1 0 m H4) ∧ ∀ j k H, W1 j k H →
  (J1.stop j H ∧ Nx H) ∨ (J1.go j H ∧ ∃ Nx1 : Hp → Prop, (∀ H', Nx1 H' → ∃ k', k' < k ∧ W1 (j + 1) k' H') ∧ ∀ x H', J1.yld j H x H' → g1 x (wipe σ2 vs1) H' fun σ3 H5 => wipe σ3 vs1 = wipe σ2 vs1 ∧ tt1 σ3 H5 fun b H6 =>
    if b = true then te σ3 H6 fun y H7 => ∃ acc, H7 D = some (.lst acc) ∧ acc.length < sizeLine ∧ Nx1 (upd H7 D (.lst (acc ++ [y]))) else Nx1 H6)
def Lc2B (J : It) (g : TG) (tt : TT) (wi1 : TI) (g1 : TG) (tt1 : TT) (te : TE) (vs vs1 : List Nat) (σ : L2.St) (H1 : Hp) (Q : VK) : Prop := ∀ D, H1 D = none → ∃ W : Nat → Nat → Hp → Prop, (∃ m, W 0 m (upd H1 D (.lst []))) ∧ ∀ i m H, W i m H →
  (J.stop i H ∧ Q (.ref D) H) ∨ (J.go i H ∧ ∃ Nx : Hp → Prop, (∀ H', Nx H' → ∃ m', m' < m ∧ W (i + 1) m' H') ∧ ∀ x H', J.yld i H x H' → g x (wipe σ vs) H' fun σ2 H2 => wipe σ2 vs = wipe σ vs ∧ tt σ2 H2 fun b H3 =>
    if b = true then wi1 σ2 H3 fun J1 H4 => InB J1 g1 tt1 te vs1 σ2 H4 D Nx else Nx H3)
theorem s_lc2 {wi wi1 : TI} {g g1 : TG} {tt tt1 : TT} {vs vs1 : List Nat} (h : wi σ H fun J H1 => Lc2B J g tt wi1 g1 tt1 te vs vs1 σ H1 Q) : tLc2 wi g tt wi1 g1 tt1 te vs vs1 σ H Q := h
theorem s_lstRg {te : L2.St → Hp → (Int → Int → Hp → Prop) → Prop} (h : te σ H fun a b H1 => RgOk a b ∧ ∀ q, H1 q = none → Q (.ref q) (upd H1 q (.lst (rgV a b)))) : tLstRg te σ H Q := h
theorem s_rg1 {R : Int → Int → Hp → Prop} (h : te σ H fun x H1 => ∃ n, x = .int n ∧ R 0 n H1) : tRg1 te σ H R := h
theorem s_sfld {f : Str} (h : tb σ H fun y H1 => ta σ H1 fun x H2 => ∃ a C dx fs, x = .ref a ∧ H2 a = some (.ins C dx fs) ∧ Cls K C ∧ NoAttr K C f ∧ fs.length < 1000 ∧ nx σ (upd H2 a (.ins C dx (putF f y fs)))) : sFld K ta tb f ⟨nx, Q, bk, ct⟩ σ H := h
theorem s_ienum {R : It → Hp → Prop} (h : tr σ H fun vs H1 => ∃ a xs, vs = [.ref a] ∧ SqL K H1 a xs ∧ R (Ite K a) H1) : iEnum K tr σ H R := h
/-! ### reading through new objects -/
theorem rT_at : SqT K (upd H p (.tup xs)) p xs := .inl (.inl upd_same)
theorem rL_at : SqL K (upd H p (.lst xs)) p xs := .inl (.inl upd_same)
theorem rT_new (h : H p = none) (r : SqT K H a xs) : SqT K (upd H p o) a xs := sqT_mono (same_upd h) r
theorem rL_new (h : H p = none) (r : SqL K H a xs) : SqL K (upd H p o) a xs := sqL_mono (same_upd h) r
theorem rH_new {o' : HO} (h : H p = none) (r : H a = some o') : upd H p o a = some o' := by rw [upd_ne (ne_of_none r h)]; exact r
theorem rD_new {d : PyData} (h : H p = none) (r : Dp K H v d) : Dp K (upd H p o) v d := dp_mono (same_upd h) r
theorem ty_tup (h : SqT K H a xs) : TyX K H (.ref a) (.type "tuple") := by
  rcases h with (h | ⟨o, h⟩) | ⟨o, _, _, hk, hc, _⟩
  · exact .base (.tup h)
  · exact .fTuple h
  · exact .kTuple hk hc
theorem ty_lst (h : SqL K H a xs) : TyX K H (.ref a) (.type "list") := by
  rcases h with (h | ⟨o, h⟩) | ⟨o, _, _, hk, hc, _⟩
  · exact .base (.lst h)
  · exact .base (.frz h)
  · exact .kList hk hc
theorem tyV_lst (h : H a = some (.lst xs)) : tyV K "list" (.ref a) H := Or.inl ⟨rfl, _, Or.inl (Or.inl h)⟩
end
end G

namespace G
open PySem PySem.Spec PyProof.Rows L2

/-! ### benches as data -/
structure BD where
  hard : List Int
  places : Nat
  told : List (Nat × Nat × List Nat)
def BD.heavy (B : BD) : List Int := B.hard.flatMap fun h => List.replicate B.places h
def pairsOf (n : Nat) (g : Nat × Nat × List Nat) : List (Nat × Nat) := (List.range n).map fun x => (g.1 * n + x, g.2.1 * n + g.2.2.getD x 0)
def BD.meets (B : BD) : List (List (Nat × Nat)) := B.told.map (pairsOf B.places)
def gD (g : Nat × Nat × List Nat) : PyData := .tuple [.int g.1, .int g.2.1, .tuple (g.2.2.map fun (x : Nat) => PyData.int (x : Int))]
def pD (p : Nat × Nat) : PyData := .tuple [.int p.1, .int p.2]
structure BOk (B : BD) : Prop where
  plates : 2 ≤ B.hard.length ∧ B.hard.length ≤ 4
  hard : ∀ h ∈ B.hard, 1 ≤ h ∧ h ≤ 9
  places : 1 ≤ B.places ∧ B.places ≤ 3
  told : 1 ≤ B.told.length ∧ B.told.length ≤ 6
  each : ∀ g ∈ B.told, g.1 < B.hard.length ∧ g.2.1 < B.hard.length ∧ g.1 ≠ g.2.1 ∧ g.2.2.Perm (List.range B.places)
theorem flat_len (l : List Int) (n : Nat) : (l.flatMap fun h => List.replicate n h).length = l.length * n := by
  induction l with
  | nil => simp
  | cons a l ih => rw [List.flatMap_cons, List.length_append, ih, List.length_replicate, List.length_cons, Nat.add_mul, Nat.one_mul, Nat.add_comm]
theorem BD.heavy_len (B : BD) : B.heavy.length = B.hard.length * B.places := flat_len _ _
theorem BOk.heavy {B : BD} (h : BOk B) : ∀ x ∈ B.heavy, 1 ≤ x ∧ x ≤ 9 := by
  intro x hx
  obtain ⟨y, hy, hm⟩ := List.mem_flatMap.mp hx
  rw [List.mem_replicate] at hm
  rw [hm.2]
  exact h.hard y hy
theorem BOk.pair {B : BD} (h : BOk B) {g : Nat × Nat × List Nat} (hg : g ∈ B.told) {p : Nat × Nat} (hp : p ∈ pairsOf B.places g) : p.1 < B.heavy.length ∧ p.2 < B.heavy.length := by
  obtain ⟨x, hx, rfl⟩ := List.mem_map.mp hp
  obtain ⟨h1, h2, h3, h4⟩ := h.each g hg
  have hx' : x < B.places := List.mem_range.mp hx
  have hy : g.2.2.getD x 0 < B.places := by
    have hl : g.2.2.length = B.places := by rw [h4.length_eq, List.length_range]
    have : g.2.2.getD x 0 ∈ g.2.2 := by
      rw [List.getD_eq_getElem?_getD, List.getElem?_eq_getElem (by omega)]
      exact List.getElem_mem _
    exact List.mem_range.mp (h4.mem_iff.mp this)
  rw [B.heavy_len]
  constructor
  · show g.1 * B.places + x < B.hard.length * B.places
    calc g.1 * B.places + x < g.1 * B.places + B.places := by omega
      _ = (g.1 + 1) * B.places := by rw [Nat.add_mul, Nat.one_mul]
      _ ≤ B.hard.length * B.places := Nat.mul_le_mul_right _ h1
  · show g.2.1 * B.places + g.2.2.getD x 0 < B.hard.length * B.places
    calc g.2.1 * B.places + g.2.2.getD x 0 < g.2.1 * B.places + B.places := by omega
      _ = (g.2.1 + 1) * B.places := by rw [Nat.add_mul, Nat.one_mul]
      _ ≤ B.hard.length * B.places := Nat.mul_le_mul_right _ h2
theorem BOk.row {B : BD} (h : BOk B) {r : List (Nat × Nat)} (hr : r ∈ B.meets) {p : Nat × Nat} (hp : p ∈ r) : p.1 < B.heavy.length ∧ p.2 < B.heavy.length := by
  obtain ⟨g, hg, rfl⟩ := List.mem_map.mp hr
  exact h.pair hg hp
/-! ### a bench stands -/
def bflds (l1 : Addr) (n : Int) (l2 l3 l4 : Addr) : List (Str × V) := [("hard", V.ref l1), ("places", V.int n), ("told", V.ref l2), ("heavy", V.ref l3), ("meets", V.ref l4)]
structure Txt (K : PySem.W.Frag) (mg : Str → Option Value) (C : Addr) : Prop where
  cl : Cls K C
  n_hard : NoAttr K C "hard"
  n_places : NoAttr K C "places"
  n_told : NoAttr K C "told"
  n_heavy : NoAttr K C "heavy"
  n_meets : NoAttr K C "meets"
  m_Bench : mg "Bench" = some (.ref C)
  g_MOST_PLATES : ∃ t, mg "MOST_PLATES" = some (.int 4 t)
  g_MOST_HARDNESS : ∃ t, mg "MOST_HARDNESS" = some (.int 9 t)
  g_MOST_PLACES : ∃ t, mg "MOST_PLACES" = some (.int 3 t)
  g_MOST_GRINDINGS : ∃ t, mg "MOST_GRINDINGS" = some (.int 6 t)
structure BenchAt (K : PySem.W.Frag) (C : Addr) (H : Hp) (b : Addr) (B : BD) : Prop where
  ex : ∃ dx l1 l2 l3 l4, H b = some (.ins C dx (bflds l1 B.places l2 l3 l4)) ∧ SqL K H l1 (B.hard.map V.int) ∧ Dp K H (.ref l2) (.list (B.told.map gD)) ∧ SqL K H l3 (B.heavy.map V.int) ∧ Dp K H (.ref l4) (.list (B.meets.map fun r => .list (r.map pD)))
theorem BenchAt.mono {K : PySem.W.Frag} {C : Addr} {H H' : Hp} {b : Addr} {B : BD} (e : Same H H') (h : BenchAt K C H b B) : BenchAt K C H' b B := by
  obtain ⟨dx, l1, l2, l3, l4, hb, h1, h2, h3, h4⟩ := h.ex
  exact ⟨dx, l1, l2, l3, l4, e _ _ hb, sqL_mono e h1, dp_mono e h2, sqL_mono e h3, dp_mono e h4⟩
theorem fl_hard {l1 l2 l3 l4 : Addr} {n : Int} : (bflds l1 n l2 l3 l4).lookup ("hard" : Str) = some (V.ref l1) := by rfl
theorem fl_places {l1 l2 l3 l4 : Addr} {n : Int} : (bflds l1 n l2 l3 l4).lookup ("places" : Str) = some (V.int n) := by rfl
theorem fl_told {l1 l2 l3 l4 : Addr} {n : Int} : (bflds l1 n l2 l3 l4).lookup ("told" : Str) = some (V.ref l2) := by rfl
theorem fl_heavy {l1 l2 l3 l4 : Addr} {n : Int} : (bflds l1 n l2 l3 l4).lookup ("heavy" : Str) = some (V.ref l3) := by rfl
theorem fl_meets {l1 l2 l3 l4 : Addr} {n : Int} : (bflds l1 n l2 l3 l4).lookup ("meets" : Str) = some (V.ref l4) := by rfl
/-! ### data lists, item by item -/
theorem dpAll_get {K : PySem.W.Frag} {H : Hp} : ∀ {vs : List V} {ds : List PyData} {i : Nat} {d : PyData}, DpAll K H vs ds → ds[i]? = some d → ∃ v, vs[i]? = some v ∧ Dp K H v d
  | _, _, _, _, .nil, h => by simp at h
  | _, _, 0, _, .cons h _, e => by simp at e; subst e; exact ⟨_, rfl, h⟩
  | _, _, i + 1, _, .cons _ t, e => by
    obtain ⟨v, h1, h2⟩ := dpAll_get (i := i) t (by simpa using e)
    exact ⟨v, by simpa using h1, h2⟩
theorem dpAll_len {K : PySem.W.Frag} {H : Hp} : ∀ {vs : List V} {ds : List PyData}, DpAll K H vs ds → vs.length = ds.length
  | _, _, .nil => rfl
  | _, _, .cons _ t => by rw [List.length_cons, List.length_cons, dpAll_len t]
theorem dp_refT {K : PySem.W.Frag} {H : Hp} {v : V} {ds : List PyData} (h : Dp K H v (.tuple ds)) : ∃ a xs, v = .ref a ∧ SqT K H a xs ∧ DpAll K H xs ds := by
  cases h with
  | tup h hs => exact ⟨_, _, rfl, h, hs⟩
theorem dp_refL {K : PySem.W.Frag} {H : Hp} {v : V} {ds : List PyData} (h : Dp K H v (.list ds)) : ∃ a xs, v = .ref a ∧ SqL K H a xs ∧ DpAll K H xs ds := by
  cases h with
  | lst h hs => exact ⟨_, _, rfl, h, hs⟩
theorem ints_dpAll {K : PySem.W.Frag} {H : Hp} : ∀ (ns : List Int), DpAll K H (ns.map V.int) (ns.map PyData.int)
  | [] => .nil
  | n :: ns => .cons (.int n) (ints_dpAll ns)
/-! ### what is ground off -/
def tn (s b : Int) : Int := if 0 ≤ s then s / b else -((-s) / b)
def grain (w hs : List Int) (p : Nat × Nat) : Int := tn (hs.getD p.1 0 + hs.getD p.2 0) (w.getD p.1 0 + w.getD p.2 0)
def take1 (w hs : List Int) (p : Nat × Nat) (g : Int) : List Int :=
  (hs.set p.1 (hs.getD p.1 0 - w.getD p.2 0 * g)).set p.2 ((hs.set p.1 (hs.getD p.1 0 - w.getD p.2 0 * g)).getD p.2 0 - w.getD p.1 0 * g)
def takeAll (w : List Int) : List Int → List (Nat × Nat) → List Int → List Int
  | hs, p :: ps, g :: gs => takeAll w (take1 w hs p g) ps gs
  | hs, _, _ => hs
def dust (w hs : List Int) (r : List (Nat × Nat)) : List Int := r.map (grain w hs)
def after (w hs : List Int) (r : List (Nat × Nat)) : List Int := takeAll w hs r (dust w hs r)
def takesOff (w hs : List Int) (r : List (Nat × Nat)) : Bool := r.any fun p => grain w hs p != 0

/-! ### data that may be compared -/
def Sh (n : Nat) (d : PyData) : Prop := d.canLay0 = true ∧ d.depth ≤ n
theorem sh_shaped {n : Nat} {d : PyData} (h : Sh n d) (hn : n ≤ 64 := by decide) : SeqAt.shaped d = true := by
  unfold SeqAt.shaped
  rw [h.1, decide_eq_true (Nat.le_trans h.2 hn)]
  rfl
theorem sh_mono {n m : Nat} {d : PyData} (h : Sh n d) (hn : n ≤ m) : Sh m d := ⟨h.1, Nat.le_trans h.2 hn⟩
theorem sh_int (i : Int) : Sh 0 (.int i) := ⟨rfl, Nat.le_refl _⟩
theorem sh_all {n : Nat} : ∀ {ds : List PyData}, (∀ d ∈ ds, Sh n d) → PyData.canLayAll0 ds = true ∧ PyData.depthAll ds ≤ n
  | [], _ => ⟨rfl, Nat.zero_le _⟩
  | d :: ds, h => by
    obtain ⟨h1, h2⟩ := h d (List.mem_cons_self ..)
    obtain ⟨h3, h4⟩ := sh_all (ds := ds) fun x hx => h x (List.mem_cons_of_mem _ hx)
    constructor
    · show (PyData.canLay0 d && PyData.canLayAll0 ds) = true
      rw [h1, h3]
      rfl
    · show max (PyData.depth d) (PyData.depthAll ds) ≤ n
      omega
theorem sh_list {n : Nat} {ds : List PyData} (h : ∀ d ∈ ds, Sh n d) : Sh (n + 1) (.list ds) := ⟨(sh_all h).1, Nat.succ_le_succ (sh_all h).2⟩
theorem sh_tuple {n : Nat} {ds : List PyData} (h : ∀ d ∈ ds, Sh n d) : Sh (n + 1) (.tuple ds) := ⟨(sh_all h).1, Nat.succ_le_succ (sh_all h).2⟩
theorem sh_ints (ns : List Int) : ∀ d ∈ ns.map PyData.int, Sh 0 d := fun d h => by
  obtain ⟨n, _, rfl⟩ := List.mem_map.mp h
  exact sh_int n
theorem sh_tupleI (ns : List Int) : Sh 1 (.tuple (ns.map PyData.int)) := sh_tuple (sh_ints ns)
theorem eqv_self {n : Nat} {d : PyData} (h : Sh n d) : PyData.eqv d d = true := SeqAt.eqv_refl d h.1
theorem dp_tupI {K : PySem.W.Frag} {H : Hp} {a : Addr} {ns : List Int} (h : SqT K H a (ns.map V.int)) : Dp K H (.ref a) (.tuple (ns.map PyData.int)) := .tup h (ints_dpAll ns)
end G

namespace G
open PySem PySem.Spec PyProof.Rows L2

/-! ### a state list st that changes from draw to draw -/
def StOk (s : List V) : Prop := (∃ n, s = [.int n]) ∨ ∃ n m c : Int, s = [.int n, .int m, .int c]
structure SExt (st : Addr) (F H F' H' : Hp) : Prop where
  ext : Ext F (del H st) F' (del H' st)
  st : ∃ s', H' st = some (.lst s') ∧ StOk s'
theorem del_same' {H H' : Hp} {a : Addr} (e : Same H H') : Same (del H a) (del H' a) := fun b o h => by
  by_cases z : b = a
  · rw [z, del_same] at h; cases h
  · rw [del_ne z] at h ⊢; exact e b o h
theorem SExt.refl {st : Addr} {F H : Hp} {s : List V} (e : Same F (del H st)) (h : H st = some (.lst s)) (ok : StOk s) : SExt st F H F H := ⟨Ext.refl e, s, h, ok⟩
theorem SExt.trans {st : Addr} {F H F1 H1 F2 H2 : Hp} (a : SExt st F H F1 H1) (b : SExt st F1 H1 F2 H2) : SExt st F H F2 H2 := ⟨a.ext.trans b.ext, b.st⟩
theorem SExt.f0 {st : Addr} {F H F1 H1 : Hp} (a : SExt st F H F1 H1) : F1 st = none := sub_none a.ext.fh del_same
theorem SExt.fh {st : Addr} {F H F1 H1 : Hp} (a : SExt st F H F1 H1) : Same F1 H1 := a.ext.fh.trans del_sub
theorem SExt.ne {st p : Addr} {F H F1 H1 : Hp} (a : SExt st F H F1 H1) (h : H1 p = none) : p ≠ st := fun e => by
  obtain ⟨s, hs, _⟩ := a.st
  rw [e, hs] at h
  cases h
theorem SExt.new {st p : Addr} {F H F1 H1 : Hp} {o : HO} (a : SExt st F H F1 H1) (h : H1 p = none) (n : ∀ ps, o ≠ .tbl ps := by intro _ z; cases z) : SExt st F H (upd F1 p o) (upd H1 p o) := by
  have ne := a.ne h
  obtain ⟨s, hs, ok⟩ := a.st
  refine ⟨?_, s, by rw [upd_ne (Ne.symm ne)]; exact hs, ok⟩
  rw [del_upd_ne ne]
  exact a.ext.new (by rw [del_ne ne]; exact h) n
theorem SExt.mut {st p : Addr} {F H F1 H1 : Hp} {o : HO} (a : SExt st F H F1 H1) (h : H1 p = none) : SExt st F H F1 (upd H1 p o) := by
  have ne := a.ne h
  obtain ⟨s, hs, ok⟩ := a.st
  refine ⟨?_, s, by rw [upd_ne (Ne.symm ne)]; exact hs, ok⟩
  rw [del_upd_ne ne]
  exact a.ext.mut (by rw [del_ne ne]; exact h)
theorem SExt.chg {st p : Addr} {F H F1 H1 : Hp} {o : HO} (a : SExt st F H F1 H1) (ne : p ≠ st) (h : H p = none) (hf : F1 p = none) : SExt st F H F1 (upd H1 p o) := by
  obtain ⟨s, hs, ok⟩ := a.st
  refine ⟨?_, s, by rw [upd_ne (Ne.symm ne)]; exact hs, ok⟩
  rw [del_upd_ne ne]
  exact a.ext.chg (by rw [del_ne ne]; exact h) hf
theorem SExt.frz {st p : Addr} {F H F1 H1 : Hp} {o : HO} (a : SExt st F H F1 H1) (ne : p ≠ st) (h : H p = none) (hf : F1 p = none) (ho : H1 p = some o) (n : ∀ ps, o ≠ .tbl ps := by intro _ z; cases z) : SExt st F H (upd F1 p o) H1 :=
  ⟨a.ext.frz (by rw [del_ne ne]; exact h) hf (by rw [del_ne ne]; exact ho) n, a.st⟩
/-- a def that changes nothing that stood -/
theorem SExt.pure {st : Addr} {F H F1 H1 F2 H2 : Hp} (a : SExt st F H F1 H1) (b : Ext F1 H1 F2 H2) : SExt st F H F2 H2 := by
  obtain ⟨s, hs, ok⟩ := a.st
  have f2 : F2 st = none := b.fr st (by rw [hs]; simp) a.f0
  refine ⟨a.ext.trans ⟨del_same' b.hh, b.ff, fun c o h => ?_, fun c h1 h2 => ?_, b.nt⟩, s, b.hh _ _ hs, ok⟩
  · have : c ≠ st := fun z => by rw [z, f2] at h; cases h
    rw [del_ne this]
    exact b.fh c o h
  · by_cases z : c = st
    · rw [z]; exact f2
    · rw [del_ne z] at h1
      exact b.fr c h1 h2
theorem SExt.fr {st b : Addr} {F H F1 H1 : Hp} (a : SExt st F H F1 H1) (ne : b ≠ st) (h : H b ≠ none) (hf : F b = none) : F1 b = none := a.ext.fr b (by rw [del_ne ne]; exact h) hf
section
variable {K : PySem.W.Frag} {σ : L2.St} {H F : Hp} {Q : VK} {te : TE} {nx bk ct : L2.St → Hp → Prop} {ts us : TS}
theorem s_disp {trs : List (TE × TE)} (h : ∀ p, H p = none → tPairs trs σ (upd H p (.dK [])) fun ps H2 => H2 p = some (.dK []) ∧ ∃ kvs : List (Key × V), ps = kvs.map (fun kv => (kV kv.1, kv.2)) ∧ kvs.length ≤ 15 ∧ Q (.ref p) (upd H2 p (.dK (mergeK [] kvs)))) : tDisp trs σ H Q := h
theorem s_pc {tk tv : TE} {trs : List (TE × TE)} {QP : List (V × V) → Hp → Prop} (h : tk σ H fun k H1 => tv σ H1 fun v H2 => tPairs trs σ H2 fun ps H3 => QP ((k, v) :: ps) H3) : tPairs ((tk, tv) :: trs) σ H QP := h
theorem s_pn {QP : List (V × V) → Hp → Prop} (h : QP [] H) : tPairs [] σ H QP := h
end
/-! ### the law's own bench: a dict -/
def mkvs (l1 : Addr) (n : Int) (l2 l3 l4 : Addr) : List (Key × V) := [(Sum.inr "hard", .ref l1), (Sum.inr "places", .int n), (Sum.inr "told", .ref l2), (Sum.inr "heavy", .ref l3), (Sum.inr "meets", .ref l4)]
/-- a grinding told: its turn is a tuple that is known by its object (so that .index may be asked of it) -/
def Gx (K : PySem.W.Frag) (F : Hp) (v : V) (g : Nat × Nat × List Nat) : Prop := ∃ a t ob, v = .ref a ∧ SqT K F a [.int (g.1 : Int), .int (g.2.1 : Int), .ref t] ∧ F t = some (.frz ob (.tup ((g.2.2.map fun (x : Nat) => (x : Int)).map V.int))) ∧ ob.dict = none
theorem Gx.mono {K : PySem.W.Frag} {H H' : Hp} {v : V} {g : Nat × Nat × List Nat} (e : Same H H') (h : Gx K H v g) : Gx K H' v g := by
  obtain ⟨a, t, ob, rfl, h1, h2, h3⟩ := h
  exact ⟨a, t, ob, rfl, sqT_mono e h1, e _ _ h2, h3⟩
inductive TXs (K : PySem.W.Frag) (F : Hp) : List V → List (Nat × Nat × List Nat) → Prop
  | nil : TXs K F [] []
  | cons {v : V} {g : Nat × Nat × List Nat} {vs : List V} {gs : List (Nat × Nat × List Nat)} : Gx K F v g → TXs K F vs gs → TXs K F (v :: vs) (g :: gs)
theorem TXs.mono {K : PySem.W.Frag} {H H' : Hp} (e : Same H H') : ∀ {vs : List V} {gs : List (Nat × Nat × List Nat)}, TXs K H vs gs → TXs K H' vs gs
  | _, _, .nil => .nil
  | _, _, .cons h t => .cons (h.mono e) (t.mono e)
theorem TXs.take {K : PySem.W.Frag} {H : Hp} : ∀ {vs : List V} {gs : List (Nat × Nat × List Nat)} (n : Nat), TXs K H vs gs → TXs K H (vs.take n) (gs.take n)
  | _, _, 0, _ => .nil
  | _, _, _ + 1, .nil => .nil
  | _, _, n + 1, .cons h t => .cons h (t.take n)
def TX (K : PySem.W.Frag) (F : Hp) (l : Addr) (gs : List (Nat × Nat × List Nat)) : Prop := ∃ vs, SqL K F l vs ∧ TXs K F vs gs
theorem TX.mono {K : PySem.W.Frag} {H H' : Hp} {l : Addr} {gs : List (Nat × Nat × List Nat)} (e : Same H H') (h : TX K H l gs) : TX K H' l gs := by
  obtain ⟨vs, h1, h2⟩ := h
  exact ⟨vs, sqL_mono e h1, h2.mono e⟩
structure ModelAt (K : PySem.W.Frag) (F : Hp) (m : Addr) (B : BD) : Prop where
  ix : ∃ l1 l2 l3 l4, F m = some (.dK (mkvs l1 B.places l2 l3 l4)) ∧ TX K F l2 B.told
  ex : ∃ l1 l2 l3 l4, F m = some (.dK (mkvs l1 B.places l2 l3 l4)) ∧ SqL K F l1 (B.hard.map V.int) ∧ Dp K F (.ref l2) (.list (B.told.map gD)) ∧ SqL K F l3 (B.heavy.map V.int) ∧ Dp K F (.ref l4) (.list (B.meets.map fun r => .list (r.map pD)))
theorem ModelAt.mono {K : PySem.W.Frag} {H H' : Hp} {b : Addr} {B : BD} (e : Same H H') (h : ModelAt K H b B) : ModelAt K H' b B := by
  obtain ⟨l1, l2, l3, l4, hb, h1, h2, h3, h4⟩ := h.ex
  obtain ⟨m1, m2, m3, m4, hc, h5⟩ := h.ix
  exact ⟨⟨m1, m2, m3, m4, e _ _ hc, h5.mono e⟩, l1, l2, l3, l4, e _ _ hb, sqL_mono e h1, dp_mono e h2, sqL_mono e h3, dp_mono e h4⟩
end G

namespace G
open PySem PySem.Spec PyProof.Rows L2
/-! ## data: what a program's values are worth, without addresses -/
inductive D where
  | non | bl (b : Bool) | int (i : Int) | str (s : Str)
  | lst (l : List D) | tup (l : List D)
  | stn (ns : List Int)
  | ixt (ns : List Int)
  | bench (B : BD)
  | dic (ks : List Key) (l : List D)
  | dit (ks : List (List Key)) (l : List D)
  | st
  | exc (a : Addr) (dd : Option Addr) (ns : List Str) (l : List D)
  | lsx (a : Addr) (ns : List Int)
  | exv (c : Addr) (ns : List Str) (l : List D)

/-! ### heaps beside the state of the draws and the tables of code objects -/
def isTbl : HO → Bool
  | .tbl _ => true
  | _ => false
def isExt : HO → Bool
  | .ext _ => true
  | _ => false
def noT (H : Hp) : Hp := fun b => match H b with
  | some (.tbl _) => none
  | o => o
theorem noT_some {H : Hp} {b : Addr} {o : HO} (h : noT H b = some o) : H b = some o ∧ isTbl o = false := by
  unfold noT at h
  split at h
  · cases h
  · rename_i u
    refine ⟨h, ?_⟩
    cases o with
    | tbl ps => exact absurd h (u ps)
    | _ => rfl
theorem noT_of {H : Hp} {b : Addr} {o : HO} (h : H b = some o) (n : isTbl o = false) : noT H b = some o := by
  unfold noT
  rw [h]
  cases o with
  | tbl ps => cases n
  | _ => rfl
theorem noT_sub {H : Hp} : Same (noT H) H := fun _ _ h => (noT_some h).1
theorem noT_none {H : Hp} {p : Addr} (h : H p = none) : noT H p = none := noT_sub.free h
theorem noT_same {H H' : Hp} (e : Same H H') : Same (noT H) (noT H') := fun _ _ h => noT_of (e _ _ (noT_some h).1) (noT_some h).2
theorem noT_upd {H : Hp} {p : Addr} {o : HO} (n : isTbl o = false) : noT (upd H p o) = upd (noT H) p o := by
  funext b
  by_cases z : b = p
  · subst z
    rw [upd_same]
    exact noT_of upd_same n
  · rw [upd_ne z]
    unfold noT
    rw [upd_ne z]
def Dl (st : Option Addr) (H : Hp) : Hp := noT (match st with
  | none => H
  | some a => del H a)
/-- the defs that make lambdas -/
def lamNames : List Str := []
def tabsOf (K : PySem.W.Frag) : List (Addr × Str) := lamNames.filterMap fun x => (PySem.W.tabIn K x).map fun q => (q.2, x ++ ".<locals>." ++ "<lambda>")
structure StG (K : PySem.W.Frag) (st : Option Addr) (H : Hp) : Prop where
  ls : ∀ a, st = some a → ∃ s, H a = some (.lst s) ∧ StOk s
  tb : LamX.Tabs (tabsOf K) H
theorem Dl_some {st : Option Addr} {H : Hp} {b : Addr} {o : HO} (h : Dl st H b = some o) : H b = some o ∧ isTbl o = false := by
  cases st with
  | none => exact noT_some h
  | some a => exact ⟨del_sub _ _ (noT_some h).1, (noT_some h).2⟩
theorem Dl_sub {st : Option Addr} {H : Hp} : Same (Dl st H) H := fun _ _ h => (Dl_some h).1
theorem Dl_none {st : Option Addr} {H : Hp} {p : Addr} (h : H p = none) : Dl st H p = none := Dl_sub.free h
theorem Dl_upd {st : Option Addr} {H : Hp} {p : Addr} {o : HO} (h : ∀ a, st = some a → p ≠ a) (n : isTbl o = false) : Dl st (upd H p o) = upd (Dl st H) p o := by
  cases st with
  | none => exact noT_upd n
  | some a =>
    show noT (del (upd H p o) a) = upd (noT (del H a)) p o
    rw [del_upd_ne (h a rfl), noT_upd n]
theorem Dl_at {st : Option Addr} {H : Hp} {p : Addr} {o : HO} (h : ∀ a, st = some a → p ≠ a) (n : isTbl o = false := by rfl) : Dl st (upd H p o) p = some o := by
  rw [Dl_upd h n]
  exact upd_same
theorem Dl_off {st : Option Addr} {H : Hp} {p b : Addr} {o : HO} (ne : b ≠ p) : Dl st (upd H p o) b = Dl st H b := by
  have key : ∀ G G' : Hp, G b = G' b → noT G b = noT G' b := fun G G' e => by
    unfold noT
    rw [e]
  cases st with
  | none => exact key _ _ (upd_ne ne)
  | some a =>
    refine key _ _ ?_
    show del (upd H p o) a b = del H a b
    by_cases z : b = a
    · subst z
      rw [del_same, del_same]
    · rw [del_ne z, del_ne z, upd_ne ne]
/-- what is told of what is put -/
def noO : HO → Option HO
  | .tbl _ => none
  | o => some o
theorem Dl_pt {st : Option Addr} {H : Hp} {p : Addr} {o : HO} (h : ∀ a, st = some a → p ≠ a) : Dl st (upd H p o) p = noO o := by
  have key : ∀ G : Hp, G p = some o → noT G p = noO o := fun G e => by
    unfold noT
    rw [e]
    cases o <;> rfl
  cases st with
  | none => exact key _ upd_same
  | some a => exact key (del (upd H p o) a) (by rw [del_ne (h a rfl)]; exact upd_same)
theorem Dl_same {st : Option Addr} {H H' : Hp} (e : Same H H') : Same (Dl st H) (Dl st H') := by
  cases st with
  | none => exact noT_same e
  | some a => exact noT_same (del_same' e)
theorem Dl_st {a : Addr} {H : Hp} : Dl (some a) H a = none := noT_none del_same
theorem Dl_ne {st : Option Addr} {H : Hp} {p : Addr} {o : HO} (h : Dl st H p = some o) : ∀ a, st = some a → p ≠ a := fun a e z => by
  subst e z
  rw [Dl_st] at h
  cases h
theorem Dl_of {st : Option Addr} {H : Hp} {p : Addr} {o : HO} (h : H p = some o) (ne : ∀ a, st = some a → p ≠ a) (n : isTbl o = false := by rfl) : Dl st H p = some o := by
  cases st with
  | none => exact noT_of h n
  | some a => exact noT_of (H := del H a) (by rw [del_ne (ne a rfl)]; exact h) n
section
variable {K : PySem.W.Frag} {st : Option Addr} {H : Hp} {p : Addr} {o o' : HO}
theorem StG.ne (g : StG K st H) (h : H p = none) : ∀ a, st = some a → p ≠ a := fun a e z => by
  obtain ⟨s, hs, _⟩ := g.ls a e
  rw [z, hs] at h
  cases h
theorem tabs_chg {T : List (Addr × Str)} (t : LamX.Tabs T H) (hp : H p = some o') (n : isTbl o' = false) (x : isExt o' = false) : LamX.Tabs T (upd H p o) := fun q hq => by
  obtain ⟨ps, h1, h2, h3⟩ := t q hq
  refine ⟨ps, ?_, h2, fun pos cv hc => ?_⟩
  · rw [upd_ne]
    · exact h1
    · intro z
      rw [z, hp] at h1
      cases h1
      cases n
  · obtain ⟨c, e1, e2⟩ := h3 pos cv hc
    refine ⟨c, e1, ?_⟩
    rw [upd_ne]
    · exact e2
    · intro z
      rw [z, hp] at e2
      unfold LamX.CodeO at e2
      cases e2
      cases x
theorem StG.new (g : StG K st H) (h : H p = none) : StG K st (upd H p o) := ⟨fun a e => by
  obtain ⟨s, hs, ok⟩ := g.ls a e
  exact ⟨s, by rw [upd_ne (Ne.symm (g.ne h a e))]; exact hs, ok⟩, g.tb.ext (same_upd h)⟩
theorem StG.chg (g : StG K st H) (h : Dl st H p = some o') (x : isExt o' = false) : StG K st (upd H p o) := ⟨fun a e => by
  obtain ⟨s, hs, ok⟩ := g.ls a e
  exact ⟨s, by rw [upd_ne (Ne.symm (Dl_ne h a e))]; exact hs, ok⟩, tabs_chg g.tb (Dl_some h).1 (Dl_some h).2 x⟩
theorem StG.same {H' : Hp} (g : StG K st H) (e : Same H H') : StG K st H' := ⟨fun a z => by
  obtain ⟨s, hs, ok⟩ := g.ls a z
  exact ⟨s, e _ _ hs, ok⟩, g.tb.ext e⟩
end
def isTupO : HO → Bool
  | .tup _ => true
  | _ => false
/-- as Ext; but tuples, which never change, may be frozen at any time -/
structure EX (F H F' H' : Hp) : Prop where
  hh : Same H H'
  ff : Same F F'
  fh : Same F' H'
  fr : ∀ b o, H b = some o → isTupO o = false → F b = none → F' b = none
theorem EX.of {F H F' H' : Hp} (e : Ext F H F' H') : EX F H F' H' := ⟨e.hh, e.ff, e.fh, fun b o h _ => e.fr b (by rw [h]; simp)⟩
theorem EX.refl {F H : Hp} (e : Same F H) : EX F H F H := .of (Ext.refl e)
theorem EX.trans {F H F1 H1 F2 H2 : Hp} (a : EX F H F1 H1) (b : EX F1 H1 F2 H2) : EX F H F2 H2 :=
  ⟨a.hh.trans b.hh, a.ff.trans b.ff, b.fh, fun c o h1 ht h2 => b.fr c o (a.hh c o h1) ht (a.fr c o h1 ht h2)⟩
theorem EX.new {F H F1 H1 : Hp} {p : Addr} {o : HO} (a : EX F H F1 H1) (h : H1 p = none) : EX F H (upd F1 p o) (upd H1 p o) :=
  ⟨a.hh.trans (same_upd h), a.ff.trans (same_upd (sub_none a.fh h)), same_upd2 a.fh, fun b q h1 ht h2 => by
    rw [upd_ne]
    · exact a.fr b q h1 ht h2
    · intro z
      subst z
      rw [a.hh.free h] at h1
      cases h1⟩
theorem EX.mut {F H F1 H1 : Hp} {p : Addr} {o : HO} (a : EX F H F1 H1) (h : H1 p = none) : EX F H F1 (upd H1 p o) :=
  ⟨a.hh.trans (same_upd h), a.ff, same_updR a.fh (sub_none a.fh h), a.fr⟩
theorem EX.chg {F H F1 H1 : Hp} {p : Addr} {o : HO} (a : EX F H F1 H1) (h : H p = none) (hf : F1 p = none) : EX F H F1 (upd H1 p o) :=
  ⟨same_updR a.hh h, a.ff, same_updR a.fh hf, a.fr⟩
theorem EX.frz {F H F1 H1 : Hp} {p : Addr} {o : HO} (a : EX F H F1 H1) (h : H p = none) (hf : F1 p = none) (ho : H1 p = some o) : EX F H (upd F1 p o) H1 :=
  ⟨a.hh, a.ff.trans (same_upd hf), fun b x q => by
    by_cases z : b = p
    · rw [z, upd_same] at q; rw [z]; cases q; exact ho
    · rw [upd_ne z] at q; exact a.fh b x q, fun b q h1 ht h2 => by
    rw [upd_ne]
    · exact a.fr b q h1 ht h2
    · intro z
      subst z
      rw [h] at h1
      cases h1⟩
/-- a tuple is frozen -/
theorem EX.tup {F H F1 H1 : Hp} {p : Addr} {xs : List V} (a : EX F H F1 H1) (ho : H1 p = some (.tup xs)) : EX F H (upd F1 p (.tup xs)) H1 :=
  ⟨a.hh, a.ff.trans (fun b o q => by
    by_cases z : b = p
    · subst z
      have := a.fh b o q
      rw [ho] at this
      rw [upd_same]
      exact this
    · rw [upd_ne z]; exact q), fun b x q => by
    by_cases z : b = p
    · rw [z, upd_same] at q; rw [z]; cases q; exact ho
    · rw [upd_ne z] at q; exact a.fh b x q, fun b q h1 ht h2 => by
    by_cases z : b = p
    · subst z
      have := a.hh b q h1
      rw [ho] at this
      cases this
      cases ht
    · rw [upd_ne z]
      exact a.fr b q h1 ht h2⟩
structure Gd (K : PySem.W.Frag) (st : Option Addr) (F H : Hp) : Prop where
  fh : Same F (Dl st H)
  ok : StG K st H
structure XE (K : PySem.W.Frag) (st : Option Addr) (F H F' H' : Hp) : Prop where
  ext : EX F (Dl st H) F' (Dl st H')
  ok : StG K st H'
section
variable {K : PySem.W.Frag} {st : Option Addr} {F H F1 H1 F2 H2 : Hp} {p : Addr} {o : HO}
theorem Gd.sub (g : Gd K st F H) : Same F H := g.fh.trans Dl_sub
theorem XE.gd (a : XE K st F H F1 H1) : Gd K st F1 H1 := ⟨a.ext.fh, a.ok⟩
theorem XE.refl (g : Gd K st F H) : XE K st F H F H := ⟨EX.refl g.fh, g.ok⟩
theorem XE.trans (a : XE K st F H F1 H1) (b : XE K st F1 H1 F2 H2) : XE K st F H F2 H2 := ⟨a.ext.trans b.ext, b.ok⟩
theorem XE.ff (a : XE K st F H F1 H1) : Same F F1 := a.ext.ff
theorem XE.new (a : XE K st F H F1 H1) (h : H1 p = none) (n : isTbl o = false := by rfl) : XE K st F H (upd F1 p o) (upd H1 p o) := by
  have ne := a.ok.ne h
  refine ⟨?_, a.ok.new h⟩
  rw [Dl_upd ne n]
  exact a.ext.new (Dl_none h)
theorem XE.mut (a : XE K st F H F1 H1) (h : H1 p = none) (n : isTbl o = false := by rfl) : XE K st F H F1 (upd H1 p o) := by
  have ne := a.ok.ne h
  refine ⟨?_, a.ok.new h⟩
  rw [Dl_upd ne n]
  exact a.ext.mut (Dl_none h)
theorem XE.chg {o' : HO} (a : XE K st F H F1 H1) (hp : Dl st H1 p = some o') (h : Dl st H p = none) (hf : F1 p = none) (n : isTbl o = false := by rfl) (x : isExt o' = false := by rfl) : XE K st F H F1 (upd H1 p o) := by
  have ne := Dl_ne hp
  refine ⟨?_, a.ok.chg hp x⟩
  rw [Dl_upd ne n]
  exact a.ext.chg h hf
theorem XE.frz (a : XE K st F H F1 H1) (h : Dl st H p = none) (hf : F1 p = none) (ho : Dl st H1 p = some o) : XE K st F H (upd F1 p o) H1 := ⟨a.ext.frz h hf ho, a.ok⟩
/-- what changes nothing that stood -/
theorem XE.pure (a : XE K st F H F1 H1) (b : Ext F1 H1 F2 H2) : XE K st F H F2 H2 := by
  refine ⟨a.ext.trans ⟨Dl_same b.hh, b.ff, fun c o h => Dl_of (b.fh c o h) (fun d e z => ?_) ?_, fun c o h1 _ h2 => b.fr c (by rw [(Dl_some h1).1]; simp) h2⟩, a.ok.same b.hh⟩
  · obtain ⟨s, hs, _⟩ := a.ok.ls d e
    have f1 : F1 d = none := by
      subst e
      exact sub_none a.ext.fh Dl_st
    have f2 := b.fr d (by rw [hs]; simp) f1
    rw [z, f2] at h
    cases h
  · cases o with
    | tbl ps => exact (Dl_some (a.ext.fh _ _ (b.nt c ps h))).2
    | _ => rfl
theorem XE.same (g : Gd K st F H) (e : Same H H1) : XE K st F H F H1 :=
  (XE.refl g).pure ⟨e, Same.refl F, g.sub.trans e, fun _ _ h => h, fun _ _ h => h⟩
theorem XE.tup {xs : List V} (a : XE K st F H F1 H1) (ho : Dl st H1 p = some (.tup xs)) : XE K st F H (upd F1 p (.tup xs)) H1 := ⟨a.ext.tup ho, a.ok⟩
theorem XE.f0 (a : XE K st F H F1 H1) (g : Gd K st F H) (h : H p = none) (e : F1 = F) : F1 p = none := by
  subst e
  exact sub_none g.sub h
end

theorem sqL_noT {K : PySem.W.Frag} {H : Hp} {a : Addr} {xs : List V} (h : SqL K H a xs) : SqL K (noT H) a xs := by
  rcases h with (h | ⟨o, h⟩) | h
  · exact .inl (.inl (noT_of h rfl))
  · exact .inl (.inr ⟨o, noT_of h rfl⟩)
  · exact .inr h
/-! ### a state for the draws comes and goes -/
section
variable {K : PySem.W.Frag} {F H H1 F' H' : Hp} {p : Addr} {s : List V}
end
/-! ### what a value is worth -/
mutual
inductive R (K : PySem.W.Frag) (C : Addr) (st : Option Addr) (F : Hp) : V → D → Prop
  | non : R K C st F .non .non
  | bl (b : Bool) : R K C st F (.bl b) (.bl b)
  | int (i : Int) : R K C st F (.int i) (.int i)
  | str (s : Str) : R K C st F (.str s) (.str s)
  | lst {a : Addr} {vs : List V} {ds : List D} : SqL K F a vs → RA K C st F vs ds → R K C st F (.ref a) (.lst ds)
  | tup {a : Addr} {vs : List V} {ds : List D} : SqT K F a vs → RA K C st F vs ds → R K C st F (.ref a) (.tup ds)
  | stn {a : Addr} {ns : List Int} : F a = some (.tup (ns.map V.int)) → R K C st F (.ref a) (.stn ns)
  | ixt {a : Addr} {ob : Obj} {ns : List Int} : F a = some (.frz ob (.tup (ns.map V.int))) → ob.dict = none → R K C st F (.ref a) (.ixt ns)
  | bench {b : Addr} {B : BD} : BenchAt K C F b B → R K C st F (.ref b) (.bench B)
  | dic {a : Addr} {ks : List Key} {vs : List V} {ds : List D} : F a = some (.dK (ks.zip vs)) → ks.length = vs.length → RA K C st F vs ds → R K C st F (.ref a) (.dic ks ds)
  | dit {a : Addr} {ks : List (List Key)} {vs : List V} {ds : List D} : F a = some (.dT (ks.zip vs)) → ks.length = vs.length → RA K C st F vs ds → R K C st F (.ref a) (.dit ks ds)
  | st {a : Addr} : st = some a → R K C st F (.ref a) .st
  | exc0 {a : Addr} : R K C st F (.ref a) (.exc a none [] [])
  | exc {a dd : Addr} {ns : List Str} {vs : List V} {ds : List D} : F dd = some (.xd (ns.zip vs)) → ns.length = vs.length → RA K C st F vs ds → R K C st F (.ref a) (.exc a (some dd) ns ds)
  | lsx {a : Addr} {ns : List Int} : F a = some (.lst (ns.map V.int)) → R K C st F (.ref a) (.lsx a ns)
  | exv0 {a c : Addr} : F a = some (exo a c none) → R K C st F (.ref a) (.exv c [] [])
  | exv {a c dd : Addr} {ns : List Str} {vs : List V} {ds : List D} : F a = some (exo a c (some dd)) → F dd = some (exd dd (ns.zip vs)) → ns.length = vs.length → RA K C st F vs ds → R K C st F (.ref a) (.exv c ns ds)
inductive RA (K : PySem.W.Frag) (C : Addr) (st : Option Addr) (F : Hp) : List V → List D → Prop
  | nil : RA K C st F [] []
  | cons {v : V} {vs : List V} {d : D} {ds : List D} : R K C st F v d → RA K C st F vs ds → RA K C st F (v :: vs) (d :: ds)
end
section
variable {K : PySem.W.Frag} {C : Addr} {st : Option Addr} {F F' H : Hp}
mutual
theorem R.mono (e : Same F F') : ∀ {v : V} {d : D}, R K C st F v d → R K C st F' v d
  | _, _, .non => .non
  | _, _, .bl b => .bl b
  | _, _, .int i => .int i
  | _, _, .str x => .str x
  | _, _, .lst h hs => .lst (sqL_mono e h) (RA.mono e hs)
  | _, _, .tup h hs => .tup (sqT_mono e h) (RA.mono e hs)
  | _, _, .stn h => .stn (e _ _ h)
  | _, _, .ixt h d => .ixt (e _ _ h) d
  | _, _, .bench h => .bench (h.mono e)
  | _, _, .dic h l hs => .dic (e _ _ h) l (RA.mono e hs)
  | _, _, .dit h l hs => .dit (e _ _ h) l (RA.mono e hs)
  | _, _, .st h => .st h
  | _, _, .exc0 => .exc0
  | _, _, .exc h l hs => .exc (e _ _ h) l (RA.mono e hs)
  | _, _, .lsx h => .lsx (e _ _ h)
  | _, _, .exv0 h => .exv0 (e _ _ h)
  | _, _, .exv h g l hs => .exv (e _ _ h) (e _ _ g) l (RA.mono e hs)
theorem RA.mono (e : Same F F') : ∀ {vs : List V} {ds : List D}, RA K C st F vs ds → RA K C st F' vs ds
  | _, _, .nil => .nil
  | _, _, .cons h hs => .cons (R.mono e h) (RA.mono e hs)
end
theorem RA.len : ∀ {vs : List V} {ds : List D}, RA K C st F vs ds → vs.length = ds.length
  | _, _, .nil => rfl
  | _, _, .cons _ t => by rw [List.length_cons, List.length_cons, RA.len t]
theorem RA.get : ∀ {vs : List V} {ds : List D} {i : Nat} {d : D}, RA K C st F vs ds → ds[i]? = some d → ∃ v, vs[i]? = some v ∧ R K C st F v d
  | _, _, _, _, .nil, h => by simp at h
  | _, _, 0, _, .cons h _, e => by simp at e; subst e; exact ⟨_, rfl, h⟩
  | _, _, i + 1, _, .cons _ t, e => by
    obtain ⟨v, h1, h2⟩ := RA.get (i := i) t (by simpa using e)
    exact ⟨v, by simpa using h1, h2⟩
theorem RA.at : ∀ {vs : List V} {ds : List D} {i : Nat} {v : V}, RA K C st F vs ds → vs[i]? = some v → ∃ d, ds[i]? = some d ∧ R K C st F v d
  | _, _, _, _, .nil, h => by simp at h
  | _, _, 0, _, .cons h _, e => by simp at e; subst e; exact ⟨_, rfl, h⟩
  | _, _, i + 1, _, .cons _ t, e => by
    obtain ⟨v, h1, h2⟩ := RA.at (i := i) t (by simpa using e)
    exact ⟨v, by simpa using h1, h2⟩
theorem RA.of : ∀ {vs : List V} {ds : List D}, vs.length = ds.length → (∀ (i : Nat) v d, vs[i]? = some v → ds[i]? = some d → R K C st F v d) → RA K C st F vs ds
  | [], [], _, _ => .nil
  | [], _ :: _, h, _ => by simp at h
  | _ :: _, [], h, _ => by simp at h
  | v :: vs, d :: ds, h, f => .cons (f 0 v d rfl rfl) (RA.of (by simpa using h) fun i v d h1 h2 => f (i + 1) v d (by simpa using h1) (by simpa using h2))
theorem RA.app : ∀ {vs us : List V} {ds es : List D}, RA K C st F vs ds → RA K C st F us es → RA K C st F (vs ++ us) (ds ++ es)
  | _, _, _, _, .nil, h => h
  | _, _, _, _, .cons a b, h => .cons a (b.app h)
theorem RA.set {vs : List V} {ds : List D} {v : V} {d : D} (i : Nat) (h : RA K C st F vs ds) (r : R K C st F v d) : RA K C st F (vs.set i v) (ds.set i d) := by
  refine RA.of (by simp [h.len]) fun j x e h1 h2 => ?_
  rw [List.getElem?_set] at h1 h2
  by_cases z : i = j
  · subst z
    rw [if_pos rfl] at h1 h2
    by_cases w : i < vs.length
    · rw [if_pos w] at h1
      rw [if_pos (h.len ▸ w)] at h2
      cases h1
      cases h2
      exact r
    · rw [if_neg w] at h1
      cases h1
  · rw [if_neg z] at h1 h2
    obtain ⟨u, h3, h4⟩ := h.get h2
    rw [h1] at h3
    cases h3
    exact h4
theorem RA.drop : ∀ {vs : List V} {ds : List D} (n : Nat), RA K C st F vs ds → RA K C st F (vs.drop n) (ds.drop n)
  | _, _, 0, h => h
  | _, _, n + 1, .nil => .nil
  | _, _, n + 1, .cons _ b => b.drop n
theorem RA.take : ∀ {vs : List V} {ds : List D} (n : Nat), RA K C st F vs ds → RA K C st F (vs.take n) (ds.take n)
  | _, _, 0, _ => .nil
  | _, _, n + 1, .nil => .nil
  | _, _, n + 1, .cons a b => .cons a (b.take n)
theorem RA.ints : ∀ {vs : List V} {ns : List Int}, RA K C st F vs (ns.map D.int) → vs = ns.map V.int
  | [], [], _ => rfl
  | [], _ :: _, h => by cases h
  | _ :: _, [], h => by cases h
  | v :: vs, n :: ns, h => by
    cases h with
    | cons h1 h2 =>
      cases h1
      rw [RA.ints h2]
      rfl
theorem RA.ofInts : ∀ (ns : List Int), RA K C st F (ns.map V.int) (ns.map D.int)
  | [] => .nil
  | n :: ns => .cons (.int n) (RA.ofInts ns)
theorem RA.bools : ∀ {vs : List V} {ns : List Bool}, RA K C st F vs (ns.map D.bl) → vs = ns.map V.bl
  | [], [], _ => rfl
  | [], _ :: _, h => by cases h
  | _ :: _, [], h => by cases h
  | v :: vs, n :: ns, h => by
    cases h with
    | cons h1 h2 =>
      cases h1
      rw [RA.bools h2]
      rfl
end

/-! ### plain data and the model's own -/
mutual
def D.py : D → PyData
  | .non => .none
  | .bl b => .bool b
  | .int i => .int i
  | .str s => .str s
  | .lst l => .list (pys l)
  | .tup l => .tuple (pys l)
  | .stn ns => .tuple (ns.map PyData.int)
  | .ixt ns => .tuple (ns.map PyData.int)
  | .bench _ => .none
  | .dic _ _ => .none
  | .dit _ _ => .none
  | .st => .none
  | .exc _ _ _ _ => .none
  | .lsx _ _ => .none
  | .exv _ _ _ => .none
def pys : List D → List PyData
  | [] => []
  | d :: l => d.py :: pys l
end
theorem pys_map : ∀ l : List D, pys l = l.map D.py
  | [] => by simp [pys]
  | d :: l => by rw [pys, pys_map l]; rfl
/-- plain, of a depth of at most n -/
inductive Pl : Nat → D → Prop
  | non {n : Nat} : Pl n .non
  | bl {n : Nat} {b : Bool} : Pl n (.bl b)
  | int {n : Nat} {i : Int} : Pl n (.int i)
  | str {n : Nat} {s : Str} : PySem.PyData.strOk s = true → Pl n (.str s)
  | lst {n : Nat} {l : List D} : (∀ d ∈ l, Pl n d) → Pl (n + 1) (.lst l)
  | tup {n : Nat} {l : List D} : (∀ d ∈ l, Pl n d) → Pl (n + 1) (.tup l)
  | stn {n : Nat} {ns : List Int} : Pl (n + 1) (.stn ns)
  | ixt {n : Nat} {ns : List Int} : Pl (n + 1) (.ixt ns)
theorem Pl.sh : ∀ {n : Nat} {d : D}, Pl n d → Sh n d.py := by
  intro n d h
  induction h with
  | non => exact ⟨rfl, Nat.zero_le _⟩
  | bl => exact ⟨rfl, Nat.zero_le _⟩
  | int => exact ⟨rfl, Nat.zero_le _⟩
  | str h => exact ⟨h, Nat.zero_le _⟩
  | lst h ih =>
    rw [D.py, pys_map]
    refine sh_list fun e he => ?_
    obtain ⟨x, hx, rfl⟩ := List.mem_map.mp he
    exact ih x hx
  | tup h ih =>
    rw [D.py, pys_map]
    refine sh_tuple fun e he => ?_
    obtain ⟨x, hx, rfl⟩ := List.mem_map.mp he
    exact ih x hx
  | stn =>
    rw [D.py]
    exact sh_mono (sh_tupleI _) (by omega)
  | ixt =>
    rw [D.py]
    exact sh_mono (sh_tupleI _) (by omega)
theorem Pl.mono : ∀ {n m : Nat} {d : D}, Pl n d → n ≤ m → Pl m d := by
  intro n m d h
  induction h generalizing m with
  | non => exact fun _ => .non
  | bl => exact fun _ => .bl
  | int => exact fun _ => .int
  | str h => exact fun _ => .str h
  | lst h ih =>
    intro q
    cases m with
    | zero => omega
    | succ m => exact .lst fun d hd => ih d hd (by omega)
  | tup h ih =>
    intro q
    cases m with
    | zero => omega
    | succ m => exact .tup fun d hd => ih d hd (by omega)
  | stn =>
    intro q
    cases m with
    | zero => omega
    | succ m => exact .stn
  | ixt =>
    intro q
    cases m with
    | zero => omega
    | succ m => exact .ixt
theorem pl_nil {n : Nat} : ∀ d ∈ ([] : List D), Pl n d := fun _ h => nomatch h
theorem pl_cons {n : Nat} {d : D} {l : List D} (h : Pl n d) (t : ∀ e ∈ l, Pl n e) : ∀ e ∈ d :: l, Pl n e := fun e he => by
  rcases List.mem_cons.mp he with rfl | he
  · exact h
  · exact t e he
section
variable {K : PySem.W.Frag} {C : Addr} {st : Option Addr} {F : Hp}
theorem RA.dpAll {n : Nat} : ∀ {vs : List V} {ds : List D}, (∀ v d, d ∈ ds → R K C st F v d → Dp K F v d.py) → RA K C st F vs ds → DpAll K F vs (pys ds)
  | _, _, _, .nil => .nil
  | _, _, f, .cons h t => .cons (f _ _ List.mem_cons_self h) (RA.dpAll (n := n) (fun v d hd => f v d (List.mem_cons_of_mem _ hd)) t)
theorem Pl.dp : ∀ {n : Nat} {d : D}, Pl n d → ∀ {v : V}, R K C st F v d → Dp K F v d.py := by
  intro n d h
  induction h with
  | non => intro v r; cases r; exact .non
  | bl => intro v r; cases r; exact .bl _
  | int => intro v r; cases r; exact .int _
  | str h => intro v r; cases r; exact .str _
  | lst h ih =>
    intro v r
    cases r with
    | lst a b => exact .lst a (RA.dpAll (n := 0) (fun v d hd r => ih d hd r) b)
  | tup h ih =>
    intro v r
    cases r with
    | tup a b => exact .tup a (RA.dpAll (n := 0) (fun v d hd r => ih d hd r) b)
  | stn =>
    intro v r
    cases r with
    | stn a =>
      rw [D.py]
      exact dp_tupI (.inl (.inl a))
  | ixt =>
    intro v r
    cases r with
    | ixt a _ =>
      rw [D.py]
      exact dp_tupI (.inl (.inr ⟨_, a⟩))
end
def eqD (d e : D) : Bool := PyData.eqv d.py e.py
theorem eqD_self {n : Nat} {d : D} (h : Pl n d) : eqD d d = true := eqv_self h.sh
end G

namespace G
open PySem PySem.Spec PyProof.Rows L2
/-! ## a def's frame, by data -/
structure Cm where
  K : PySem.W.Frag
  C : Addr
  st : Option Addr
  F0 : Hp
  H0 : Hp
/-- what a slot holds: data; a list, a dict of its own, that may change -/
inductive Sl where
  | d (x : D) | own (l : List D) | ownK (ks : List Key) (l : List D) | ownT (ks : List (List Key)) (l : List D)
  | lk (p : Addr) (o : HO) (vs : List V) (l : List D)
def Sl.mine : Sl → Bool
  | .d _ => false
  | _ => true
abbrev Rho := List (Option Sl)
abbrev RV (M : Cm) (F : Hp) : V → D → Prop := R M.K M.C M.st F
abbrev RL (M : Cm) (F : Hp) : List V → List D → Prop := RA M.K M.C M.st F
abbrev XM (M : Cm) (F H F' H' : Hp) : Prop := XE M.K M.st F H F' H'
def SR (M : Cm) (F H : Hp) (v : V) : Sl → Prop
  | .d x => RV M F v x
  | .own l => ∃ p vs, v = .ref p ∧ Dl M.st H p = some (.lst vs) ∧ F p = none ∧ Dl M.st M.H0 p = none ∧ RL M F vs l
  | .ownK ks l => ∃ p vs, v = .ref p ∧ Dl M.st H p = some (.dK (ks.zip vs)) ∧ ks.length = vs.length ∧ F p = none ∧ Dl M.st M.H0 p = none ∧ RL M F vs l
  | .ownT ks l => ∃ p vs, v = .ref p ∧ Dl M.st H p = some (.dT (ks.zip vs)) ∧ ks.length = vs.length ∧ F p = none ∧ Dl M.st M.H0 p = none ∧ RL M F vs l
  | .lk p o vs l => v = .ref p ∧ Dl M.st H p = some o ∧ isTupO o = false ∧ F p = none ∧ Dl M.st M.H0 p = none ∧ RL M F vs l
structure Fr (M : Cm) (ρ : Rho) (σ : L2.St) (F H : Hp) : Prop where
  x : XM M M.F0 M.H0 F H
  len : σ.length = ρ.length
  each : ∀ (i : Nat) s, ρ[i]? = some (some s) → ∃ v, σ[i]? = some (some v) ∧ SR M F H v s
  dist : ∀ (i j : Nat) s t, i ≠ j → ρ[i]? = some (some s) → ρ[j]? = some (some t) → s.mine = true → t.mine = true → σ[i]? ≠ σ[j]?
section
variable {M : Cm} {ρ : Rho} {σ : L2.St} {F H F' H' : Hp} {v : V} {d : D} {i : Nat} {p : Addr} {vs : List V} {l : List D}
theorem Fr.gd (e : Fr M ρ σ F H) : Gd M.K M.st F H := e.x.gd
theorem SR.step {s : Sl} (x : XM M F H F' H') (h : SR M F H v s) : SR M F' H' v s := by
  cases s with
  | d y => exact R.mono x.ff h
  | own l =>
    obtain ⟨p, vs, rfl, h1, h2, h3, h4⟩ := h
    exact ⟨p, vs, rfl, x.ext.hh _ _ h1, x.ext.fr p _ h1 rfl h2, h3, h4.mono x.ff⟩
  | ownK ks l =>
    obtain ⟨p, vs, rfl, h1, h5, h2, h3, h4⟩ := h
    exact ⟨p, vs, rfl, x.ext.hh _ _ h1, h5, x.ext.fr p _ h1 rfl h2, h3, h4.mono x.ff⟩
  | ownT ks l =>
    obtain ⟨p, vs, rfl, h1, h5, h2, h3, h4⟩ := h
    exact ⟨p, vs, rfl, x.ext.hh _ _ h1, h5, x.ext.fr p _ h1 rfl h2, h3, h4.mono x.ff⟩
  | lk p o vs l =>
    obtain ⟨rfl, h1, h5, h2, h3, h4⟩ := h
    exact ⟨rfl, x.ext.hh _ _ h1, h5, x.ext.fr p _ h1 h5 h2, h3, h4.mono x.ff⟩
theorem Fr.step (e : Fr M ρ σ F H) (x : XM M F H F' H') : Fr M ρ σ F' H' :=
  ⟨e.x.trans x, e.len, fun i s h => by
    obtain ⟨v, h1, h2⟩ := e.each i s h
    exact ⟨v, h1, h2.step x⟩, e.dist⟩
/-- a slot takes data -/
theorem Fr.put (e : Fr M ρ σ F H) (r : RV M F v d) : Fr M (ρ.set i (some (.d d))) (σ.set i (some v)) F H := by
  refine ⟨e.x, by simp [e.len], fun j s h => ?_, fun a b s t ne h1 h2 m1 m2 => ?_⟩
  · rw [List.getElem?_set] at h
    by_cases z : i = j
    · subst z
      rw [if_pos rfl] at h
      by_cases w : i < ρ.length
      · rw [if_pos w] at h
        cases h
        exact ⟨v, by rw [List.getElem?_set_self (by rw [e.len]; exact w)], r⟩
      · rw [if_neg w] at h
        cases h
    · rw [if_neg z] at h
      rw [List.getElem?_set_ne z]
      exact e.each j s h
  · have own : ∀ (j : Nat) s, (ρ.set i (some (Sl.d d)))[j]? = some (some s) → s.mine = true → ρ[j]? = some (some s) ∧ i ≠ j := fun j s h m => by
      rw [List.getElem?_set] at h
      by_cases z : i = j
      · subst z
        rw [if_pos rfl] at h
        by_cases w : i < ρ.length
        · rw [if_pos w] at h
          cases h
          cases m
        · rw [if_neg w] at h
          cases h
      · rw [if_neg z] at h
        exact ⟨h, z⟩
    obtain ⟨a1, a2⟩ := own a s h1 m1
    obtain ⟨b1, b2⟩ := own b t h2 m2
    rw [List.getElem?_set_ne a2, List.getElem?_set_ne b2]
    exact e.dist a b s t ne a1 b1 m1 m2
/-- a slot takes what no other slot holds -/
theorem Fr.putO {s0 : Sl} (e : Fr M ρ σ F H) (r : SR M F H v s0) (nw : ∀ (j : Nat) s, j ≠ i → ρ[j]? = some (some s) → s.mine = true → σ[j]? ≠ some (some v)) : Fr M (ρ.set i (some s0)) (σ.set i (some v)) F H := by
  refine ⟨e.x, by simp [e.len], fun j s h => ?_, fun a b s t ne h1 h2 m1 m2 => ?_⟩
  · rw [List.getElem?_set] at h
    by_cases z : i = j
    · subst z
      rw [if_pos rfl] at h
      by_cases w : i < ρ.length
      · rw [if_pos w] at h
        cases h
        exact ⟨v, by rw [List.getElem?_set_self (by rw [e.len]; exact w)], r⟩
      · rw [if_neg w] at h
        cases h
    · rw [if_neg z] at h
      rw [List.getElem?_set_ne z]
      exact e.each j s h
  · by_cases za : i = a
    · subst za
      have zb : i ≠ b := ne
      rw [List.getElem?_set_ne zb] at h2
      rw [List.getElem?_set_ne zb]
      have w : i < σ.length := by
        rw [e.len]
        rw [List.getElem?_set] at h1
        rw [if_pos rfl] at h1
        by_cases w : i < ρ.length
        · exact w
        · rw [if_neg w] at h1; cases h1
      rw [List.getElem?_set_self w]
      exact fun q => nw b t (Ne.symm zb) h2 m2 q.symm
    · rw [List.getElem?_set_ne za] at h1
      rw [List.getElem?_set_ne za]
      by_cases zb : i = b
      · subst zb
        have w : i < σ.length := by
          rw [e.len]
          rw [List.getElem?_set] at h2
          rw [if_pos rfl] at h2
          by_cases w : i < ρ.length
          · exact w
          · rw [if_neg w] at h2; cases h2
        rw [List.getElem?_set_self w]
        exact nw a s (fun q => za q.symm) h1 m1
      · rw [List.getElem?_set_ne zb] at h2
        rw [List.getElem?_set_ne zb]
        exact e.dist a b s t ne h1 h2 m1 m2
/-- where a thing of its own stands -/
theorem SR.mine_at {s : Sl} (h : SR M F H v s) (m : s.mine = true) : ∃ p o, v = .ref p ∧ Dl M.st H p = some o ∧ F p = none ∧ Dl M.st M.H0 p = none := by
  cases s with
  | d y => cases m
  | own l =>
    obtain ⟨p, vs, rfl, h1, h2, h3, h4⟩ := h
    exact ⟨p, _, rfl, h1, h2, h3⟩
  | ownK ks l =>
    obtain ⟨p, vs, rfl, h1, h5, h2, h3, h4⟩ := h
    exact ⟨p, _, rfl, h1, h2, h3⟩
  | ownT ks l =>
    obtain ⟨p, vs, rfl, h1, h5, h2, h3, h4⟩ := h
    exact ⟨p, _, rfl, h1, h2, h3⟩
  | lk p o vs l =>
    obtain ⟨rfl, h1, h5, h2, h3, h4⟩ := h
    exact ⟨p, _, rfl, h1, h2, h3⟩
/-- a thing of its own changes -/
theorem SR.other {s : Sl} {o : HO} (h : SR M F H v s) (fp : F p = none) (ne : s.mine = true → v ≠ .ref p) (hp : ∀ a, M.st = some a → p ≠ a) : SR M F (upd H p o) v s := by
  cases s with
  | d y => exact h
  | own l =>
    obtain ⟨q, vs, rfl, h1, h2, h3, h4⟩ := h
    refine ⟨q, vs, rfl, ?_, h2, h3, h4⟩
    rw [Dl_off (fun z => ne rfl (by rw [z]))]
    exact h1
  | ownK ks l =>
    obtain ⟨q, vs, rfl, h1, h5, h2, h3, h4⟩ := h
    refine ⟨q, vs, rfl, ?_, h5, h2, h3, h4⟩
    rw [Dl_off (fun z => ne rfl (by rw [z]))]
    exact h1
  | ownT ks l =>
    obtain ⟨q, vs, rfl, h1, h5, h2, h3, h4⟩ := h
    refine ⟨q, vs, rfl, ?_, h5, h2, h3, h4⟩
    rw [Dl_off (fun z => ne rfl (by rw [z]))]
    exact h1
  | lk q o vs l =>
    obtain ⟨rfl, h1, h5, h2, h3, h4⟩ := h
    refine ⟨rfl, ?_, h5, h2, h3, h4⟩
    rw [Dl_off (fun z => ne rfl (by rw [z]))]
    exact h1
theorem Fr.chg {s0 s1 : Sl} {o o' : HO} (e : Fr M ρ σ F H) (hi : ρ[i]? = some (some s0)) (m0 : s0.mine = true) (hv : σ[i]? = some (some (.ref p))) (hp : Dl M.st H p = some o') (fp : F p = none) (h0 : Dl M.st M.H0 p = none) (r : SR M F (upd H p o) (.ref p) s1) (n : isTbl o = false := by rfl) (x : isExt o' = false := by rfl) : Fr M (ρ.set i (some s1)) σ F (upd H p o) := by
  have w : i < ρ.length := (List.getElem?_eq_some_iff.mp hi).1
  have hne := Dl_ne hp
  refine ⟨e.x.chg hp h0 fp n x, by simp [e.len], fun j s h => ?_, fun a b s t ne h1 h2 m1 m2 => ?_⟩
  · by_cases z : i = j
    · subst z
      rw [List.getElem?_set_self w] at h
      cases h
      exact ⟨_, hv, r⟩
    · rw [List.getElem?_set_ne z] at h
      obtain ⟨v, q1, q2⟩ := e.each j s h
      refine ⟨v, q1, q2.other fp (fun m q => ?_) hne⟩
      subst q
      exact e.dist i j s0 s z hi h m0 m (by rw [hv, q1])
  · have get : ∀ (j : Nat) s, (ρ.set i (some s1))[j]? = some (some s) → s.mine = true → ∃ s', ρ[j]? = some (some s') ∧ s'.mine = true := fun j s h m => by
      by_cases z : i = j
      · subst z
        exact ⟨s0, hi, m0⟩
      · rw [List.getElem?_set_ne z] at h
        exact ⟨s, h, m⟩
    obtain ⟨s', a1, a2⟩ := get a s h1 m1
    obtain ⟨t', b1, b2⟩ := get b t h2 m2
    exact e.dist a b s' t' ne a1 b1 a2 b2
/-- a thing of its own becomes data -/
theorem Fr.frz {s0 : Sl} {o : HO} (e : Fr M ρ σ F H) (hi : ρ[i]? = some (some s0)) (m0 : s0.mine = true) (hv : σ[i]? = some (some (.ref p))) (hp : Dl M.st H p = some o) (fp : F p = none) (h0 : Dl M.st M.H0 p = none) (r : RV M (upd F p o) (.ref p) d) : Fr M (ρ.set i (some (.d d))) σ (upd F p o) H := by
  have w : i < ρ.length := (List.getElem?_eq_some_iff.mp hi).1
  refine ⟨e.x.frz h0 fp hp, by simp [e.len], fun j s h => ?_, fun a b s t ne h1 h2 m1 m2 => ?_⟩
  · by_cases z : i = j
    · subst z
      rw [List.getElem?_set_self w] at h
      cases h
      exact ⟨_, hv, r⟩
    · rw [List.getElem?_set_ne z] at h
      obtain ⟨v, q1, q2⟩ := e.each j s h
      refine ⟨v, q1, ?_⟩
      have key : ∀ q, v = .ref q → s.mine = true → q ≠ p := fun q e1 m e2 => by
        subst e1 e2
        exact e.dist i j s0 s z hi h m0 m (by rw [hv, q1])
      cases s with
      | d y => exact R.mono (same_upd fp) q2
      | own l =>
        obtain ⟨q, vs, rfl, h1, h2, h3, h4⟩ := q2
        exact ⟨q, vs, rfl, h1, by rw [upd_ne (key q rfl rfl)]; exact h2, h3, h4.mono (same_upd fp)⟩
      | ownK ks l =>
        obtain ⟨q, vs, rfl, h1, h5, h2, h3, h4⟩ := q2
        exact ⟨q, vs, rfl, h1, h5, by rw [upd_ne (key q rfl rfl)]; exact h2, h3, h4.mono (same_upd fp)⟩
      | ownT ks l =>
        obtain ⟨q, vs, rfl, h1, h5, h2, h3, h4⟩ := q2
        exact ⟨q, vs, rfl, h1, h5, by rw [upd_ne (key q rfl rfl)]; exact h2, h3, h4.mono (same_upd fp)⟩
      | lk q o vs l =>
        obtain ⟨rfl, h1, h5, h2, h3, h4⟩ := q2
        exact ⟨rfl, h1, h5, by rw [upd_ne (key q rfl rfl)]; exact h2, h3, h4.mono (same_upd fp)⟩
  · have own : ∀ (j : Nat) s, (ρ.set i (some (Sl.d d)))[j]? = some (some s) → s.mine = true → ρ[j]? = some (some s) := fun j s h m => by
      by_cases z : i = j
      · subst z
        rw [List.getElem?_set_self w] at h
        cases h
        cases m
      · rw [List.getElem?_set_ne z] at h
        exact h
    exact e.dist a b s t ne (own a s h1 m1) (own b t h2 m2) m1 m2
def wipeR (ρ : Rho) : List Nat → Rho
  | [] => ρ
  | v :: vs => (wipeR ρ vs).set v none
theorem Fr.drop (e : Fr M ρ σ F H) (i : Nat) : Fr M (ρ.set i none) (σ.set i none) F H := by
  have get : ∀ (j : Nat) s, (ρ.set i none)[j]? = some (some s) → ρ[j]? = some (some s) ∧ i ≠ j := fun j s h => by
    rw [List.getElem?_set] at h
    by_cases z : i = j
    · rw [if_pos z] at h
      by_cases w : i < ρ.length
      · rw [if_pos w] at h; cases h
      · rw [if_neg w] at h; cases h
    · rw [if_neg z] at h
      exact ⟨h, z⟩
  refine ⟨e.x, by simp [e.len], fun j s h => ?_, fun a b s t ne h1 h2 m1 m2 => ?_⟩
  · obtain ⟨h, z⟩ := get j s h
    rw [List.getElem?_set_ne z]
    exact e.each j s h
  · obtain ⟨h1, z1⟩ := get a s h1
    obtain ⟨h2, z2⟩ := get b t h2
    rw [List.getElem?_set_ne z1, List.getElem?_set_ne z2]
    exact e.dist a b s t ne h1 h2 m1 m2
theorem Fr.wipe (e : Fr M ρ σ F H) : ∀ vs : List Nat, Fr M (wipeR ρ vs) (L2.wipe σ vs) F H
  | [] => e
  | v :: vs => (e.wipe vs).drop v
end
/-! ### borrowed: what is read at once -/
def RB (M : Cm) (F H : Hp) (v : V) (d : D) : Prop := RV M F v d ∨ (∃ p vs l, v = .ref p ∧ d = .lst l ∧ Dl M.st H p = some (.lst vs) ∧ RL M F vs l) ∨
  (∃ p ks vs l, v = .ref p ∧ d = .dic ks l ∧ Dl M.st H p = some (.dK (ks.zip vs)) ∧ ks.length = vs.length ∧ RL M F vs l) ∨ (∃ p ks vs l, v = .ref p ∧ d = .dit ks l ∧ Dl M.st H p = some (.dT (ks.zip vs)) ∧ ks.length = vs.length ∧ RL M F vs l)
section
variable {M : Cm} {F H F' H' : Hp} {v : V} {d : D} {l : List D}
theorem RB.step (x : XM M F H F' H') (h : RB M F H v d) : RB M F' H' v d := by
  rcases h with h | ⟨p, vs, l, rfl, rfl, h1, h2⟩ | ⟨p, ks, vs, l, rfl, rfl, h1, h3, h2⟩ | ⟨p, ks, vs, l, rfl, rfl, h1, h3, h2⟩
  · exact .inl (R.mono x.ff h)
  · exact .inr (.inl ⟨p, vs, l, rfl, rfl, x.ext.hh _ _ h1, h2.mono x.ff⟩)
  · exact .inr (.inr (.inl ⟨p, ks, vs, l, rfl, rfl, x.ext.hh _ _ h1, h3, h2.mono x.ff⟩))
  · exact .inr (.inr (.inr ⟨p, ks, vs, l, rfl, rfl, x.ext.hh _ _ h1, h3, h2.mono x.ff⟩))
theorem RB.lst (g : Gd M.K M.st F H) (h : RB M F H v (.lst l)) : ∃ p vs, v = .ref p ∧ SqL M.K H p vs ∧ RL M F vs l := by
  rcases h with h | ⟨p, vs, l', rfl, e, h1, h2⟩ | ⟨p, ks, vs, l', rfl, e, h1, h3, h2⟩ | ⟨p, ks, vs, l', rfl, e, h1, h3, h2⟩
  · cases h with
    | lst a b => exact ⟨_, _, rfl, sqL_mono g.sub a, b⟩
  · cases e
    exact ⟨p, vs, rfl, .inl (.inl (Dl_sub _ _ h1)), h2⟩
  · cases e
  · cases e
theorem RB.tup (h : RB M F H v (.tup l)) : ∃ p vs, v = .ref p ∧ SqT M.K F p vs ∧ RL M F vs l := by
  rcases h with h | ⟨p, vs, l', rfl, e, h1, h2⟩ | ⟨p, ks, vs, l', rfl, e, h1, h3, h2⟩ | ⟨p, ks, vs, l', rfl, e, h1, h3, h2⟩
  · cases h with
    | tup a b => exact ⟨_, _, rfl, a, b⟩
  · cases e
  · cases e
  · cases e
theorem RB.stn {ns : List Int} (h : RB M F H v (.stn ns)) : ∃ p, v = .ref p ∧ F p = some (.tup (ns.map V.int)) := by
  rcases h with h | ⟨p, vs, l', rfl, e, h1, h2⟩ | ⟨p, ks, vs, l', rfl, e, h1, h3, h2⟩ | ⟨p, ks, vs, l', rfl, e, h1, h3, h2⟩
  · cases h with
    | stn a => exact ⟨_, rfl, a⟩
  · cases e
  · cases e
  · cases e
theorem RB.ixt {ns : List Int} (h : RB M F H v (.ixt ns)) : ∃ p ob, v = .ref p ∧ F p = some (.frz ob (.tup (ns.map V.int))) ∧ ob.dict = none := by
  rcases h with h | ⟨p, vs, l', rfl, e, h1, h2⟩ | ⟨p, ks, vs, l', rfl, e, h1, h3, h2⟩ | ⟨p, ks, vs, l', rfl, e, h1, h3, h2⟩
  · cases h with
    | ixt a b => exact ⟨_, _, rfl, a, b⟩
  · cases e
  · cases e
  · cases e
theorem RB.int {i : Int} (h : RB M F H v (.int i)) : v = .int i := by
  rcases h with h | ⟨p, vs, l', rfl, e, h1, h2⟩ | ⟨p, ks, vs, l', rfl, e, h1, h3, h2⟩ | ⟨p, ks, vs, l', rfl, e, h1, h3, h2⟩
  · cases h; rfl
  · cases e
  · cases e
  · cases e
theorem RB.bl {i : Bool} (h : RB M F H v (.bl i)) : v = .bl i := by
  rcases h with h | ⟨p, vs, l', rfl, e, h1, h2⟩ | ⟨p, ks, vs, l', rfl, e, h1, h3, h2⟩ | ⟨p, ks, vs, l', rfl, e, h1, h3, h2⟩
  · cases h; rfl
  · cases e
  · cases e
  · cases e
theorem RB.str {i : Str} (h : RB M F H v (.str i)) : v = .str i := by
  rcases h with h | ⟨p, vs, l', rfl, e, h1, h2⟩ | ⟨p, ks, vs, l', rfl, e, h1, h3, h2⟩ | ⟨p, ks, vs, l', rfl, e, h1, h3, h2⟩
  · cases h; rfl
  · cases e
  · cases e
  · cases e
theorem RB.non (h : RB M F H v .non) : v = .non := by
  rcases h with h | ⟨p, vs, l', rfl, e, h1, h2⟩ | ⟨p, ks, vs, l', rfl, e, h1, h3, h2⟩ | ⟨p, ks, vs, l', rfl, e, h1, h3, h2⟩
  · cases h; rfl
  · cases e
  · cases e
  · cases e
theorem RB.bench {B : BD} (h : RB M F H v (.bench B)) : ∃ b, v = .ref b ∧ BenchAt M.K M.C F b B := by
  rcases h with h | ⟨p, vs, l', rfl, e, h1, h2⟩ | ⟨p, ks, vs, l', rfl, e, h1, h3, h2⟩ | ⟨p, ks, vs, l', rfl, e, h1, h3, h2⟩
  · cases h with
    | bench a => exact ⟨_, rfl, a⟩
  · cases e
  · cases e
  · cases e
theorem RB.dic {ks : List Key} (g : Gd M.K M.st F H) (h : RB M F H v (.dic ks l)) : ∃ p vs, v = .ref p ∧ H p = some (.dK (ks.zip vs)) ∧ ks.length = vs.length ∧ RL M F vs l := by
  rcases h with h | ⟨p, vs, l', rfl, e, h1, h2⟩ | ⟨p, ks, vs, l', rfl, e, h1, h3, h2⟩ | ⟨p, ks, vs, l', rfl, e, h1, h3, h2⟩
  · cases h with
    | dic a b c => exact ⟨_, _, rfl, g.sub _ _ a, b, c⟩
  · cases e
  · cases e
    exact ⟨p, vs, rfl, Dl_sub _ _ h1, h3, h2⟩
  · cases e
theorem RB.dit {ks : List (List Key)} (g : Gd M.K M.st F H) (h : RB M F H v (.dit ks l)) : ∃ p vs, v = .ref p ∧ H p = some (.dT (ks.zip vs)) ∧ ks.length = vs.length ∧ RL M F vs l := by
  rcases h with h | ⟨p, vs, l', rfl, e, h1, h2⟩ | ⟨p, ks, vs, l', rfl, e, h1, h3, h2⟩ | ⟨p, ks, vs, l', rfl, e, h1, h3, h2⟩
  · cases h with
    | dit a b c => exact ⟨_, _, rfl, g.sub _ _ a, b, c⟩
  · cases e
  · cases e
  · cases e
    exact ⟨p, vs, rfl, Dl_sub _ _ h1, h3, h2⟩
/-- plain data, borrowed, as the model's own -/
theorem RB.dp {n : Nat} (g : Gd M.K M.st F H) (hp : Pl n d) (h : RB M F H v d) : Dp M.K H v d.py := by
  rcases h with h | ⟨p, vs, l', rfl, e, h1, h2⟩ | ⟨p, ks, vs, l', rfl, e, h1, h3, h2⟩ | ⟨p, ks, vs, l', rfl, e, h1, h3, h2⟩
  · exact dp_mono g.sub (hp.dp h)
  · subst e
    cases hp with
    | lst a => exact .lst (.inl (.inl (Dl_sub _ _ h1))) (dpAll_mono g.sub (RA.dpAll (n := 0) (fun v d hd r => (a d hd).dp r) h2))
  · subst e
    cases hp
  · subst e
    cases hp
end

/-! ## the judgements -/
def WE (M : Cm) (t : TE) (ρ : Rho) (k : D → Prop) : Prop := ∀ σ F H Q, Fr M ρ σ F H → (∀ v d F' H', XM M F H F' H' → RV M F' v d → k d → Q v H') → t σ H Q
def WB (M : Cm) (t : TE) (ρ : Rho) (k : D → Prop) : Prop := ∀ σ F H Q, Fr M ρ σ F H → (∀ v d F' H', XM M F H F' H' → RB M F' H' v d → k d → Q v H') → t σ H Q
/-- a new list of its own -/
def WO (M : Cm) (t : TE) (ρ : Rho) (k : List D → Prop) : Prop := ∀ σ F H Q, Fr M ρ σ F H → (∀ p vs l F' H', XM M F H F' H' → Dl M.st H' p = some (.lst vs) → F' p = none → Dl M.st H p = none → RL M F' vs l → k l → Q (.ref p) H') → t σ H Q
def WT (M : Cm) (t : TT) (ρ : Rho) (k : Bool → Prop) : Prop := ∀ σ F H Q, Fr M ρ σ F H → (∀ b F' H', XM M F H F' H' → k b → Q b H') → t σ H Q
def WA (M : Cm) (t : TA) (ρ : Rho) (k : List D → Prop) : Prop := ∀ σ F H Q, Fr M ρ σ F H → (∀ vs ds F' H', XM M F H F' H' → RL M F' vs ds → k ds → Q vs H') → t σ H Q
inductive RBs (M : Cm) (F H : Hp) : List V → List D → Prop
  | nil : RBs M F H [] []
  | cons {v : V} {d : D} {vs : List V} {ds : List D} : RB M F H v d → RBs M F H vs ds → RBs M F H (v :: vs) (d :: ds)
theorem RBs.step {M : Cm} {F H F' H' : Hp} (x : XM M F H F' H') : ∀ {vs : List V} {ds : List D}, RBs M F H vs ds → RBs M F' H' vs ds
  | _, _, .nil => .nil
  | _, _, .cons h t => .cons (h.step x) (t.step x)
def WAB (M : Cm) (t : TA) (ρ : Rho) (k : List D → Prop) : Prop := ∀ σ F H Q, Fr M ρ σ F H → (∀ vs ds F' H', XM M F H F' H' → RBs M F' H' vs ds → k ds → Q vs H') → t σ H Q
def WS (M : Cm) (t : TS) (ρ : Rho) (nx : Rho → Prop) (rt : Sl → Rho → Prop) (bk ct : Rho → Prop) : Prop := ∀ σ F H (E : Ends), Fr M ρ σ F H →
  (∀ ρ' σ' F' H', Same F F' → Fr M ρ' σ' F' H' → nx ρ' → E.nx σ' H') → (∀ v s ρ' σ' F' H', Fr M ρ' σ' F' H' → SR M F' H' v s → rt s ρ' → E.rt v H') →
  (∀ ρ' σ' F' H', Same F F' → Fr M ρ' σ' F' H' → bk ρ' → E.bk σ' H') → (∀ ρ' σ' F' H', Same F F' → Fr M ρ' σ' F' H' → ct ρ' → E.ct σ' H') → t E σ H
/-- data are told -/
abbrev rtD (k : D → Prop) : Sl → Rho → Prop := fun s _ => match s with
  | .d d => k d
  | _ => False
/-- a list of its own is told -/
abbrev rtO (k : List D → Prop) : Sl → Rho → Prop := fun s _ => match s with
  | .own l => k l
  | _ => False
def WG (M : Cm) (S : Nat → Prop) (g : TG) (d : D) (ρ : Rho) (k : Rho → Prop) : Prop := ∀ v σ F H Q, Fr M ρ σ F H → RV M F v d →
  (∀ ρ' σ' F' H', XM M F H F' H' → Fr M ρ' σ' F' H' → σ'.length = σ.length → (∀ i : Nat, ¬ S i → σ'[i]? = σ[i]?) → (∀ (i : Nat) s, ρ'[i]? = some (some s) → s.mine = true → ρ[i]? = some (some s) ∧ σ'[i]? = σ[i]?) → k ρ' → Q σ' H') → g v σ H Q
def WGs (M : Cm) (S : Nat → Prop) (g : TGs) (ds : List D) (ρ : Rho) (k : Rho → Prop) : Prop := ∀ vs σ F H Q, Fr M ρ σ F H → RL M F vs ds →
  (∀ ρ' σ' F' H', XM M F H F' H' → Fr M ρ' σ' F' H' → σ'.length = σ.length → (∀ i : Nat, ¬ S i → σ'[i]? = σ[i]?) → (∀ (i : Nat) s, ρ'[i]? = some (some s) → s.mine = true → ρ[i]? = some (some s) ∧ σ'[i]? = σ[i]?) → k ρ' → Q σ' H') → g vs σ H Q
/-- an iterator over data that stays -/
def Dw (M : Cm) (J : It) (l : List D) (F : Hp) : Prop := ∃ G Y, Walk J l.length G Y ∧ (∀ F' H', Same F F' → Gd M.K M.st F' H' → G H') ∧ ∀ (i : Nat) x Fa Ha Hb d, Same F Fa → Gd M.K M.st Fa Ha → Y i Ha x Hb → l[i]? = some d → ∃ Fb, XM M Fa Ha Fb Hb ∧ RV M Fb x d
/-- an iterator over what is borrowed -/
def Dv (M : Cm) (J : It) (l : List D) (F H : Hp) : Prop := ∃ G Y, Walk J l.length G Y ∧ (∀ F' H', XM M F H F' H' → G H') ∧ ∀ (i : Nat) x Fa Ha Hb d, XM M F H Fa Ha → Y i Ha x Hb → l[i]? = some d → ∃ Fb, XM M Fa Ha Fb Hb ∧ RV M Fb x d
def WI (M : Cm) (wi : TI) (ρ : Rho) (k : List D → Prop) : Prop := ∀ σ F H Q, Fr M ρ σ F H → (∀ J l F' H', XM M F H F' H' → Dw M J l F' → k l → Q J H') → wi σ H Q
def WV (M : Cm) (wi : TI) (ρ : Rho) (k : List D → Prop) : Prop := ∀ σ F H Q, Fr M ρ σ F H → (∀ J l F' H', XM M F H F' H' → Dv M J l F' H' → k l → Q J H') → wi σ H Q
theorem Dw.dv {M : Cm} {J : It} {l : List D} {F H : Hp} (g : Gd M.K M.st F H) (w : Dw M J l F) : Dv M J l F H := by
  obtain ⟨G, Y, w1, w2, w3⟩ := w
  exact ⟨G, Y, w1, fun F' H' x => w2 F' H' x.ff x.gd, fun i x Fa Ha Hb d e => w3 i x Fa Ha Hb d e.ff e.gd⟩
theorem WI.wv {M : Cm} {wi : TI} {ρ : Rho} {k : List D → Prop} (h : WI M wi ρ k) : WV M wi ρ k := fun σ F H Q e q => h σ F H Q e fun J l F' H' x w => q J l F' H' x (w.dv x.gd)
theorem WE.wb {M : Cm} {t : TE} {ρ : Rho} {k : D → Prop} (h : WE M t ρ k) : WB M t ρ k := fun σ F H Q e q => h σ F H Q e fun v d F' H' x r => q v d F' H' x (.inl r)
theorem WO.we {M : Cm} {t : TE} {ρ : Rho} {k : D → Prop} (h : WO M t ρ fun l => k (.lst l)) : WE M t ρ k := fun σ F H Q e q => h σ F H Q e fun p vs l F' H' x h1 h2 h3 h4 => q _ _ (upd F' p (.lst vs)) H' (x.frz h3 h2 h1) (.lst (.inl (.inl upd_same)) (h4.mono (same_upd h2)))
end G

namespace G
open PySem PySem.Spec PyProof.Rows L2
section
variable {M : Cm} {ρ : Rho} {k : D → Prop} {kb : Bool → Prop} {ka : List D → Prop} {kr : Rho → Prop} {ta tb tc te : TE} {t u : TT} {tr : TA} {i : Nat} {d : D} {l : List D}
/-! ### expressions -/
theorem we_var (h : ρ[i]? = some (some (.d d))) (q : k d) : WE M (tVar i) ρ k := fun σ F H Q e f => by
  obtain ⟨v, h1, h2⟩ := e.each i _ h
  exact ⟨v, h1, f v d F H (XE.refl e.gd) h2 q⟩
theorem wb_own (h : ρ[i]? = some (some (.own l))) (q : k (.lst l)) : WB M (tVar i) ρ k := fun σ F H Q e f => by
  obtain ⟨v, h1, p, vs, rfl, h2, h3, h4, h5⟩ := e.each i _ h
  exact ⟨_, h1, f _ _ F H (XE.refl e.gd) (.inr (.inl ⟨p, vs, l, rfl, rfl, h2, h5⟩)) q⟩
theorem wb_ownK {ks : List Key} (h : ρ[i]? = some (some (.ownK ks l))) (q : k (.dic ks l)) : WB M (tVar i) ρ k := fun σ F H Q e f => by
  obtain ⟨v, h1, p, vs, rfl, h2, h6, h3, h4, h5⟩ := e.each i _ h
  exact ⟨_, h1, f _ _ F H (XE.refl e.gd) (.inr (.inr (.inl ⟨p, ks, vs, l, rfl, rfl, h2, h6, h5⟩))) q⟩
theorem wb_ownT {ks : List (List Key)} (h : ρ[i]? = some (some (.ownT ks l))) (q : k (.dit ks l)) : WB M (tVar i) ρ k := fun σ F H Q e f => by
  obtain ⟨v, h1, p, vs, rfl, h2, h6, h3, h4, h5⟩ := e.each i _ h
  exact ⟨_, h1, f _ _ F H (XE.refl e.gd) (.inr (.inr (.inr ⟨p, ks, vs, l, rfl, rfl, h2, h6, h5⟩))) q⟩
theorem we_int {n : Int} (q : k (.int n)) : WE M (tC (.int n)) ρ k := fun σ F H Q e f => f _ _ F H (XE.refl e.gd) (.int n) q
theorem we_str {n : Str} (q : k (.str n)) : WE M (tC (.str n)) ρ k := fun σ F H Q e f => f _ _ F H (XE.refl e.gd) (.str n) q
theorem we_bl {n : Bool} (q : k (.bl n)) : WE M (tC (.bl n)) ρ k := fun σ F H Q e f => f _ _ F H (XE.refl e.gd) (.bl n) q
theorem we_non (q : k .non) : WE M (tC .non) ρ k := fun σ F H Q e f => f _ _ F H (XE.refl e.gd) .non q
theorem WE.mono {k' : D → Prop} (h : WE M te ρ k) (f : ∀ d, k d → k' d) : WE M te ρ k' := fun σ F H Q e q => h σ F H Q e fun v d F' H' x r kd => q v d F' H' x r (f d kd)
theorem WB.mono {k' : D → Prop} (h : WB M te ρ k) (f : ∀ d, k d → k' d) : WB M te ρ k' := fun σ F H Q e q => h σ F H Q e fun v d F' H' x r kd => q v d F' H' x r (f d kd)
/-- a binary operator by data -/
def OP (M : Cm) (r : R2) (d e : D) (k : D → Prop) : Prop := ∀ F H x y Q, Gd M.K M.st F H → RB M F H x d → RB M F H y e → (∀ v d F' H', XM M F H F' H' → RV M F' v d → k d → Q v H') → r x y H Q
theorem we_op {r : R2} (h : WB M ta ρ fun d => WB M tb ρ fun e => OP M r d e k) : WE M (tOp r ta tb) ρ k := fun σ F H Q e f =>
  h σ F H _ e fun x d F1 H1 x1 r1 h1 => h1 σ F1 H1 _ (e.step x1) fun y d2 F2 H2 x2 r2 h2 => h2 F2 H2 x y Q x2.gd (r1.step x2) r2 fun v d3 F3 H3 x3 => f v d3 F3 H3 ((x1.trans x2).trans x3)
/-- .. that makes a new list -/
def OPO (M : Cm) (r : R2) (d e : D) (k : List D → Prop) : Prop := ∀ F H x y Q, Gd M.K M.st F H → RB M F H x d → RB M F H y e → (∀ p vs l F' H', XM M F H F' H' → Dl M.st H' p = some (.lst vs) → F' p = none → Dl M.st H p = none → RL M F' vs l → k l → Q (.ref p) H') → r x y H Q
theorem wo_op {r : R2} (h : WB M ta ρ fun d => WB M tb ρ fun e => OPO M r d e ka) : WO M (tOp r ta tb) ρ ka := fun σ F H Q e f =>
  h σ F H _ e fun x d F1 H1 x1 r1 h1 => h1 σ F1 H1 _ (e.step x1) fun y d2 F2 H2 x2 r2 h2 => h2 F2 H2 x y Q x2.gd (r1.step x2) r2 fun p vs l F3 H3 x3 a b c => f p vs l F3 H3 ((x1.trans x2).trans x3) a b ((x1.trans x2).ext.hh.free c)
section
variable {m n : Int} {f : Int → Int → V} {r : R2} {e : D}
theorem op_I0i {g : Int → Int → Int} (q : k (.int (g m n))) : OP M (rI0 fun i j => .int (g i j)) (.int m) (.int n) k := fun F H x y Q g0 rx ry f => by
  cases rx.int
  cases ry.int
  exact ⟨m, n, rfl, rfl, f _ _ F H (XE.refl g0) (.int _) q⟩
theorem op_I0b {g : Int → Int → Bool} (q : k (.bl (g m n))) : OP M (rI0 fun i j => .bl (g i j)) (.int m) (.int n) k := fun F H x y Q g0 rx ry f => by
  cases rx.int
  cases ry.int
  exact ⟨m, n, rfl, rfl, f _ _ F H (XE.refl g0) (.bl _) q⟩
theorem op_Ii {cc : Int → Int → Prop} {g : Int → Int → Int} (c : cc m n) (q : k (.int (g m n))) : OP M (rI cc fun i j => .int (g i j)) (.int m) (.int n) k := fun F H x y Q g0 rx ry f => by
  cases rx.int
  cases ry.int
  exact ⟨m, n, rfl, rfl, c, f _ _ F H (XE.refl g0) (.int _) q⟩
theorem op_or1 {r s : R2} {d : D} (h : OP M r d e k) : OP M (fun x y H Q => r x y H Q ∨ s x y H Q) d e k := fun F H x y Q g rx ry f => .inl (h F H x y Q g rx ry f)
theorem op_addII (q : k (.int (m + n))) : OP M (rAddU M.K) (.int m) (.int n) k := op_or1 (op_I0i (g := fun i j => i + j) q)
theorem op_eqII (q : k (.bl (decide (m = n)))) : OP M (rEqU M.K) (.int m) (.int n) k := fun F H x y Q g0 rx ry f => by
  cases rx.int
  cases ry.int
  exact s_eqI (f _ _ F H (XE.refl g0) (.bl _) q)
theorem op_neII (q : k (.bl (!decide (m = n)))) : OP M (rNeU M.K) (.int m) (.int n) k := fun F H x y Q g0 rx ry f => by
  cases rx.int
  cases ry.int
  exact s_neI (f _ _ F H (XE.refl g0) (.bl _) q)
theorem op_eqBB {a b : Bool} (q : k (.bl (decide (a = b)))) : OP M (rEqU M.K) (.bl a) (.bl b) k := fun F H x y Q g0 rx ry f => by
  cases rx.bl
  cases ry.bl
  exact s_eqB (f _ _ F H (XE.refl g0) (.bl _) q)
theorem op_neBB {a b : Bool} (q : k (.bl (!decide (a = b)))) : OP M (rNeU M.K) (.bl a) (.bl b) k := fun F H x y Q g0 rx ry f => by
  cases rx.bl
  cases ry.bl
  exact s_neB (f _ _ F H (XE.refl g0) (.bl _) q)
theorem op_eqSS {a b : Str} (q : k (.bl (decide (a = b)))) : OP M (rEqU M.K) (.str a) (.str b) k := fun F H x y Q g0 rx ry f => by
  cases rx.str
  cases ry.str
  exact s_eq rfl (by rw [show decide (V.str a = V.str b) = decide (a = b) from by simp]; exact f _ _ F H (XE.refl g0) (.bl _) q)
theorem op_neSS {a b : Str} (q : k (.bl (!decide (a = b)))) : OP M (rNeU M.K) (.str a) (.str b) k := fun F H x y Q g0 rx ry f => by
  cases rx.str
  cases ry.str
  exact s_ne rfl (by rw [show decide (V.str a = V.str b) = decide (a = b) from by simp]; exact f _ _ F H (XE.refl g0) (.bl _) q)
theorem op_eqDD {d e : D} (h1 : Pl 20 d) (h2 : Pl 20 e) (q : k (.bl (eqD d e))) : OP M (rEqU M.K) d e k := fun F H x y Q g0 rx ry f =>
  s_eqD (rx.dp g0 h1) (ry.dp g0 h2) (sh_shaped h1.sh) (sh_shaped h2.sh) (f _ _ F H (XE.refl g0) (.bl _) q)
theorem op_neDD {d e : D} (h1 : Pl 20 d) (h2 : Pl 20 e) (q : k (.bl (!eqD d e))) : OP M (rNeU M.K) d e k := fun F H x y Q g0 rx ry f =>
  s_neD (rx.dp g0 h1) (ry.dp g0 h2) (sh_shaped h1.sh) (sh_shaped h2.sh) (f _ _ F H (XE.refl g0) (.bl _) q)
/-- is None, is not None -/
def D.isN : D → Bool
  | .non => true
  | _ => false
theorem rb_isN {F H : Hp} {x : V} {d : D} (h : RB M F H x d) : decide (x = V.non) = d.isN := by
  rcases h with h | ⟨p, vs, l', rfl, e, h1, h2⟩ | ⟨p, ks, vs, l', rfl, e, h1, h3, h2⟩ | ⟨p, ks, vs, l', rfl, e, h1, h3, h2⟩
  · cases h <;> rfl
  · subst e; rfl
  · subst e; rfl
  · subst e; rfl
theorem op_isNn {d : D} (q : k (.bl d.isN)) : OP M (fun x y H Q => y = V.non ∧ Q (.bl (decide (x = .non))) H) d .non k := fun F H x y Q g0 rx ry f => by
  cases ry.non
  rw [rb_isN rx]
  exact ⟨rfl, f _ _ F H (XE.refl g0) (.bl _) q⟩
theorem op_notNn {d : D} (q : k (.bl (!d.isN))) : OP M (fun x y H Q => y = V.non ∧ Q (.bl (!decide (x = .non))) H) d .non k := fun F H x y Q g0 rx ry f => by
  cases ry.non
  rw [rb_isN rx]
  exact ⟨rfl, f _ _ F H (XE.refl g0) (.bl _) q⟩
/-! items -/
theorem atI_RA {F : Hp} {vs : List V} {l : List D} {i : Int} {d : D} (h : RL M F vs l) (e : atI l i = some d) : ∃ v, atI vs i = some v ∧ RV M F v d := by
  unfold atI at e ⊢
  rw [h.len]
  cases q : ixN l.length i with
  | none => rw [q] at e; cases e
  | some j =>
    rw [q] at e
    exact h.get e
theorem op_ixT {l : List D} {d : D} (h : atI l m = some d) (q : k d) : OP M (rIx M.K) (.tup l) (.int m) k := fun F H x y Q g0 rx ry f => by
  cases ry.int
  obtain ⟨p, vs, rfl, h1, h2⟩ := rx.tup
  obtain ⟨v, h3, h4⟩ := atI_RA h2 h
  exact s_ixT (sqT_mono g0.sub h1) h3 (f _ _ F H (XE.refl g0) h4 q)
theorem op_ixL {l : List D} {d : D} (h : atI l m = some d) (q : k d) : OP M (rIx M.K) (.lst l) (.int m) k := fun F H x y Q g0 rx ry f => by
  cases ry.int
  obtain ⟨p, vs, rfl, h1, h2⟩ := rx.lst g0
  obtain ⟨v, h3, h4⟩ := atI_RA h2 h
  exact s_ixL h1 h3 (f _ _ F H (XE.refl g0) h4 q)
end
/-! one argument -/
def OU (M : Cm) (r : V → Hp → VK → Prop) (d : D) (k : D → Prop) : Prop := ∀ F H x Q, Gd M.K M.st F H → RB M F H x d → (∀ v d F' H', XM M F H F' H' → RV M F' v d → k d → Q v H') → r x H Q
theorem we_un {r : V → Hp → VK → Prop} (h : WB M ta ρ fun d => OU M r d k) : WE M (tUn r ta) ρ k := fun σ F H Q e f =>
  h σ F H _ e fun x d F1 H1 x1 r1 h1 => h1 F1 H1 x Q x1.gd r1 fun v d3 F3 H3 x3 => f v d3 F3 H3 (x1.trans x3)
theorem ou_neg {m : Int} (q : k (.int (-m))) : OU M (rU fun i => .int (-i)) (.int m) k := fun F H x Q g0 rx f => by
  cases rx.int
  exact ⟨m, rfl, f _ _ F H (XE.refl g0) (.int _) q⟩
/-! tests and truths -/
theorem wt_test (h : WB M te ρ fun d => ∃ b, d = .bl b ∧ kb b) : WT M (tTest te) ρ kb := fun σ F H Q e f =>
  h σ F H _ e fun x d F1 H1 x1 r1 ⟨b, h1, h2⟩ => by
    subst h1
    cases r1.bl
    exact ⟨b, rfl, f b F1 H1 x1 h2⟩
theorem wt_B (h : WB M te ρ fun d => ∃ b, d = .bl b ∧ kb b) : WT M (tB te) ρ kb := fun σ F H Q e f =>
  h σ F H _ e fun x d F1 H1 x1 r1 ⟨b, h1, h2⟩ => by
    subst h1
    cases r1.bl
    exact ⟨b, rfl, f b F1 H1 x1 h2⟩
theorem wt_not (h : WT M t ρ fun c => kb (!c)) : WT M (tNot t) ρ kb := fun σ F H Q e f => h σ F H _ e fun b F1 H1 x1 h1 => f _ F1 H1 x1 h1
theorem wt_and (h : WT M t ρ fun c => if c = true then WT M u ρ kb else kb false) : WT M (tAnd t u) ρ kb := fun σ F H Q e f => h σ F H _ e fun b F1 H1 x1 h1 => by
  cases b with
  | true => exact iteT ((show WT M u ρ kb from h1) σ F1 H1 _ (e.step x1) fun c F2 H2 x2 => f c F2 H2 (x1.trans x2))
  | false => exact iteF (f _ F1 H1 x1 h1)
theorem wt_or (h : WT M t ρ fun c => if c = true then kb true else WT M u ρ kb) : WT M (tOr t u) ρ kb := fun σ F H Q e f => h σ F H _ e fun b F1 H1 x1 h1 => by
  cases b with
  | true => exact iteT (f _ F1 H1 x1 h1)
  | false => exact iteF ((show WT M u ρ kb from h1) σ F1 H1 _ (e.step x1) fun c F2 H2 x2 => f c F2 H2 (x1.trans x2))
theorem wt_yes (q : kb true) : WT M tYes ρ kb := fun σ F H Q e f => f true F H (XE.refl e.gd) q
theorem we_notV (h : WB M ta ρ fun d => ∃ b, d = .bl b ∧ k (.bl (!b))) : WE M (tNotV ta) ρ k := fun σ F H Q e f =>
  h σ F H _ e fun x d F1 H1 x1 r1 ⟨b, h1, h2⟩ => by
    subst h1
    cases r1.bl
    exact ⟨b, rfl, f _ _ F1 H1 x1 (.bl _) h2⟩
theorem we_andV (h : WB M ta ρ fun d => ∃ b, d = .bl b ∧ if b = true then WE M tb ρ k else k (.bl false)) : WE M (tAndV ta tb) ρ k := fun σ F H Q e f =>
  h σ F H _ e fun x d F1 H1 x1 r1 ⟨b, h1, h2⟩ => by
    subst h1
    cases r1.bl
    refine ⟨b, rfl, ?_⟩
    cases b with
    | true => exact iteT ((show WE M tb ρ k from h2) σ F1 H1 _ (e.step x1) fun v c F2 H2 x2 => f v c F2 H2 (x1.trans x2))
    | false => exact iteF (f _ _ F1 H1 x1 (.bl _) h2)
theorem we_orV (h : WB M ta ρ fun d => ∃ b, d = .bl b ∧ if b = true then k (.bl true) else WE M tb ρ k) : WE M (tOrV ta tb) ρ k := fun σ F H Q e f =>
  h σ F H _ e fun x d F1 H1 x1 r1 ⟨b, h1, h2⟩ => by
    subst h1
    cases r1.bl
    refine ⟨b, rfl, ?_⟩
    cases b with
    | true => exact iteT (f _ _ F1 H1 x1 (.bl _) h2)
    | false => exact iteF ((show WE M tb ρ k from h2) σ F1 H1 _ (e.step x1) fun v c F2 H2 x2 => f v c F2 H2 (x1.trans x2))
theorem we_if (h : WT M t ρ fun c => if c = true then WE M ta ρ k else WE M tb ρ k) : WE M (tIf t ta tb) ρ k := fun σ F H Q e f => h σ F H _ e fun b F1 H1 x1 h1 => by
  cases b with
  | true => exact iteT ((show WE M ta ρ k from h1) σ F1 H1 _ (e.step x1) fun v c F2 H2 x2 => f v c F2 H2 (x1.trans x2))
  | false => exact iteF ((show WE M tb ρ k from h1) σ F1 H1 _ (e.step x1) fun v c F2 H2 x2 => f v c F2 H2 (x1.trans x2))
theorem we_chain {r r' : R2} (h : WB M ta ρ fun d => WB M tb ρ fun e => OP M r d e fun z => ∃ b, z = .bl b ∧ if b = true then WB M tc ρ fun w => OP M r' e w k else k (.bl false)) : WE M (tChain r r' ta tb tc) ρ k := fun σ F H Q e f =>
  h σ F H _ e fun x d F1 H1 x1 r1 h1 => h1 σ F1 H1 _ (e.step x1) fun y d2 F2 H2 x2 r2 h2 => h2 F2 H2 x y _ x2.gd (r1.step x2) r2 fun v d3 F3 H3 x3 r3 ⟨b, e3, h3⟩ => by
    subst e3
    cases r3
    refine ⟨b, rfl, ?_⟩
    have x03 := (x1.trans x2).trans x3
    cases b with
    | true => exact iteT ((show WB M tc ρ fun w => OP M r' d2 w k from h3) σ F3 H3 _ (e.step x03) fun w d4 F4 H4 x4 r4 h4 => h4 F4 H4 y w Q x4.gd (r2.step (x3.trans x4)) r4 fun v d5 F5 H5 x5 => f v d5 F5 H5 ((x03.trans x4).trans x5))
    | false => exact iteF (f _ _ F3 H3 x03 (.bl _) h3)
/-! arguments -/
theorem wa_nil (q : ka []) : WA M tNil ρ ka := fun σ F H Q e f => f [] [] F H (XE.refl e.gd) .nil q
theorem wa_cons (h : WE M ta ρ fun d => WA M tr ρ fun ds => ka (d :: ds)) : WA M (tCons ta tr) ρ ka := fun σ F H Q e f =>
  h σ F H _ e fun x d F1 H1 x1 r1 h1 => h1 σ F1 H1 _ (e.step x1) fun vs ds F2 H2 x2 r2 => f _ _ F2 H2 (x1.trans x2) (.cons (r1.mono x2.ff) r2)
theorem wab_nil (q : ka []) : WAB M tNil ρ ka := fun σ F H Q e f => f [] [] F H (XE.refl e.gd) .nil q
theorem wab_cons (h : WB M ta ρ fun d => WAB M tr ρ fun ds => ka (d :: ds)) : WAB M (tCons ta tr) ρ ka := fun σ F H Q e f =>
  h σ F H _ e fun x d F1 H1 x1 r1 h1 => h1 σ F1 H1 _ (e.step x1) fun vs ds F2 H2 x2 r2 => f _ _ F2 H2 (x1.trans x2) (.cons (r1.step x2) r2)
theorem we_tup (h : WA M tr ρ fun ds => ds.length ≤ 1000 ∧ k (.tup ds)) : WE M (tTup tr) ρ k := fun σ F H Q e f =>
  h σ F H _ e fun vs ds F1 H1 x1 r1 ⟨h1, h2⟩ => ⟨Nat.le_trans (by rw [r1.len]; exact h1) (by decide), fun p np => f _ _ _ _ (x1.new np) (.tup (.inl (.inl upd_same)) (r1.mono (same_upd (sub_none x1.gd.sub np)))) h2⟩
theorem wo_lst (h : WA M tr ρ fun ds => ds.length ≤ 1000 ∧ ka ds) : WO M (tLst tr) ρ ka := fun σ F H Q e f =>
  h σ F H _ e fun vs ds F1 H1 x1 r1 ⟨h1, h2⟩ => ⟨Nat.le_trans (by rw [r1.len]; exact h1) (by decide), fun p np => f p vs ds F1 _ (x1.mut np) (Dl_at (x1.ok.ne np)) (sub_none x1.gd.sub np) (x1.ext.hh.free (Dl_none np)) r1 h2⟩
/-! calls of built-ins -/
def CR (M : Cm) (r : List V → Hp → VK → Prop) (ds : List D) (k : D → Prop) : Prop := ∀ F H vs Q, Gd M.K M.st F H → RBs M F H vs ds → (∀ v d F' H', XM M F H F' H' → RV M F' v d → k d → Q v H') → r vs H Q
def CRO (M : Cm) (r : List V → Hp → VK → Prop) (ds : List D) (k : List D → Prop) : Prop := ∀ F H vs Q, Gd M.K M.st F H → RBs M F H vs ds → (∀ p vs l F' H', XM M F H F' H' → Dl M.st H' p = some (.lst vs) → F' p = none → Dl M.st H p = none → RL M F' vs l → k l → Q (.ref p) H') → r vs H Q
theorem we_cb {r : List V → Hp → VK → Prop} (h : WAB M tr ρ fun ds => CR M r ds k) : WE M (tCB r tr) ρ k := fun σ F H Q e f =>
  h σ F H _ e fun vs ds F1 H1 x1 r1 h1 => h1 F1 H1 vs Q x1.gd r1 fun v d3 F3 H3 x3 => f v d3 F3 H3 (x1.trans x3)
theorem wo_cb {r : List V → Hp → VK → Prop} (h : WAB M tr ρ fun ds => CRO M r ds ka) : WO M (tCB r tr) ρ ka := fun σ F H Q e f =>
  h σ F H _ e fun vs ds F1 H1 x1 r1 h1 => h1 F1 H1 vs Q x1.gd r1 fun p vs l F3 H3 x3 a b c => f p vs l F3 H3 (x1.trans x3) a b (x1.ext.hh.free c)
theorem CRO.cr {r : List V → Hp → VK → Prop} {ds : List D} (h : CRO M r ds fun l => k (.lst l)) : CR M r ds k := fun F H vs Q g rr f => h F H vs Q g rr fun p vs l F' H' x h1 h2 h3 h4 => f _ _ (upd F' p (.lst vs)) H' (x.frz h3 h2 h1) (.lst (.inl (.inl upd_same)) (h4.mono (same_upd h2)))
theorem OPO.op {r : R2} {d e : D} (h : OPO M r d e fun l => k (.lst l)) : OP M r d e k := fun F H x y Q g r1 r2 f => h F H x y Q g r1 r2 fun p vs l F' H' x h1 h2 h3 h4 => f _ _ (upd F' p (.lst vs)) H' (x.frz h3 h2 h1) (.lst (.inl (.inl upd_same)) (h4.mono (same_upd h2)))
theorem rbs1 {F H : Hp} {vs : List V} {d : D} (h : RBs M F H vs [d]) : ∃ v, vs = [v] ∧ RB M F H v d := by
  cases h with
  | cons a b => cases b; exact ⟨_, rfl, a⟩
theorem cr_lenL (q : k (.int l.length)) : CR M (rLen M.K) [.lst l] k := fun F H vs Q g rr f => by
  obtain ⟨v, rfl, r⟩ := rbs1 rr
  obtain ⟨p, us, rfl, h1, h2⟩ := r.lst g
  refine s_lenL h1 ?_
  rw [h2.len]
  exact f _ _ F H (XE.refl g) (.int _) q
theorem cr_lenT (q : k (.int l.length)) : CR M (rLen M.K) [.tup l] k := fun F H vs Q g rr f => by
  obtain ⟨v, rfl, r⟩ := rbs1 rr
  obtain ⟨p, us, rfl, h1, h2⟩ := r.tup
  refine s_lenT (sqT_mono g.sub h1) ?_
  rw [h2.len]
  exact f _ _ F H (XE.refl g) (.int _) q
theorem cr_lenS {ns : List Int} (q : k (.int ns.length)) : CR M (rLen M.K) [.stn ns] k := fun F H vs Q g rr f => by
  obtain ⟨v, rfl, r⟩ := rbs1 rr
  obtain ⟨p, rfl, h1⟩ := r.stn
  refine s_lenT (sqT_mono g.sub (.inl (.inl h1))) ?_
  rw [List.length_map]
  exact f _ _ F H (XE.refl g) (.int _) q
theorem cr_lenX {ns : List Int} (q : k (.int ns.length)) : CR M (rLen M.K) [.ixt ns] k := fun F H vs Q g rr f => by
  obtain ⟨v, rfl, r⟩ := rbs1 rr
  obtain ⟨p, ob, rfl, h1, _⟩ := r.ixt
  refine s_lenT (sqT_mono g.sub (.inl (.inr ⟨_, h1⟩))) ?_
  rw [List.length_map]
  exact f _ _ F H (XE.refl g) (.int _) q
theorem cr_sumS {ns : List Int} (q : k (.int ns.sum)) : CR M (rSumU M.K) [.stn ns] k := fun F H vs Q g rr f => by
  obtain ⟨v, rfl, r⟩ := rbs1 rr
  obtain ⟨p, rfl, h1⟩ := r.stn
  exact s_sumT (sqT_mono g.sub (.inl (.inl h1))) (f _ _ F H (XE.refl g) (.int _) q)
theorem cr_sumLi {ns : List Int} (q : k (.int ns.sum)) : CR M (rSumU M.K) [.lst (ns.map D.int)] k := fun F H vs Q g rr f => by
  obtain ⟨v, rfl, r⟩ := rbs1 rr
  obtain ⟨p, us, rfl, h1, h2⟩ := r.lst g
  rw [h2.ints] at h1
  exact s_sumL h1 (f _ _ F H (XE.refl g) (.int _) q)
theorem cr_sumTi {ns : List Int} (q : k (.int ns.sum)) : CR M (rSumU M.K) [.tup (ns.map D.int)] k := fun F H vs Q g rr f => by
  obtain ⟨v, rfl, r⟩ := rbs1 rr
  obtain ⟨p, us, rfl, h1, h2⟩ := r.tup
  rw [h2.ints] at h1
  exact s_sumT (sqT_mono g.sub h1) (f _ _ F H (XE.refl g) (.int _) q)
theorem cr_allB {bs : List Bool} (q : k (.bl (bs.all id))) : CR M (rAll M.K) [.lst (bs.map D.bl)] k := fun F H vs Q g rr f => by
  obtain ⟨v, rfl, r⟩ := rbs1 rr
  obtain ⟨p, us, rfl, h1, h2⟩ := r.lst g
  rw [h2.bools] at h1
  exact s_all h1 (f _ _ F H (XE.refl g) (.bl _) q)
theorem cr_anyB {bs : List Bool} (q : k (.bl (bs.any id))) : CR M (rAny M.K) [.lst (bs.map D.bl)] k := fun F H vs Q g rr f => by
  obtain ⟨v, rfl, r⟩ := rbs1 rr
  obtain ⟨p, us, rfl, h1, h2⟩ := r.lst g
  rw [h2.bools] at h1
  exact s_any h1 (f _ _ F H (XE.refl g) (.bl _) q)
theorem cr_absI {m : Int} (q : k (.int (if m < 0 then -m else m))) : CR M (fun xs H Q => ∃ i, xs = [V.int i] ∧ Q (V.int (if i < 0 then -i else i)) H) [.int m] k := fun F H vs Q g rr f => by
  obtain ⟨v, rfl, r⟩ := rbs1 rr
  cases r.int
  exact ⟨m, rfl, f _ _ F H (XE.refl g) (.int _) q⟩
theorem cr_int_i {m : Int} (q : k (.int m)) : CR M (fun xs H Q => (∃ i, xs = [V.int i] ∧ Q (.int i) H) ∨ ∃ k, xs = [V.bl k] ∧ Q (.int (if k then 1 else 0)) H) [.int m] k := fun F H vs Q g rr f => by
  obtain ⟨v, rfl, r⟩ := rbs1 rr
  cases r.int
  exact .inl ⟨m, rfl, f _ _ F H (XE.refl g) (.int _) q⟩
theorem cr_int_b {m : Bool} (q : k (.int (if m then 1 else 0))) : CR M (fun xs H Q => (∃ i, xs = [V.int i] ∧ Q (.int i) H) ∨ ∃ k, xs = [V.bl k] ∧ Q (.int (if k then 1 else 0)) H) [.bl m] k := fun F H vs Q g rr f => by
  obtain ⟨v, rfl, r⟩ := rbs1 rr
  cases r.bl
  exact .inr ⟨m, rfl, f _ _ F H (XE.refl g) (.int _) q⟩
theorem cro_new {F H : Hp} {Q : VK} {vs : List V} {l : List D} {p : Addr} (g : Gd M.K M.st F H) (h2 : RL M F vs l) (np : H p = none) (q : ka l) (f : ∀ p vs l F' H', XM M F H F' H' → Dl M.st H' p = some (.lst vs) → F' p = none → Dl M.st H p = none → RL M F' vs l → ka l → Q (.ref p) H') : Q (.ref p) (upd H p (.lst vs)) :=
  f p vs l F _ ((XE.refl g).mut np) (Dl_at (g.ok.ne np)) (sub_none g.sub np) (Dl_none np) h2 q
theorem cr_listL (q : ka l) : CRO M (rListOf M.K) [.lst l] ka := fun F H vs Q g rr f => by
  obtain ⟨v, rfl, r⟩ := rbs1 rr
  obtain ⟨p, us, rfl, h1, h2⟩ := r.lst g
  exact s_listL h1 fun p np => cro_new g h2 np q f
theorem cr_listT (q : ka l) : CRO M (rListOf M.K) [.tup l] ka := fun F H vs Q g rr f => by
  obtain ⟨v, rfl, r⟩ := rbs1 rr
  obtain ⟨p, us, rfl, h1, h2⟩ := r.tup
  exact s_listT (sqT_mono g.sub h1) fun p np => cro_new g h2 np q f
theorem cr_listS {ns : List Int} (q : ka (ns.map D.int)) : CRO M (rListOf M.K) [.stn ns] ka := fun F H vs Q g rr f => by
  obtain ⟨v, rfl, r⟩ := rbs1 rr
  obtain ⟨p, rfl, h1⟩ := r.stn
  exact s_listT (sqT_mono g.sub (.inl (.inl h1))) fun p np => cro_new g (RA.ofInts ns) np q f
theorem cr_tupLi {ns : List Int} (q : k (.stn ns)) : CR M (rTupleOf M.K) [.lst (ns.map D.int)] k := fun F H vs Q g rr f => by
  obtain ⟨v, rfl, r⟩ := rbs1 rr
  obtain ⟨p, us, rfl, h1, h2⟩ := r.lst g
  rw [h2.ints] at h1
  exact s_tupleL h1 fun p np => f _ _ _ _ ((XE.refl g).new np) (.stn upd_same) q
theorem cr_tupS {ns : List Int} (q : k (.stn ns)) : CR M (rTupleOf M.K) [.stn ns] k := fun F H vs Q g rr f => by
  obtain ⟨v, rfl, r⟩ := rbs1 rr
  obtain ⟨p, rfl, h1⟩ := r.stn
  exact ⟨p, _, rfl, .inr ⟨sqT_mono g.sub (.inl (.inl h1)), f _ _ F H (XE.refl g) (.stn h1) q⟩⟩
theorem cr_tupL (q : k (.tup l)) : CR M (rTupleOf M.K) [.lst l] k := fun F H vs Q g rr f => by
  obtain ⟨v, rfl, r⟩ := rbs1 rr
  obtain ⟨p, us, rfl, h1, h2⟩ := r.lst g
  exact s_tupleL h1 fun p np => f _ _ _ _ ((XE.refl g).new np) (.tup (.inl (.inl upd_same)) (h2.mono (same_upd (sub_none g.sub np)))) q
theorem cr_tupT (q : k (.tup l)) : CR M (rTupleOf M.K) [.tup l] k := fun F H vs Q g rr f => by
  obtain ⟨v, rfl, r⟩ := rbs1 rr
  obtain ⟨p, us, rfl, h1, h2⟩ := r.tup
  exact ⟨p, us, rfl, .inr ⟨sqT_mono g.sub h1, f _ _ F H (XE.refl g) (.tup h1 h2) q⟩⟩
/-! slices -/
def WP (M : Cm) (t : TO) (ρ : Rho) (k : Option Int → Prop) : Prop := ∀ σ F H (Q : Option Int → Hp → Prop), Fr M ρ σ F H → (∀ o F' H', XM M F H F' H' → k o → Q o H') → t σ H Q
theorem wp_no {ko : Option Int → Prop} (q : ko none) : WP M tNoPart ρ ko := fun σ F H Q e f => f none F H (XE.refl e.gd) q
theorem wp_some {ko : Option Int → Prop} (h : WB M te ρ fun d => ∃ i, d = .int i ∧ ko (some i)) : WP M (tPart te) ρ ko := fun σ F H Q e f => h σ F H _ e fun x d F1 H1 x1 r1 ⟨j, h1, h2⟩ => by
  subst h1
  cases r1.int
  exact ⟨j, rfl, f _ F1 H1 x1 h2⟩
def cutD (l : List D) (lo hi : Option Int) : List D := (l.drop (HT.sIx l.length 0 lo)).take (HT.sIx l.length l.length hi - HT.sIx l.length 0 lo)
theorem RA.cut {F : Hp} {vs : List V} {lo hi : Option Int} (h : RL M F vs l) : RL M F (cutV vs lo hi) (cutD l lo hi) := by
  unfold cutV cutD
  rw [h.len]
  exact (h.drop _).take _
def wholeSl (n : Nat) (lo hi : Option Int) : Prop := HT.sIx n 0 lo = 0 ∧ HT.sIx n n hi = n
theorem wo_slL {tl th : TO} (h : WB M te ρ fun d => ∃ l, d = .lst l ∧ WP M tl ρ fun lo => WP M th ρ fun hi => ka (cutD l lo hi)) : WO M (tSl (rSlU M.K) te tl th) ρ ka := fun σ F H Q e f =>
  h σ F H _ e fun x d F1 H1 x1 r1 ⟨l, e1, h1⟩ => h1 σ F1 H1 _ (e.step x1) fun lo F2 H2 x2 h2 => h2 σ F2 H2 _ (e.step (x1.trans x2)) fun hi F3 H3 x3 h3 => by
    subst e1
    have x03 := (x1.trans x2).trans x3
    obtain ⟨p, us, rfl, h4, h5⟩ := (r1.step (x2.trans x3)).lst x03.gd
    exact .inl ⟨p, us, rfl, h4, fun p np => cro_new (ka := ka) x03.gd h5.cut np h3 fun p vs l F4 H4 x4 a b c => f p vs l F4 H4 (x03.trans x4) a b (x03.ext.hh.free c)⟩
def cutI (l : List Int) (lo hi : Option Int) : List Int := (l.drop (HT.sIx l.length 0 lo)).take (HT.sIx l.length l.length hi - HT.sIx l.length 0 lo)
end
end G

namespace G
open PySem PySem.Spec PyProof.Rows L2
/-! ### tuples cut and put together -/
theorem k_catA {X : Cx} {K : PySem.W.Frag} (h : X.K = K) : OpR X (binaryOp .Add) (rCatA K) := by
  subst h
  exact op_catA
abbrev rAddA (K : PySem.W.Frag) : R2 := fun x y H Q => rAddU K x y H Q ∨ rCatA K x y H Q
theorem k_addA {X : Cx} {K : PySem.W.Frag} (h : X.K = K) : OpR X (binaryOp .Add) (rAddA K) := op_or (k_add h) (k_catA h)
/-! ### xs.extend(ys), ys any list -/
section
open AutoSeq1 (wpAny_loadPart')
end
def rExtendS (K : PySem.W.Frag) : V → List V → Hp → VK → Prop := fun x vs H Q => ∃ l b xs zs, x = .ref l ∧ vs = [.ref b] ∧ H l = some (.lst xs) ∧ SqL K H b zs ∧ xs.length + zs.length ≤ 100000 ∧ Q .non (upd H l (.lst (xs ++ zs)))
end G

namespace G
open PySem PySem.Spec PyProof.Rows L2
section
variable {M : Cm} {ρ : Rho} {k : D → Prop} {kb : Bool → Prop} {ka : List D → Prop} {kr nx bk ct : Rho → Prop} {rt : Sl → Rho → Prop} {ta tb te : TE} {t : TT} {ts us : TS} {tr : TA} {i : Nat} {d : D} {l : List D} {S : Nat → Prop}
/-! ### statements -/
theorem ws_seq (h : WS M ts ρ (fun ρ' => WS M us ρ' nx rt bk ct) rt bk ct) : WS M (tSeq ts us) ρ nx rt bk ct := fun σ F H E e f1 f2 f3 f4 =>
  h σ F H ⟨us E, E.rt, E.bk, E.ct⟩ e (fun ρ' σ' F' H' s e' h' => h' σ' F' H' E e' (fun ρ2 σ2 F2 H2 s2 => f1 ρ2 σ2 F2 H2 (s.trans s2)) f2 (fun ρ2 σ2 F2 H2 s2 => f3 ρ2 σ2 F2 H2 (s.trans s2)) (fun ρ2 σ2 F2 H2 s2 => f4 ρ2 σ2 F2 H2 (s.trans s2))) f2 f3 f4
theorem ws_next (h : nx ρ) : WS M tNext ρ nx rt bk ct := fun σ F H E e f1 f2 f3 f4 => f1 ρ σ F H (Same.refl F) e h
theorem ws_break (h : bk ρ) : WS M tBreak ρ nx rt bk ct := fun σ F H E e f1 f2 f3 f4 => f3 ρ σ F H (Same.refl F) e h
theorem ws_cont (h : ct ρ) : WS M tCont ρ nx rt bk ct := fun σ F H E e f1 f2 f3 f4 => f4 ρ σ F H (Same.refl F) e h
theorem ws_ret (h : WE M te ρ fun d => rt (.d d) ρ) : WS M (tRet te) ρ nx rt bk ct := fun σ F H E e f1 f2 f3 f4 => h σ F H _ e fun v d F' H' x r q => f2 v (.d d) ρ σ F' H' (e.step x) r q
theorem ws_retN (h : rt (.d .non) ρ) : WS M tRetN ρ nx rt bk ct := fun σ F H E e f1 f2 f3 f4 => f2 _ (.d .non) ρ σ F H e .non h
theorem ws_if (h : WT M t ρ fun b => if b = true then WS M ts ρ nx rt bk ct else WS M us ρ nx rt bk ct) : WS M (tIfS t ts us) ρ nx rt bk ct := fun σ F H E e f1 f2 f3 f4 =>
  h σ F H _ e fun b F1 H1 x1 h1 => by
    have g1 := fun ρ2 σ2 F2 H2 s2 => f1 ρ2 σ2 F2 H2 (x1.ff.trans s2)
    have g3 := fun ρ2 σ2 F2 H2 s2 => f3 ρ2 σ2 F2 H2 (x1.ff.trans s2)
    have g4 := fun ρ2 σ2 F2 H2 s2 => f4 ρ2 σ2 F2 H2 (x1.ff.trans s2)
    cases b with
    | true => exact iteT ((show WS M ts ρ nx rt bk ct from h1) σ F1 H1 E (e.step x1) g1 f2 g3 g4)
    | false => exact iteF ((show WS M us ρ nx rt bk ct from h1) σ F1 H1 E (e.step x1) g1 f2 g3 g4)
theorem ws_drop (h : WB M te ρ fun _ => nx ρ) : WS M (tDrop te) ρ nx rt bk ct := fun σ F H E e f1 f2 f3 f4 => h σ F H _ e fun v d F' H' x r q => f1 ρ σ F' H' x.ff (e.step x) q
theorem ws_asg {g : TG} (h : WE M te ρ fun d => WG M (fun _ => True) g d ρ nx) : WS M (tAsg te g) ρ nx rt bk ct := fun σ F H E e f1 f2 f3 f4 => h σ F H _ e fun v d F1 H1 x1 r1 h1 => h1 v σ F1 H1 _ (e.step x1) r1 fun ρ' σ' F' H' x2 e2 _ _ _ q => f1 ρ' σ' F' H' (x1.trans x2).ff e2 q
/-- x = e, a new list that will change -/
theorem ws_setO (h : WO M te ρ fun l => nx (ρ.set i (some (.own l)))) : WS M (tAsg te (gName i)) ρ nx rt bk ct := fun σ F H E e f1 f2 f3 f4 => h σ F H _ e fun p vs l F1 H1 x1 h1 h2 h3 h4 q => by
  have e1 := e.step x1
  refine f1 _ _ F1 H1 x1.ff (e1.putO (i := i) (v := .ref p) (s0 := .own l) ⟨p, vs, rfl, h1, h2, e.x.ext.hh.free h3, h4⟩ fun j s hj hs m z => ?_) q
  obtain ⟨v, q1, q2⟩ := e.each j s hs
  obtain ⟨p', o, rfl, h5, _⟩ := q2.mine_at m
  rw [z] at q1
  cases q1
  rw [h3] at h5
  cases h5
theorem wg_name (s : S i) (h : kr (ρ.set i (some (.d d)))) : WG M S (gName i) d ρ kr := fun v σ F H Q e r f => f _ _ F H (XE.refl e.gd) (e.put r) (by simp) (fun j hj => List.getElem?_set_ne (fun z => by subst z; exact hj s)) (fun j s hj m => by
  rw [List.getElem?_set] at hj
  by_cases z : i = j
  · subst z
    rw [if_pos rfl] at hj
    by_cases w : i < ρ.length
    · rw [if_pos w] at hj
      cases hj
      cases m
    · rw [if_neg w] at hj
      cases hj
  · rw [if_neg z] at hj
    exact ⟨hj, List.getElem?_set_ne z⟩) h
theorem wg_tup {n : Nat} {g : TGs} (hn : l.length = n) (h : WGs M S g l ρ kr) : WG M S (gTup M.K n g) (.tup l) ρ kr := fun v σ F H Q e r f => by
  cases r with
  | tup a b => exact ⟨_, _, rfl, sqT_mono e.gd.sub a, by rw [b.len]; exact hn, h _ σ F H Q e b f⟩
theorem wg_stn {n : Nat} {g : TGs} {ns : List Int} (hn : ns.length = n) (h : WGs M S g (ns.map D.int) ρ kr) : WG M S (gTup M.K n g) (.stn ns) ρ kr := fun v σ F H Q e r f => by
  cases r with
  | stn a => exact ⟨_, _, rfl, .inl (.inl (e.gd.sub _ _ a)), by rw [List.length_map]; exact hn, h _ σ F H Q e (RA.ofInts ns) f⟩
theorem wgs_nil (h : kr ρ) : WGs M S gNil [] ρ kr := fun vs σ F H Q e r f => by
  cases r
  exact ⟨rfl, f ρ σ F H (XE.refl e.gd) e rfl (fun _ _ => rfl) (fun _ _ a _ => ⟨a, rfl⟩) h⟩
theorem wgs_cons {g : TG} {gs : TGs} (h : WG M S g d ρ fun ρ' => WGs M S gs l ρ' kr) : WGs M S (gCons g gs) (d :: l) ρ kr := fun vs σ F H Q e r f => by
  cases r with
  | cons a b => exact ⟨_, _, rfl, h _ σ F H _ e a fun ρ1 σ1 F1 H1 x1 e1 l1 s1 o1 h1 => h1 _ σ1 F1 H1 Q e1 (b.mono x1.ff) fun ρ2 σ2 F2 H2 x2 e2 l2 s2 o2 => f ρ2 σ2 F2 H2 (x1.trans x2) e2 (l2.trans l1) (fun j hj => (s2 j hj).trans (s1 j hj)) fun j s a m => ⟨(o1 j s (o2 j s a m).1 m).1, (o2 j s a m).2.trans (o1 j s (o2 j s a m).1 m).2⟩⟩
theorem wgs_nilM (h : kr ρ) : WGs M S gNil (([] : List Int).map D.int) ρ kr := wgs_nil h
theorem wgs_consM {g : TG} {gs : TGs} {a : Int} {ns : List Int} (h : WG M S g (.int a) ρ fun ρ' => WGs M S gs (ns.map D.int) ρ' kr) : WGs M S (gCons g gs) ((a :: ns).map D.int) ρ kr := wgs_cons h
/-- x op= e -/
theorem ws_aug {ti : TIp} (hx : ρ[i]? = some (some (.d d))) (h : WB M te ρ fun e => OP M ti d e fun z => nx (ρ.set i (some (.d z)))) : WS M (tAug i te ti) ρ nx rt bk ct := fun σ F H E e f1 f2 f3 f4 => by
  obtain ⟨v, h1, h2⟩ := e.each i _ hx
  refine ⟨v, h1, h σ F H _ e fun y d2 F1 H1 x1 r1 q1 => q1 F1 H1 v y _ x1.gd (.inl (R.mono x1.ff h2)) r1 fun z d3 F2 H2 x2 r2 q2 => f1 _ _ F2 H2 (x1.trans x2).ff ((e.step (x1.trans x2)).put r2) q2⟩
theorem op_ip {f : Int → Int → Int} {m n : Int} (q : k (.int (f m n))) : OP M (ipI f) (.int m) (.int n) k := fun F H x y Q g0 rx ry f => by
  cases rx.int
  cases ry.int
  exact ⟨m, n, rfl, rfl, f _ _ F H (XE.refl g0) (.int _) q⟩
/-- what is asked of a method of a list of its own: the list at p is l, behind it l' -/
def MO (M : Cm) (r : V → List V → Hp → VK → Prop) (l : List D) (ds : List D) (k : List D → D → Prop) : Prop := ∀ F H p vs us Q, Gd M.K M.st F H → Dl M.st H p = some (.lst vs) → F p = none → RL M F vs l → RL M F us ds →
  (∀ vs' l' v d, RL M F vs' l' → RV M F v d → k l' d → Q v (upd H p (.lst vs'))) → r (.ref p) us H Q
theorem ws_mt {r : V → List V → Hp → VK → Prop} (hx : ρ[i]? = some (some (.own l))) (h : WA M tr ρ fun ds => MO M r l ds fun l' _ => nx (ρ.set i (some (.own l')))) : WS M (tDrop (tBM M.K "list" r (tVar i) tr)) ρ nx rt bk ct := fun σ F H E e f1 f2 f3 f4 => by
  obtain ⟨v, h1, p, vs, rfl, h2, h3, h4, h5⟩ := e.each i _ hx
  refine ⟨_, h1, tyV_lst (Dl_sub _ _ h2), h σ F H _ e fun us ds F1 H1 x1 r1 q => ?_⟩
  have e1 := e.step x1
  have h2' := x1.ext.hh _ _ h2
  have h3' := x1.ext.fr p _ h2 rfl h3
  refine q F1 H1 p vs us _ x1.gd h2' h3' (h5.mono x1.ff) r1 fun vs' l' v d r2 r3 q => ?_
  exact f1 _ σ F1 _ x1.ff (e1.chg hx rfl h1 h2' h3' h4 (s1 := .own l') ⟨p, _, rfl, Dl_at (Dl_ne h2'), h3', h4, r2⟩) q
theorem ws_mt0 {r : V → List V → Hp → VK → Prop} (hx : ρ[i]? = some (some (.own l))) (h : MO M r l [] fun l' _ => nx (ρ.set i (some (.own l')))) : WS M (tDrop (tBM0 M.K "list" r (tVar i))) ρ nx rt bk ct := fun σ F H E e f1 f2 f3 f4 => by
  obtain ⟨v, h1, p, vs, rfl, h2, h3, h4, h5⟩ := e.each i _ hx
  refine ⟨_, h1, tyV_lst (Dl_sub _ _ h2), ?_⟩
  refine h F H p vs [] _ e.gd h2 h3 h5 .nil fun vs' l' v d r2 r3 q => ?_
  exact f1 _ σ F _ (Same.refl F) (e.chg hx rfl h1 h2 h3 h4 (s1 := .own l') ⟨p, _, rfl, Dl_at (Dl_ne h2), h3, h4, r2⟩) q
/-- y = xs.pop(), y = xs.pop(e) -/
theorem ws_mtS {r : V → List V → Hp → VK → Prop} {j : Nat} (hx : ρ[i]? = some (some (.own l))) (h : WA M tr ρ fun ds => MO M r l ds fun l' d => nx ((ρ.set i (some (.own l'))).set j (some (.d d)))) : WS M (tAsg (tBM M.K "list" r (tVar i) tr) (gName j)) ρ nx rt bk ct := fun σ F H E e f1 f2 f3 f4 => by
  obtain ⟨v, h1, p, vs, rfl, h2, h3, h4, h5⟩ := e.each i _ hx
  refine ⟨_, h1, tyV_lst (Dl_sub _ _ h2), h σ F H _ e fun us ds F1 H1 x1 r1 q => ?_⟩
  have e1 := e.step x1
  have h2' := x1.ext.hh _ _ h2
  have h3' := x1.ext.fr p _ h2 rfl h3
  refine q F1 H1 p vs us _ x1.gd h2' h3' (h5.mono x1.ff) r1 fun vs' l' v d r2 r3 q => ?_
  exact f1 _ _ F1 _ x1.ff ((e1.chg hx rfl h1 h2' h3' h4 (s1 := .own l') ⟨p, _, rfl, Dl_at (Dl_ne h2'), h3', h4, r2⟩).put r3) q
theorem ws_mt0S {r : V → List V → Hp → VK → Prop} {j : Nat} (hx : ρ[i]? = some (some (.own l))) (h : MO M r l [] fun l' d => nx ((ρ.set i (some (.own l'))).set j (some (.d d)))) : WS M (tAsg (tBM0 M.K "list" r (tVar i)) (gName j)) ρ nx rt bk ct := fun σ F H E e f1 f2 f3 f4 => by
  obtain ⟨v, h1, p, vs, rfl, h2, h3, h4, h5⟩ := e.each i _ hx
  refine ⟨_, h1, tyV_lst (Dl_sub _ _ h2), ?_⟩
  refine h F H p vs [] _ e.gd h2 h3 h5 .nil fun vs' l' v d r2 r3 q => ?_
  exact f1 _ _ F _ (Same.refl F) ((e.chg hx rfl h1 h2 h3 h4 (s1 := .own l') ⟨p, _, rfl, Dl_at (Dl_ne h2), h3, h4, r2⟩).put r3) q
/-- xs[j] = e -/
theorem ws_setItem (hx : ρ[i]? = some (some (.own l))) (h : WE M te ρ fun d => WE M tb ρ fun e => ∃ m j, e = .int m ∧ ixN l.length m = some j ∧ nx (ρ.set i (some (.own (l.set j d))))) : WS M (tAsg te (gSub (tVar i) tb rSetL)) ρ nx rt bk ct := fun σ F H E e f1 f2 f3 f4 => by
  refine h σ F H _ e fun v d F1 H1 x1 r1 h1 => ?_
  have e1 := e.step x1
  obtain ⟨v', h2, p, vs, rfl, h3, h4, h5, h6⟩ := e1.each i _ hx
  refine ⟨_, h2, h1 σ F1 H1 _ e1 fun w d2 F2 H2 x2 r2 ⟨m, j, z, hj, q⟩ => ?_⟩
  subst z
  cases r2
  have e2 := e1.step x2
  have h3' := x2.ext.hh _ _ h3
  have h4' := x2.ext.fr p _ h3 rfl h4
  have h6' := RA.mono x2.ff h6
  refine ⟨p, vs, m, j, rfl, rfl, Dl_sub _ _ h3', by rw [h6.len]; exact hj, ?_⟩
  exact f1 _ σ F2 _ (x1.trans x2).ff (e2.chg hx rfl h2 h3' h4' h5 (s1 := .own (l.set j d)) ⟨p, _, rfl, Dl_at (Dl_ne h3'), h4', h5, h6'.set j (r1.mono x2.ff)⟩) q
/-- xs[j] op= e -/
theorem ws_augItem {ti : TIp} (hx : ρ[i]? = some (some (.own l))) (h : WE M tb ρ fun e => ∃ m j d, e = .int m ∧ ixN l.length m = some j ∧ l[j]? = some d ∧ WE M te ρ fun y => OP M ti d y fun z => nx (ρ.set i (some (.own (l.set j z))))) : WS M (tAugS (tVar i) tb te (rIxL M.K) ti rSetL) ρ nx rt bk ct := fun σ F H E e f1 f2 f3 f4 => by
  obtain ⟨v', h2, p, vs, rfl, h3, h4, h5, h6⟩ := e.each i _ hx
  refine ⟨_, h2, h σ F H _ e fun w d2 F1 H1 x1 r1 ⟨m, j, d, z, hj, hd, h7⟩ => ?_⟩
  subst z
  cases r1
  have e1 := e.step x1
  have a3 := x1.ext.hh _ _ h3
  have a4 := x1.ext.fr p _ h3 rfl h4
  have a6 := RA.mono x1.ff h6
  obtain ⟨u, hu, ru⟩ := a6.get hd
  refine ⟨p, vs, m, u, rfl, rfl, .inl (.inl (Dl_sub _ _ a3)), ?_, ?_⟩
  · unfold atI
    rw [a6.len, hj]
    exact hu
  refine h7 σ F1 H1 _ e1 fun y dy F2 H2 x2 r2 q => ?_
  refine q F2 H2 u y _ x2.gd (.inl (ru.mono x2.ff)) (.inl r2) fun z dz F3 H3 x3 r3 q3 => ?_
  have x23 := x2.trans x3
  have e3 := e1.step x23
  have b3 := x23.ext.hh _ _ a3
  have b4 := x23.ext.fr p _ a3 rfl a4
  refine ⟨p, vs, m, j, rfl, rfl, Dl_sub _ _ b3, by rw [h6.len]; exact hj, ?_⟩
  exact f1 _ σ F3 _ (x1.trans x23).ff (e3.chg hx rfl h2 b3 b4 h5 (s1 := .own (l.set j dz)) ⟨p, _, rfl, Dl_at (Dl_ne b3), b4, h5, (a6.mono x23.ff).set j r3⟩) q3
/-! ### walks -/
theorem wi_seqL (h : WE M te ρ fun d => ∃ l, d = .lst l ∧ ka l) : WI M (iSeq M.K te) ρ ka := fun σ F H Q e f => h σ F H _ e fun v d F1 H1 x1 r1 ⟨l, z, q⟩ => by
  subst z
  cases r1 with
  | @lst a vs _ h1 h2 =>
    refine .inl ⟨a, rfl, ⟨vs, sqL_mono x1.gd.sub h1⟩, f _ l F1 H1 x1 ⟨_, _, by rw [← h2.len]; exact walk_list, fun F' H' s g => sqL_mono (s.trans g.sub) h1, fun i x Fa Ha Hb d s g y hd => ?_⟩ q⟩
    obtain ⟨rfl, hv⟩ := y
    obtain ⟨d', e1, e2⟩ := h2.at hv
    rw [hd] at e1
    cases e1
    exact ⟨Fa, XE.refl g, e2.mono s⟩
def rngD (n : Nat) : List D := (List.range n).map fun (i : Nat) => D.int (i : Int)
theorem rngD_len (n : Nat) : (rngD n).length = n := by simp [rngD]
theorem rngD_at {n i : Nat} {d : D} (h : (rngD n)[i]? = some d) : i < n ∧ d = .int (i : Int) := by
  unfold rngD at h
  rw [List.getElem?_map] at h
  by_cases z : i < n
  · rw [List.getElem?_range z] at h
    cases h
    exact ⟨z, rfl⟩
  · rw [List.getElem?_eq_none (by simpa using z)] at h
    cases h
theorem wi_rng1 (h : WAB M tr ρ fun ds => ∃ m : Int, ds = [.int m] ∧ -1000000 ≤ m ∧ m ≤ 1000000 ∧ ka (rngD m.toNat)) : WI M (iRng1 tr) ρ ka := fun σ F H Q e f => h σ F H _ e fun vs ds F1 H1 x1 r1 ⟨m, z, h1, h2, q⟩ => by
  subst z
  obtain ⟨v, rfl, r⟩ := rbs1 r1
  cases r.int
  refine s_rngI ⟨h1, h2⟩ (f _ (rngD m.toNat) F1 H1 x1 ⟨_, _, by rw [rngD_len]; exact walk_range, fun _ _ _ _ => trivial, fun i x Fa Ha Hb d s g y hd => ?_⟩ q)
  obtain ⟨rfl, rfl⟩ := y
  obtain ⟨_, rfl⟩ := rngD_at hd
  refine ⟨Fa, XE.refl g, ?_⟩
  simp only [Int.zero_add]
  exact .int _
def rngD2 (a b : Int) : List D := (List.range (b - a).toNat).map fun (i : Nat) => D.int (a + (i : Int))
def zipD (l m : List D) : List D := List.zipWith (fun a b => D.tup [a, b]) l m
/-- a sequence: a list or not, its items -/
@[reducible] def isSq : D → Option (Bool × List D)
  | .lst l => some (true, l)
  | .tup l => some (false, l)
  | .stn ns => some (false, ns.map D.int)
  | .ixt ns => some (false, ns.map D.int)
  | _ => none
def enumD (l : List D) : List D := l.mapIdx fun i d => D.tup [.int (i : Int), d]
/-! ### loops -/
theorem ws_for {wi : TI} {g : TG} {tb : TS} (h : WI M wi ρ fun l => ∃ I : Nat → Rho → Prop, I 0 ρ ∧ (∀ (i : Nat) d ρ', l[i]? = some d → I i ρ' → WG M (fun _ => True) g d ρ' fun ρ2 => WS M tb ρ2 (I (i + 1)) rt nx (I (i + 1))) ∧ ∀ ρ', I l.length ρ' → nx ρ') : WS M (tFor wi g tb) ρ nx rt bk ct := fun σ F H E e f1 f2 f3 f4 =>
  h σ F H _ e fun J l F1 H1 x1 ⟨G, Y, w1, w2, w3⟩ ⟨I, h0, hs, hd⟩ => by
    refine for_w w1 (nx := E.nx) (Q := E.rt) (fun i σ' H' => ∃ ρ' F', Same F1 F' ∧ Fr M ρ' σ' F' H' ∧ I i ρ') ⟨ρ, F1, Same.refl _, e.step x1, h0⟩ ?_ ?_ ?_
    · rintro i σ' H' _ ⟨ρ', F', s, e', _⟩
      exact w2 F' H' s e'.gd
    · rintro i x σ' H' H2 hi ⟨ρ', F', s, e', hI⟩ y
      have hl : l[i]? = some l[i] := List.getElem?_eq_getElem hi
      obtain ⟨Fb, xb, rb⟩ := w3 i x F' H' H2 _ s e'.gd y hl
      refine hs i _ ρ' hl hI x σ' Fb H2 _ (e'.step xb) rb fun ρ2 σ2 F2 H3 x2 e2 _ _ _ h2 => ?_
      refine h2 σ2 F2 H3 ⟨_, _, _, _⟩ e2 (fun ρ3 σ3 F3 H4 s3 e3 h3 => ⟨ρ3, F3, (s.trans (xb.trans x2).ff).trans s3, e3, h3⟩) f2 (fun ρ3 σ3 F3 H4 s3 e3 h3 => f1 ρ3 σ3 F3 H4 (x1.ff.trans ((s.trans (xb.trans x2).ff).trans s3)) e3 h3) fun ρ3 σ3 F3 H4 s3 e3 h3 => ⟨ρ3, F3, (s.trans (xb.trans x2).ff).trans s3, e3, h3⟩
    · rintro σ' H' ⟨ρ', F', s, e', hI⟩
      exact f1 ρ' σ' F' H' (x1.ff.trans s) e' (hd ρ' hI)
/-! ### comprehensions -/
theorem wipe_eq {σ σ' : L2.St} : ∀ (vs : List Nat), σ'.length = σ.length → (∀ i : Nat, ¬ i ∈ vs → σ'[i]? = (wipe σ vs)[i]?) → wipe σ' vs = wipe σ vs := fun vs hl h => by
  have none_in : ∀ (τ : L2.St) (vs : List Nat) (i : Nat), i ∈ vs → i < τ.length → (wipe τ vs)[i]? = some none := fun τ vs => by
    induction vs with
    | nil => intro i hi; cases hi
    | cons v vs ih =>
      intro i hi hl
      unfold wipe
      by_cases z : v = i
      · subst z
        rw [List.getElem?_set_self (by rw [wipe_length]; exact hl)]
      · rw [List.getElem?_set_ne z]
        rcases List.mem_cons.mp hi with rfl | hi
        · exact absurd rfl z
        · exact ih i hi hl
  have out : ∀ (τ : L2.St) (vs : List Nat) (i : Nat), i ∉ vs → (wipe τ vs)[i]? = τ[i]? := fun τ vs => by
    induction vs with
    | nil => intro i _; rfl
    | cons v vs ih =>
      intro i hi
      unfold wipe
      rw [List.getElem?_set_ne (fun z => hi (by rw [z]; exact List.mem_cons_self))]
      exact ih i fun q => hi (List.mem_cons_of_mem _ q)
  refine List.ext_getElem? fun i => ?_
  by_cases z : i ∈ vs
  · by_cases w : i < σ.length
    · rw [none_in _ _ _ z (by rw [hl]; exact w), none_in _ _ _ z w]
    · rw [List.getElem?_eq_none (by rw [wipe_length, hl]; omega), List.getElem?_eq_none (by rw [wipe_length]; omega)]
  · rw [out _ _ _ z, h i z]
/-- each element some data of a kind -/
theorem wo_lcR {wi : TI} {g : TG} {vs : List Nat} (h : WV M wi ρ fun l => l.length < 100000 ∧ ∃ P : Nat → D → Prop, (∀ (i : Nat) d, l[i]? = some d → WG M (· ∈ vs) g d (wipeR ρ vs) fun ρ' => WE M te ρ' (P i)) ∧ ∀ m : List D, m.length = l.length → (∀ (i : Nat) d, m[i]? = some d → P i d) → ka m) : WO M (tLc wi g tYes te vs) ρ ka := fun σ F H Q e f =>
  h σ F H _ e fun J l F1 H1 x1 ⟨G, Y, w1, w2, w3⟩ ⟨hn, P, hs, hd⟩ => by
    intro L hL
    have nL := x1.ok.ne hL
    have fL := sub_none x1.gd.sub hL
    have e1 := e.step x1
    refine lc_it w1 (fun i H' => ∃ F' acc ds, XM M F1 H1 F' H' ∧ F' L = none ∧ Dl M.st H' L = some (.lst acc) ∧ RL M F' acc ds ∧ ds.length = i ∧ ∀ (j : Nat) d, ds[j]? = some d → P j d) ?_ ?_ ?_ ?_
    · exact ⟨F1, [], [], (XE.refl x1.gd).mut hL, fL, Dl_at nL, .nil, rfl, fun j d hj => by simp at hj⟩
    · rintro i H' _ ⟨F', acc, ds, x, _⟩
      exact w2 F' H' x
    · rintro i x H' H2 hi ⟨F', acc, ds, x2, fl, hl, hr, hlen, hP⟩ y
      have hli : l[i]? = some l[i] := List.getElem?_eq_getElem hi
      obtain ⟨Fb, xb, rb⟩ := w3 i x F' H' H2 _ x2 y hli
      have eb := (e1.step (x2.trans xb)).wipe vs
      refine hs i _ hli x _ Fb H2 _ eb rb fun ρ3 σ3 F3 H3 x3 e3 l3 s3 _ h3 => ?_
      refine ⟨?_, ?_⟩
      · have := wipe_eq (σ := σ) (σ' := σ3) vs (by rw [l3, wipe_length]) s3
        exact this
      · show te σ3 H3 _
        refine h3 σ3 F3 H3 _ e3 fun v d F4 H4 x4 r4 h4 => ?_
        have xb4 := xb.trans (x3.trans x4)
        have hl4 := xb4.ext.hh _ _ hl
        have fl4 := xb4.ext.fr L _ hl rfl fl
        refine ⟨acc, Dl_sub _ _ hl4, Nat.lt_of_lt_of_le (show acc.length < 100000 by rw [hr.len]; omega) (by decide), F4, acc ++ [v], ds ++ [d], ?_, fl4, ?_, (hr.mono xb4.ff).app (.cons r4 .nil), by simp [hlen], ?_⟩
        · exact (x2.trans xb4).chg hl4 (Dl_none hL) fl4
        · exact Dl_at nL
        · intro j dj hj
          by_cases q : j < ds.length
          · rw [List.getElem?_append_left q] at hj
            exact hP j dj hj
          · have : j = ds.length := by
              have := (List.getElem?_eq_some_iff.mp hj).1
              simp at this
              omega
            subst this
            rw [List.getElem?_append_right (Nat.le_refl _)] at hj
            simp at hj
            rw [← hj, hlen]
            exact h4
    · rintro H' ⟨F', acc, ds, x2, fl, hl, hr, hlen, hP⟩
      exact f L acc ds F' H' (x1.trans x2) hl fl (x1.ext.hh.free (Dl_none hL)) hr (hd ds hlen hP)
/-- each element a function of the item -/
theorem wo_lc {α : Type} {wi : TI} {g : TG} {vs : List Nat} (h : WV M wi ρ fun l => l.length < 100000 ∧ ∃ (xs : List α) (f g' : α → D), l = xs.map f ∧ (∀ a ∈ xs, WG M (· ∈ vs) g (f a) (wipeR ρ vs) fun ρ' => WE M te ρ' fun d => d = g' a) ∧ ka (xs.map g')) : WO M (tLc wi g tYes te vs) ρ ka := by
  refine wo_lcR fun σ F H Q e f => h σ F H Q e fun J l F' H' x w ⟨hn, xs, e1, g', hl, hs, q⟩ => f J l F' H' x w ⟨hn, fun i d => ∃ a, xs[i]? = some a ∧ d = g' a, ?_, ?_⟩
  · intro i d hd
    subst hl
    rw [List.getElem?_map] at hd
    cases hx : xs[i]? with
    | none => rw [hx] at hd; cases hd
    | some a =>
      rw [hx] at hd
      cases hd
      have := hs a (List.mem_of_getElem? hx)
      intro v σ F H Q e r f
      exact this v σ F H Q e r fun ρ' σ' F' H' x' e' l' s' o' h' => f ρ' σ' F' H' x' e' l' s' o' (h'.mono fun d hd => ⟨a, hx, hd⟩)
  · intro m hm hP
    have : m = xs.map g' := by
      refine List.ext_getElem? fun i => ?_
      cases hv : m[i]? with
      | none =>
        have : m.length ≤ i := List.getElem?_eq_none_iff.mp hv
        rw [hm, hl, List.length_map] at this
        rw [List.getElem?_eq_none (by simpa using this)]
      | some v =>
        obtain ⟨a, h1, rfl⟩ := hP i v hv
        rw [List.getElem?_map, h1]
        rfl
    rw [this]
    exact q
/-- .. with a test -/
theorem wo_lcf {α : Type} {wi : TI} {g : TG} {tt : TT} {vs : List Nat} (h : WV M wi ρ fun l => l.length < 100000 ∧ ∃ (xs : List α) (f g' : α → D) (p : α → Bool), l = xs.map f ∧ (∀ a ∈ xs, WG M (· ∈ vs) g (f a) (wipeR ρ vs) fun ρ' => WT M tt ρ' fun b => b = p a ∧ (b = true → WE M te ρ' fun d => d = g' a)) ∧ ka ((xs.filter p).map g')) : WO M (tLc wi g tt te vs) ρ ka := fun σ F H Q e f =>
  h σ F H _ e fun J l F1 H1 x1 ⟨G, Y, w1, w2, w3⟩ ⟨hn, xs, fe, g', pp, hle, hs, hd⟩ => by
    intro L hL
    have nL := x1.ok.ne hL
    have fL := sub_none x1.gd.sub hL
    have e1 := e.step x1
    refine lc_it w1 (fun i H' => ∃ F' acc, XM M F1 H1 F' H' ∧ F' L = none ∧ Dl M.st H' L = some (.lst acc) ∧ RL M F' acc (((xs.take i).filter pp).map g')) ?_ ?_ ?_ ?_
    · exact ⟨F1, [], (XE.refl x1.gd).mut hL, fL, Dl_at nL, by simp; exact .nil⟩
    · rintro i H' _ ⟨F', acc, x, _⟩
      exact w2 F' H' x
    · rintro i x H' H2 hi ⟨F', acc, x2, fl, hl, hr⟩ y
      have hli : l[i]? = some l[i] := List.getElem?_eq_getElem hi
      have hi' : i < xs.length := by rw [hle, List.length_map] at hi; exact hi
      have hxi : xs[i]? = some xs[i] := List.getElem?_eq_getElem hi'
      have hfe : l[i]? = some (fe xs[i]) := by rw [hle, List.getElem?_map, hxi]; rfl
      obtain ⟨Fb, xb, rb⟩ := w3 i x F' H' H2 _ x2 y hfe
      have eb := (e1.step (x2.trans xb)).wipe vs
      have alen : acc.length ≤ i := by
        rw [hr.len, List.length_map]
        exact Nat.le_trans (List.length_filter_le _ _) (by rw [List.length_take]; omega)
      refine hs xs[i] (List.getElem_mem _) x _ Fb H2 _ eb rb fun ρ3 σ3 F3 H3 x3 e3 l3 s3 _ h3 => ⟨wipe_eq (σ := σ) (σ' := σ3) vs (by rw [l3, wipe_length]) s3, ?_⟩
      refine h3 σ3 F3 H3 _ e3 fun b F4 H4 x4 ⟨hb, h4⟩ => ?_
      have tk : xs.take (i + 1) = xs.take i ++ [xs[i]] := by rw [List.take_add_one, hxi]; rfl
      cases b with
      | true =>
        refine iteT ((h4 rfl) σ3 F4 H4 _ (e3.step x4) fun v d F5 H5 x5 r5 h5 => ?_)
        have xb4 := xb.trans (x3.trans (x4.trans x5))
        have hl4 := xb4.ext.hh _ _ hl
        have fl4 := xb4.ext.fr L _ hl rfl fl
        refine ⟨acc, Dl_sub _ _ hl4, Nat.lt_of_lt_of_le (show acc.length < 100000 by omega) (by decide), F5, acc ++ [v], (x2.trans xb4).chg hl4 (Dl_none hL) fl4, fl4, Dl_at nL, ?_⟩
        rw [tk, List.filter_append, List.map_append]
        refine (hr.mono xb4.ff).app ?_
        subst h5
        rw [List.filter_cons_of_pos (by rw [← hb])]
        exact .cons r5 .nil
      | false =>
        have xb4 := xb.trans (x3.trans x4)
        refine iteF ⟨F4, acc, x2.trans xb4, xb4.ext.fr L _ hl rfl fl, xb4.ext.hh _ _ hl, ?_⟩
        rw [tk, List.filter_append, List.map_append, List.filter_cons_of_neg (by rw [← hb]; decide)]
        simp
        exact hr.mono xb4.ff
    · rintro H' ⟨F', acc, x2, fl, hl, hr⟩
      refine f L acc _ F' H' (x1.trans x2) hl fl (x1.ext.hh.free (Dl_none hL)) hr ?_
      rw [List.take_of_length_le (by rw [hle, List.length_map]; omega)]
      exact hd
end
end G

namespace G
open PySem PySem.Spec PyProof.Rows L2
/-! ## promises by data -/
abbrev Ct := List D → (D → Prop) → Prop
def spD (K : PySem.W.Frag) (C : Addr) (c : Ct) : Sp := fun vs H Q _ => ∃ st F ds k, Gd K st F H ∧ RA K C st F vs ds ∧ c ds k ∧ ∀ v d F' H', XE K st F H F' H' → R K C st F' v d → k d → Q v H'
def startR (N : List Str) (ds : List D) : Rho := ds.map (fun d => some (Sl.d d)) ++ List.replicate (N.length - ds.length) none
theorem fr_start {K : PySem.W.Frag} {C : Addr} {st : Option Addr} {F H : Hp} {N : List Str} {vs : List V} {ds : List D} (g : Gd K st F H) (r : RA K C st F vs ds) : Fr ⟨K, C, st, F, H⟩ (startR N ds) (start N vs) F H := by
  refine ⟨XE.refl g, by simp [L2.start, startR, r.len], fun i s h => ?_, fun i j s t _ h1 _ m1 _ => ?_⟩
  · unfold startR at h
    unfold L2.start
    by_cases z : i < ds.length
    · rw [List.getElem?_append_left (by simpa using z), List.getElem?_map] at h
      rw [List.getElem?_append_left (by simpa [r.len] using z), List.getElem?_map]
      rw [List.getElem?_eq_getElem z] at h
      cases h
      obtain ⟨v, h1, h2⟩ := r.get (List.getElem?_eq_getElem z)
      exact ⟨v, by rw [h1]; rfl, h2⟩
    · rw [List.getElem?_append_right (by simpa using z), List.getElem?_replicate] at h
      split at h
      · cases h
      · cases h
  · unfold startR at h1
    by_cases z : i < ds.length
    · rw [List.getElem?_append_left (by simpa using z), List.getElem?_map, List.getElem?_eq_getElem z] at h1
      cases h1
      cases m1
    · rw [List.getElem?_append_right (by simpa using z), List.getElem?_replicate] at h1
      split at h1
      · cases h1
      · cases h1
theorem ws_start {K : PySem.W.Frag} {C : Addr} {st : Option Addr} {F H : Hp} {N : List Str} {vs : List V} {ds : List D} {k : D → Prop} {Q : VK} {t : TS} (g : Gd K st F H) (r : RA K C st F vs ds) (f : ∀ v d F' H', XE K st F H F' H' → R K C st F' v d → k d → Q v H')
    (h : WS ⟨K, C, st, F, H⟩ t (startR N ds) (fun _ => k .non) (rtD k) (fun _ => False) (fun _ => False)) : t { nx := fun _ H' => Q .non H', rt := Q } (start N vs) H :=
  h _ F H _ (fr_start g r) (fun ρ' σ' F' H' _ e q => f _ _ F' H' e.x .non q) (fun v s ρ' σ' F' H' e r q => by
    cases s with
    | d d => exact f v d F' H' e.x r q
    | _ => exact q.elim) (fun _ _ _ _ _ _ q => q.elim) (fun _ _ _ _ _ _ q => q.elim)
section
variable {P : Program} {w : World} {K : PySem.W.Frag} {mg : Str → Option Value} {base : Heap} {C : Addr}
theorem FunAt.defD {x : Str} {st : Stmt} {N ps : List Str} {n : Nat} {c : Ct} (F : FunAt K mg x st ps) (S : FnScope N ps (defScope st)) (len : ∀ ds k, c ds k → ds.length = ps.length)
    (hbody : ∀ (f : Addr) (cdv : Value) (A : Around) (outer : List Env) (s : Shared) (H : Hp) (E : XK) (sa : Option Addr) (F : Hp) (ds : List D) (k : D → Prop), Room n (A.deeper (envOfC x (defScope st) s.heap.objs.size f cdv)) → c ds k →
      ∃ t, PSs (cxOf CX0 P w K mg base N x (defScope st) f cdv A outer s H E).nox (defBody st) t ∧ WS ⟨K, C, sa, F, H⟩ t (startR N ds) (fun _ => k .non) (rtD k) (fun _ => False) (fun _ => False)) : Def P w K mg base (n + 1) x ps (spD K C c) := by
  refine F.def S (fun vs H Q E h => ?_) fun f cdv A outer s H vs Q E hr h => ?_
  · obtain ⟨st, F, ds, k, _, r, hc, _⟩ := h
    rw [r.len]
    exact len ds k hc
  · obtain ⟨st, F, ds, k, g, r, hc, q⟩ := h
    obtain ⟨t, h1, h2⟩ := hbody f cdv A outer s H E st F ds k hr hc
    exact ⟨t, h1, ws_start g r q h2⟩
theorem MethAt.defD {x qual : Str} {st : Stmt} {N ps : List Str} {n : Nat} {c : Ct} (F : MethAt K C x qual st ps) (S : FnScope N ps (defScope st)) (len : ∀ ds k, c ds k → ds.length = ps.length)
    (hbody : ∀ (f : Addr) (cdv : Value) (A : Around) (outer : List Env) (s : Shared) (H : Hp) (E : XK) (sa : Option Addr) (F : Hp) (ds : List D) (k : D → Prop), Room n (A.deeper (envOfC qual (defScope st) s.heap.objs.size f cdv)) → c ds k →
      ∃ t, PSs (cxOf CX0 P w K mg base N qual (defScope st) f cdv A outer s H E).nox (defBody st) t ∧ WS ⟨K, C, sa, F, H⟩ t (startR N ds) (fun _ => k .non) (rtD k) (fun _ => False) (fun _ => False)) : DefM P w K mg base (n + 1) C x ps (spD K C c) := by
  refine F.def S (fun vs H Q E h => ?_) fun f cdv A outer s H vs Q E hr h => ?_
  · obtain ⟨st, F, ds, k, _, r, hc, _⟩ := h
    rw [r.len]
    exact len ds k hc
  · obtain ⟨st, F, ds, k, g, r, hc, q⟩ := h
    obtain ⟨t, h1, h2⟩ := hbody f cdv A outer s H E st F ds k hr hc
    exact ⟨t, h1, ws_start g r q h2⟩
/-- an older promise, by data -/
theorem Def.to {k : Nat} {x : Str} {ps : List Str} {sp sp' : Sp} (D : Def P w K mg base k x ps sp) (h : ∀ vs H Q E, sp' vs H Q E → sp vs H Q E) : Def P w K mg base k x ps sp' := by
  obtain ⟨f, fd, F, b⟩ := D.ex
  exact ⟨f, fd, F.imp h, b⟩
theorem DefM.to {k : Nat} {x : Str} {ps : List Str} {sp sp' : Sp} (D : DefM P w K mg base k C x ps sp) (h : ∀ vs H Q E, sp' vs H Q E → sp vs H Q E) : DefM P w K mg base k C x ps sp' := by
  obtain ⟨f, fd, F, b⟩ := D.ex
  exact ⟨f, fd, F.imp h, b⟩
end
section
variable {M : Cm} {ρ : Rho} {k : D → Prop} {ka : List D → Prop} {ta tb te : TE} {tr : TA} {i : Nat} {d : D} {l : List D}
theorem we_call {c : Ct} {E : XK} (h : WA M tr ρ fun ds => c ds k) : WE M (tCall (spD M.K M.C c) [] E tr) ρ k := fun σ F H Q e f => by
  refine s_call (h σ F H _ e fun vs ds F1 H1 x1 r1 h1 => ⟨M.st, F1, ds, k, x1.gd, r1, h1, fun v d F' H' x2 => f v d F' H' (x1.trans x2)⟩)
/-- data that is no object -/
def D.flat : D → Bool
  | .non => true
  | .bl _ => true
  | .int _ => true
  | .str _ => true
  | _ => false
theorem R.flat {K : PySem.W.Frag} {C : Addr} {st : Option Addr} {F F' : Hp} {v : V} {d : D} (h : R K C st F v d) (hf : d.flat = true) : R K C st F' v d := by
  cases h with
  | non => exact .non
  | bl b => exact .bl b
  | int i => exact .int i
  | str s => exact .str s
  | lst _ _ => cases hf
  | tup _ _ => cases hf
  | stn _ => cases hf
  | ixt _ _ => cases hf
  | bench _ => cases hf
  | dic _ _ _ => cases hf
  | dit _ _ _ => cases hf
  | st _ => cases hf
  | exc0 => cases hf
  | exc _ _ _ => cases hf
  | lsx _ => cases hf
  | exv0 _ => cases hf
  | exv _ _ _ _ => cases hf
theorem RB.rv {F H : Hp} {v : V} {d : D} (g : Gd M.K M.st F H) (h : RB M F H v d) : RV M (Dl M.st H) v d := by
  rcases h with h | ⟨p, vs, l, rfl, rfl, h1, h2⟩ | ⟨p, ks, vs, l, rfl, rfl, h1, h3, h2⟩ | ⟨p, ks, vs, l, rfl, rfl, h1, h3, h2⟩
  · exact R.mono g.fh h
  · exact .lst (.inl (.inl h1)) (h2.mono g.fh)
  · exact .dic h1 h3 (h2.mono g.fh)
  · exact .dit h1 h3 (h2.mono g.fh)
theorem fl_noM {m : Str} (h : [("hard" : Str), "places", "told", "heavy", "meets"].contains m = false) {l1 l2 l3 l4 : Addr} {n : Int} : (bflds l1 n l2 l3 l4).lookup m = none := by
  simp only [List.contains_eq_mem, List.mem_cons, List.not_mem_nil, or_false, decide_eq_false_iff_not, not_or] at h
  obtain ⟨h1, h2, h3, h4, h5⟩ := h
  unfold bflds
  simp only [List.lookup]
  rw [show (m == ("hard" : Str)) = false by simpa using h1]
  dsimp only
  rw [show (m == ("places" : Str)) = false by simpa using h2]
  dsimp only
  rw [show (m == ("told" : Str)) = false by simpa using h3]
  dsimp only
  rw [show (m == ("heavy" : Str)) = false by simpa using h4]
  dsimp only
  rw [show (m == ("meets" : Str)) = false by simpa using h5]
theorem we_meth {m : Str} {c : Ct} {E : XK} (hm : [("hard" : Str), "places", "told", "heavy", "meets"].contains m = false) (h : WE M ta ρ fun d => ∃ B, d = .bench B ∧ WA M tr ρ fun ds => c (d :: ds) k) : WE M (tMeth M.C m (spD M.K M.C c) [] E ta tr) ρ k := fun σ F H Q e f => by
  refine s_meth (h σ F H _ e fun v d F1 H1 x1 r1 ⟨B, z, h1⟩ => ?_)
  subst z
  cases r1 with
  | bench hb =>
    obtain ⟨dx, l1, l2, l3, l4, h2, _⟩ := hb.ex
    refine ⟨_, dx, _, rfl, x1.gd.sub _ _ h2, fl_noM hm, h1 σ F1 H1 _ (e.step x1) fun vs ds F2 H2 x2 r2 h3 => ?_⟩
    exact ⟨M.st, F2, _, k, x2.gd, .cons (.bench (hb.mono x2.ff)) r2, h3, fun v d F' H' x3 => f v d F' H' ((x1.trans x2).trans x3)⟩
/-! the fields of a bench -/
abbrev gDD (g : Nat × Nat × List Nat) : D := .tup [.int g.1, .int g.2.1, .tup (g.2.2.map fun (x : Nat) => D.int (x : Int))]
abbrev pDD (p : Nat × Nat) : D := .tup [.int p.1, .int p.2]
/-- plain data without strict tuples -/
inductive Pz : D → Prop
  | non : Pz .non
  | bl {b : Bool} : Pz (.bl b)
  | int {i : Int} : Pz (.int i)
  | str {s : Str} : Pz (.str s)
  | lst {l : List D} : (∀ d ∈ l, Pz d) → Pz (.lst l)
  | tup {l : List D} : (∀ d ∈ l, Pz d) → Pz (.tup l)
theorem pz_map {α : Type} {f : α → D} {l : List α} (h : ∀ x ∈ l, Pz (f x)) : ∀ d ∈ l.map f, Pz d := fun d hd => by
  obtain ⟨x, hx, rfl⟩ := List.mem_map.mp hd
  exact h x hx
theorem pz_nil : ∀ d ∈ ([] : List D), Pz d := fun _ h => nomatch h
theorem pz_cons {d : D} {l : List D} (h : Pz d) (t : ∀ e ∈ l, Pz e) : ∀ e ∈ d :: l, Pz e := fun e he => by
  rcases List.mem_cons.mp he with rfl | he
  · exact h
  · exact t e he
theorem Dp.rv {K : PySem.W.Frag} {C : Addr} {st : Option Addr} {F : Hp} {v : V} {p : PyData} {d : D} (h : Dp K F v p) (e : d.py = p) (hp : Pz d) : R K C st F v d := by
  induction hp generalizing v p with
  | non => subst e; cases h; exact .non
  | bl => subst e; cases h; exact .bl _
  | int => subst e; cases h; exact .int _
  | str => subst e; cases h; exact .str _
  | lst hl ih =>
    subst e
    rw [D.py] at h
    obtain ⟨a, xs, rfl, h1, h2⟩ := dp_refL h
    refine .lst h1 (RA.of (by rw [dpAll_len h2, pys_map, List.length_map]) fun i v d hv hd => ?_)
    obtain ⟨v', q1, q2⟩ := dpAll_get (i := i) h2 (by rw [pys_map, List.getElem?_map, hd]; rfl)
    rw [hv] at q1
    cases q1
    exact ih d (List.mem_of_getElem? hd) q2 rfl
  | tup hl ih =>
    subst e
    rw [D.py] at h
    obtain ⟨a, xs, rfl, h1, h2⟩ := dp_refT h
    refine .tup h1 (RA.of (by rw [dpAll_len h2, pys_map, List.length_map]) fun i v d hv hd => ?_)
    obtain ⟨v', q1, q2⟩ := dpAll_get (i := i) h2 (by rw [pys_map, List.getElem?_map, hd]; rfl)
    rw [hv] at q1
    cases q1
    exact ih d (List.mem_of_getElem? hd) q2 rfl
theorem pz_gDD (g : Nat × Nat × List Nat) : Pz (gDD g) := .tup (pz_cons .int (pz_cons .int (pz_cons (.tup (pz_map fun _ _ => .int)) pz_nil)))
theorem pz_pDD (p : Nat × Nat) : Pz (pDD p) := .tup (pz_cons .int (pz_cons .int pz_nil))
theorem pz_told (B : BD) : Pz (.lst (B.told.map gDD)) := .lst (pz_map fun g _ => pz_gDD g)
theorem pz_meets (B : BD) : Pz (.lst (B.meets.map fun r => .lst (r.map pDD))) := .lst (pz_map fun r _ => .lst (pz_map fun p _ => pz_pDD p))
theorem py_gDD (g : Nat × Nat × List Nat) : (gDD g).py = gD g := by
  simp only [gDD, D.py, pys, pys_map, gD, List.map_map]
  rfl
abbrev toldD (B : BD) : D := .lst (B.told.map gDD)
abbrev meetsD (B : BD) : D := .lst (B.meets.map fun r => .lst (r.map pDD))
theorem py_told (B : BD) : (toldD B).py = .list (B.told.map gD) := by
  simp only [toldD, D.py, pys_map, List.map_map]
  congr 1
  exact List.map_congr_left fun g _ => py_gDD g
theorem py_meets (B : BD) : (meetsD B).py = .list (B.meets.map fun r => .list (r.map pD)) := by
  simp only [meetsD, D.py, pys_map, List.map_map]
  congr 1
  refine List.map_congr_left fun r _ => ?_
  show PyData.list (pys (r.map pDD)) = _
  rw [pys_map, List.map_map]
  congr 1
section
variable {mg : Str → Option Value}
theorem we_fld {f : Str} (h : WE M te ρ fun d => ∃ B v, d = .bench B ∧ k v ∧ (∀ F b dx l1 l2 l3 l4, F b = some (.ins M.C dx (bflds l1 B.places l2 l3 l4)) → SqL M.K F l1 (B.hard.map V.int) → Dp M.K F (.ref l2) (.list (B.told.map gD)) → SqL M.K F l3 (B.heavy.map V.int) → Dp M.K F (.ref l4) (.list (B.meets.map fun r => .list (r.map pD))) → ∃ x, Cls M.K M.C ∧ NoAttr M.K M.C f ∧ (bflds l1 B.places l2 l3 l4).lookup f = some x ∧ RV M F x v)) : WE M (tFld M.K te f) ρ k := fun σ F H Q e g => by
  refine h σ F H _ e fun v d F1 H1 x1 r1 ⟨B, w, z, q, h1⟩ => ?_
  subst z
  cases r1 with
  | bench hb =>
    obtain ⟨dx, l1, l2, l3, l4, h2, h3, h4, h5, h6⟩ := hb.ex
    obtain ⟨x, cl, na, lk, rv⟩ := h1 F1 _ dx l1 l2 l3 l4 h2 h3 h4 h5 h6
    exact ⟨_, M.C, dx, _, x, rfl, x1.gd.sub _ _ h2, cl, na, lk, g _ _ F1 H1 x1 rv q⟩
theorem we_hard (T : Txt M.K mg M.C) (h : WE M te ρ fun d => ∃ B, d = .bench B ∧ k (.lst (B.hard.map D.int))) : WE M (tFld M.K te "hard") ρ k := we_fld (h.mono fun d ⟨B, z, q⟩ => ⟨B, _, z, q, fun F b dx l1 l2 l3 l4 h2 h3 h4 h5 h6 => ⟨_, T.cl, T.n_hard, fl_hard, .lst h3 (RA.ofInts _)⟩⟩)
theorem we_heavy (T : Txt M.K mg M.C) (h : WE M te ρ fun d => ∃ B, d = .bench B ∧ k (.lst (B.heavy.map D.int))) : WE M (tFld M.K te "heavy") ρ k := we_fld (h.mono fun d ⟨B, z, q⟩ => ⟨B, _, z, q, fun F b dx l1 l2 l3 l4 h2 h3 h4 h5 h6 => ⟨_, T.cl, T.n_heavy, fl_heavy, .lst h5 (RA.ofInts _)⟩⟩)
theorem we_places (T : Txt M.K mg M.C) (h : WE M te ρ fun d => ∃ B, d = .bench B ∧ k (.int B.places)) : WE M (tFld M.K te "places") ρ k := we_fld (h.mono fun d ⟨B, z, q⟩ => ⟨B, _, z, q, fun F b dx l1 l2 l3 l4 h2 h3 h4 h5 h6 => ⟨_, T.cl, T.n_places, fl_places, .int _⟩⟩)
theorem we_told (T : Txt M.K mg M.C) (h : WE M te ρ fun d => ∃ B, d = .bench B ∧ k (toldD B)) : WE M (tFld M.K te "told") ρ k := we_fld (h.mono fun d ⟨B, z, q⟩ => ⟨B, _, z, q, fun F b dx l1 l2 l3 l4 h2 h3 h4 h5 h6 => ⟨_, T.cl, T.n_told, fl_told, Dp.rv h4 (py_told B) (pz_told B)⟩⟩)
theorem we_meets (T : Txt M.K mg M.C) (h : WE M te ρ fun d => ∃ B, d = .bench B ∧ k (meetsD B)) : WE M (tFld M.K te "meets") ρ k := we_fld (h.mono fun d ⟨B, z, q⟩ => ⟨B, _, z, q, fun F b dx l1 l2 l3 l4 h2 h3 h4 h5 h6 => ⟨_, T.cl, T.n_meets, fl_meets, Dp.rv h6 (py_meets B) (pz_meets B)⟩⟩)
end
/-! d[k] -/
def valD {κ : Type} [DecidableEq κ] : List κ → List D → κ → Option D
  | q :: ks, d :: l, x => if q = x then some d else valD ks l x
  | _, _, _ => none
theorem valD_RA {κ : Type} [DecidableEq κ] {F : Hp} {x : κ} : ∀ {ks : List κ} {vs : List V} {l : List D} {d : D}, RL M F vs l → valD ks l x = some d → ∃ v, valV (ks.zip vs) x = some v ∧ RV M F v d
  | [], _, _, _, _, h => by simp [valD] at h
  | _ :: _, _, _, _, .nil, h => by simp [valD] at h
  | q :: ks, _, _, d, .cons (vs := vs) (v := v) a b, h => by
    unfold valD at h
    by_cases z : q = x
    · rw [if_pos z] at h
      cases h
      exact ⟨v, by simp [valV, z], a⟩
    · rw [if_neg z] at h
      obtain ⟨u, h1, h2⟩ := valD_RA b h
      refine ⟨u, ?_, h2⟩
      rw [List.zip_cons_cons]
      unfold valV at h1 ⊢
      rw [List.find?_cons_of_neg (by simpa using z)]
      exact h1
/-- the law's own bench -/
abbrev gDX (g : Nat × Nat × List Nat) : D := .tup [.int g.1, .int g.2.1, .ixt (g.2.2.map fun (x : Nat) => (x : Int))]
abbrev toldX (B : BD) : D := .lst (B.told.map gDX)
abbrev modelD (B : BD) : D := .dic [Sum.inr "hard", Sum.inr "places", Sum.inr "told", Sum.inr "heavy", Sum.inr "meets"] [.lst (B.hard.map D.int), .int B.places, toldX B, .lst (B.heavy.map D.int), meetsD B]
end
end G

namespace G
open PySem PySem.Spec PyProof.Rows L2

/-! ### an instance's own __eq__, __len__; != by it -/
section
variable {X : Cx} {k : Nat} {C : Addr} {ps : List Str} {sp : Sp} {pins : List (Addr × Obj)} {σ : L2.St} {H : Hp} {s : Shared}
def rOwnEq (K : PySem.W.Frag) (C : Addr) (sp : Sp) (g : Bool → Bool) : R2 := fun x y H Q => ∃ a dx fs ty, x = .ref a ∧ H a = some (.ins C dx fs) ∧ TyX K H y ty ∧ PySem.W.notFirst K C ty = true ∧ sp [x, y] H (fun v H' => ∃ b, v = .bl b ∧ Q (.bl (g b)) H') E0
/-- len(o) by an own __len__ -/
def rOwnLen (C : Addr) (sp : Sp) : List V → Hp → VK → Prop := fun vs H Q => ∃ a dx fs, vs = [.ref a] ∧ H a = some (.ins C dx fs) ∧ sp vs H (fun v H' => ∃ n : Nat, v = .int n ∧ n < 1000000 ∧ Q (.int n) H') E0
/-! ### == of two dicts of the same keys, their values data -/
def rEqDK (K : PySem.W.Frag) : R2 := fun x y H Q => ∃ a b kvs lvs ds es, x = .ref a ∧ y = .ref b ∧ H a = some (.dK kvs) ∧ H b = some (.dK lvs) ∧ kvs.map (·.1) = lvs.map (·.1) ∧ (kvs.map (·.1)).Nodup ∧ DpAll K H (kvs.map (·.2)) ds ∧ DpAll K H (lvs.map (·.2)) es ∧
  (∀ d ∈ ds, SeqAt.shaped d = true) ∧ (∀ d ∈ es, SeqAt.shaped d = true) ∧ Q (.bl (PyData.eqvAll ds es)) H
theorem valV_at {κ : Type} [DecidableEq κ] : ∀ {lvs : List (κ × V)} {i : Nat} {k : κ} {w : V}, (lvs.map (·.1)).Nodup → lvs[i]? = some (k, w) → valV lvs k = some w
  | [], _, _, _, _, h => by simp at h
  | p :: lvs, 0, k, w, _, h => by
    have : p = (k, w) := by simpa using h
    subst this
    simp [valV]
  | p :: lvs, i + 1, k, w, nd, h => by
    have h' : lvs[i]? = some (k, w) := by simpa using h
    rw [List.map_cons, List.nodup_cons] at nd
    have ne : ¬ p.1 = k := fun e => nd.1 (by rw [e]; exact List.mem_map.mpr ⟨_, List.mem_of_getElem? h', rfl⟩)
    have ih := valV_at nd.2 h'
    unfold valV at ih ⊢
    rw [List.find?_cons_of_neg (by simpa using ne)]
    exact ih
end
end G

namespace G
open PySem PySem.Spec PyProof.Rows L2
/-! ### enumerate of a list or a tuple -/
def IteM (j : Bool) (K : PySem.W.Frag) (a : Addr) : It :=
  ⟨fun i H => ∃ (xs : List V) (x : V), SqB j K H a xs ∧ xs[i]? = some x, fun i H v H' => ∃ T x, v = .ref T ∧ H T = none ∧ H' = upd H T (.tup [.int (i : Nat), x]) ∧ ∀ xs, SqB j K H a xs → xs[i]? = some x, fun i H => ∃ xs : List V, SqB j K H a xs ∧ xs.length = i⟩
def iEnumM (K : PySem.W.Frag) (ta : TA) : TI := fun σ H R => ta σ H fun vs H1 => ∃ j a xs, vs = [.ref a] ∧ SqB j K H1 a xs ∧ R (IteM j K a) H1
/-! ### min of a list of whole numbers -/
end G

namespace G
open PySem PySem.Spec PyProof.Rows L2
/-! ### rules with lists of any kind -/
section
variable {X : Cx} {K : PySem.W.Frag}
/-- xs + ys, any two lists -/
def rCatS (K : PySem.W.Frag) : R2 := fun x y H Q => ∃ l b xs zs, x = .ref l ∧ y = .ref b ∧ SqL K H l xs ∧ SqL K H b zs ∧ xs.length + zs.length ≤ 100000 ∧ ∀ p, H p = none → Q (.ref p) (upd H p (.lst (xs ++ zs)))
theorem op_catS : OpR X (binaryOp .Add) (rCatS X.K) := by
  intro pins s σ H x y v u Q I rx ry h
  obtain ⟨l, b, xs, zs, rfl, rfl, hH, hB, hz, q⟩ := h
  have hz : xs.length + zs.length ≤ sizeLine := Nat.le_trans hz (by decide)
  cases rx
  cases ry
  obtain ⟨its, r1, ⟨⟨oc, od, dt, sl⟩, n1, e1, hc, _, hd⟩, _⟩ := I.list hH
  obtain ⟨its2, r2, ⟨⟨oc2, od2, dt2, sl2⟩, n2, e2, hc2, _, hd2⟩, _⟩ := I.list hB
  dsimp only at hc hd hc2 hd2
  subst hc hd hc2 hd2
  have l1 := r1.length
  have l2 := r2.length
  refine concat_meets ⟨_, e1, rfl⟩ ⟨_, e2, rfl⟩ noFill_list_add seq_list_add PySem.F.slot_list_add PySem.F.entry_list_add (PySem.F.args_list_add_2 _ _) (list_addW l b its.toArray its2.toArray n1 n2 od od2 sl sl2 (by simp; omega)) ⟨e1, e2, ?_⟩
  have ea : its.toArray ++ its2.toArray = (its ++ its2).toArray := by simp
  rw [ea]
  exact ⟨.ref _, _, I.lnew (t' := s.toks) (r1.append r2) (by rw [List.length_append]; omega), rfl, q _ I.fresh⟩
abbrev rAddS (K : PySem.W.Frag) : R2 := fun x y H Q => rAddA K x y H Q ∨ rCatS K x y H Q
theorem k_addS (h : X.K = K) : OpR X (binaryOp .Add) (rAddS K) := by subst h; exact op_or (k_addA rfl) op_catS
abbrev rMulS : R2 := fun x y H Q => rMulU x y H Q ∨ rI CMulW (fun i j => .int (i * j)) x y H Q
/-- x = e, the list a thing of its own -/
def tAsgO (te : TE) (i : Nat) : TS := tAsg te (gName i)
abbrev rInU (K : PySem.W.Frag) : R2 := fun x y H Q => rIn K false x y H Q ∨ rInD K x y H Q
abbrev rNotInU (K : PySem.W.Frag) : R2 := fun x y H Q => rIn K true x y H Q ∨ rNotInD K x y H Q
end
section
variable {M : Cm} {ρ : Rho} {k : D → Prop} {kb : Bool → Prop} {ka : List D → Prop} {kr nx bk ct : Rho → Prop} {rt : Sl → Rho → Prop} {ta tb te : TE} {t : TT} {ts us : TS} {tr : TA} {i : Nat} {d : D} {l : List D}
theorem ws_setOwn (h : WO M te ρ fun l => nx (ρ.set i (some (.own l)))) : WS M (tAsgO te i) ρ nx rt bk ct := ws_setO h
theorem op_addSI {m n : Int} (q : k (.int (m + n))) : OP M (rAddS M.K) (.int m) (.int n) k := op_or1 (op_or1 (op_addII q))
theorem opo_cat {l m : List D} (hl : l.length + m.length ≤ 100000) (q : ka (l ++ m)) : OPO M (rAddS M.K) (.lst l) (.lst m) ka := fun F H x y Q g rx ry f => by
  obtain ⟨p, vs, rfl, h1, h2⟩ := rx.lst g
  obtain ⟨p', us, rfl, h3, h4⟩ := ry.lst g
  exact .inr ⟨p, p', vs, us, rfl, rfl, h1, h3, by rw [h2.len, h4.len]; exact hl, fun q' np => cro_new g (h2.app h4) np q f⟩
theorem op_cat {l m : List D} (hl : l.length + m.length ≤ 100000) (q : k (.lst (l ++ m))) : OP M (rAddS M.K) (.lst l) (.lst m) k := (opo_cat hl q).op
theorem op_catT {l m : List D} (hl : l.length + m.length ≤ 1000) (q : k (.tup (l ++ m))) : OP M (rAddS M.K) (.tup l) (.tup m) k := fun F H x y Q g rx ry f => by
  obtain ⟨a, vs, rfl, h1, h2⟩ := rx.tup
  obtain ⟨b, us, rfl, h3, h4⟩ := ry.tup
  refine .inl (.inr ⟨a, b, vs, us, rfl, rfl, sqT_mono g.sub h1, sqT_mono g.sub h3, Nat.le_trans (by rw [h2.len, h4.len]; exact hl) (by decide), fun e => ?_, fun _ e => ?_, fun _ _ p np => ?_⟩)
  · subst e
    have : l = [] := by have := h2.len; simpa using this.symm
    subst this
    exact f _ _ F H (XE.refl g) (.tup h3 h4) q
  · subst e
    have : m = [] := by have := h4.len; simpa using this.symm
    subst this
    rw [List.append_nil] at q
    exact f _ _ F H (XE.refl g) (.tup h1 h2) q
  · exact f _ _ _ _ ((XE.refl g).new np) (.tup (.inl (.inl upd_same)) ((h2.app h4).mono (same_upd (sub_none g.sub np)))) q
/-- [..] * n -/
theorem wo_rep (h : WO M ta ρ fun l => WB M tb ρ fun e => ∃ m : Int, e = .int m ∧ -(2 ^ 63) ≤ m ∧ m < 2 ^ 63 ∧ l.length * m.toNat ≤ 100000 ∧ ka (List.replicate m.toNat l).flatten) : WO M (tOp rMulS ta tb) ρ ka := fun σ F H Q e f =>
  h σ F H _ e fun p vs l F1 H1 x1 h1 h2 h3 h4 hb => hb σ F1 H1 _ (e.step x1) fun y d F2 H2 x2 r2 ⟨m, z, b1, b2, b3, q⟩ => by
    subst z
    cases r2.int
    have x02 := x1.trans x2
    have h4' := h4.mono x2.ff
    refine .inl (.inr ⟨p, m, vs, rfl, rfl, Dl_sub _ _ (x2.ext.hh _ _ h1), b1, b2, Nat.le_trans (by rw [h4.len]; exact b3) (by decide), fun q' np => ?_⟩)
    have rep : RL M F2 (List.replicate m.toNat vs).flatten (List.replicate m.toNat l).flatten := by
      induction m.toNat with
      | zero => exact .nil
      | succ n ih =>
        rw [List.replicate_succ, List.replicate_succ, List.flatten_cons, List.flatten_cons]
        exact h4'.app ih
    exact cro_new (ka := ka) x02.gd rep np q fun p vs l F4 H4 x4 a b c => f p vs l F4 H4 (x02.trans x4) a b (x02.ext.hh.free c)
/-- isinstance(x, a built-in class) -/
def D.ty : D → Option String
  | .non => some "NoneType"
  | .bl _ => some "bool"
  | .int _ => some "int"
  | .str _ => some "str"
  | .lst _ => some "list"
  | .tup _ => some "tuple"
  | .stn _ => some "tuple"
  | .ixt _ => some "tuple"
  | .dic _ _ => some "dict"
  | .dit _ _ => some "dict"
  | _ => none
theorem rb_ty {F H : Hp} {v : V} {d : D} {T : String} (g : Gd M.K M.st F H) (h : RB M F H v d) (e : d.ty = some T) : TyX M.K H v (.type T) := by
  have key := h.rv g
  cases key with
  | non => cases e; exact .base .non
  | bl b => cases e; exact .base (.bl b)
  | int b => cases e; exact .base (.int b)
  | str b => cases e; exact .base (.str b)
  | lst a b => cases e; exact ty_lst (sqL_mono Dl_sub a)
  | tup a b => cases e; exact ty_tup (sqT_mono Dl_sub a)
  | stn a => cases e; exact ty_tup (.inl (.inl (Dl_sub _ _ a)))
  | ixt a _ => cases e; exact ty_tup (.inl (.inr ⟨_, Dl_sub _ _ a⟩))
  | bench a => cases e
  | dic a b c => cases e; exact .base (.dK (Dl_sub _ _ a))
  | dit a b c => cases e; exact .base (.dT (Dl_sub _ _ a))
  | st a => cases e
  | exc0 => cases e
  | exc _ _ _ => cases e
  | lsx _ => cases e
  | exv0 _ => cases e
  | exv _ _ _ _ => cases e
theorem we_isi {U : String} (h : WB M te ρ fun d => ∃ T b, d.ty = some T ∧ kitB T U = some b ∧ k (.bl b)) : WE M (tCB (rIsi M.K) (tCons te (tCons (tC (.ty U)) tNil))) ρ k := fun σ F H Q e f =>
  h σ F H _ e fun v d F1 H1 x1 r1 ⟨T, b, e1, e2, q⟩ => s_isi (.ty U) (rb_ty x1.gd r1 e1) (kit_ty e2) (f _ _ F1 H1 x1 (.bl b) q)
/-! sorted, of ints -/
/-! list(range(..)) -/
/-! ### compared at any depth: things of one's own within tuples and lists -/
def WD (M : Cm) (t : TE) (ρ : Rho) (k : D → Prop) : Prop := ∀ σ F H Q, Fr M ρ σ F H → (∀ v d F' H', XM M F H F' H' → RV M (Dl M.st H') v d → k d → Q v H') → t σ H Q
def WAD (M : Cm) (t : TA) (ρ : Rho) (k : List D → Prop) : Prop := ∀ σ F H Q, Fr M ρ σ F H → (∀ vs ds F' H', XM M F H F' H' → RL M (Dl M.st H') vs ds → k ds → Q vs H') → t σ H Q
theorem wad_nil (q : ka []) : WAD M tNil ρ ka := fun σ F H Q e f => f [] [] F H (XE.refl e.gd) .nil q
theorem wad_cons (h : WD M ta ρ fun d => WAD M tr ρ fun ds => ka (d :: ds)) : WAD M (tCons ta tr) ρ ka := fun σ F H Q e f =>
  h σ F H _ e fun x d F1 H1 x1 r1 h1 => h1 σ F1 H1 _ (e.step x1) fun vs ds F2 H2 x2 r2 => f _ _ F2 H2 (x1.trans x2) (.cons (r1.mono x2.ext.hh) r2)
theorem wd_tup (h : WAD M tr ρ fun ds => ds.length ≤ 1000 ∧ k (.tup ds)) : WD M (tTup tr) ρ k := fun σ F H Q e f =>
  h σ F H _ e fun vs ds F1 H1 x1 r1 ⟨h1, h2⟩ => ⟨Nat.le_trans (by rw [r1.len]; exact h1) (by decide), fun p np => f _ _ F1 _ (x1.mut np) (by
    rw [Dl_upd (o := .tup vs) (x1.ok.ne np) rfl]
    exact .tup (.inl (.inl upd_same)) (r1.mono (same_upd (Dl_none np)))) h2⟩
theorem wd_lst (h : WAD M tr ρ fun ds => ds.length ≤ 1000 ∧ k (.lst ds)) : WD M (tLst tr) ρ k := fun σ F H Q e f =>
  h σ F H _ e fun vs ds F1 H1 x1 r1 ⟨h1, h2⟩ => ⟨Nat.le_trans (by rw [r1.len]; exact h1) (by decide), fun p np => f _ _ F1 _ (x1.mut np) (by
    rw [Dl_upd (o := .lst vs) (x1.ok.ne np) rfl]
    exact .lst (.inl (.inl upd_same)) (r1.mono (same_upd (Dl_none np)))) h2⟩
/-! in -/
/-! a, b = x, y -/
theorem ws_par {j : Nat} (h : WA M tr ρ fun ds => ∃ d e, ds = [d, e] ∧ nx ((ρ.set i (some (.d d))).set j (some (.d e)))) : WS M (tPar i j tr) ρ nx rt bk ct := fun σ F H E e f1 f2 f3 f4 => h σ F H _ e fun vs ds F1 H1 x1 r1 ⟨a, b, z, q⟩ => by
  subst z
  cases r1 with
  | cons r1 r2 =>
    cases r2 with
    | cons r2 r3 =>
      cases r3
      exact ⟨_, _, rfl, f1 _ _ F1 H1 x1.ff (((e.step x1).put r1).put r2) q⟩
theorem start_eqR {ts : TS} {ρ ρ' : Rho} (e : ρ = ρ') (h : WS M ts ρ' nx rt bk ct) : WS M ts ρ nx rt bk ct := by rw [e]; exact h
end
theorem s_nnT {d : D} {A B : Prop} (e : d.isN = true) (h : A) : if d.isN = true then A else B := by rw [e]; exact iteT h
theorem s_nnF {d : D} {A B : Prop} (e : d.isN = false) (h : B) : if d.isN = true then A else B := by rw [e]; exact iteF h
theorem s_mnT {d : D} {A B : Prop} (e : d.isN = false) (h : A) : if (!d.isN) = true then A else B := by rw [e]; exact iteT h
theorem s_mnF {d : D} {A B : Prop} (e : d.isN = true) (h : B) : if (!d.isN) = true then A else B := by rw [e]; exact iteF h
theorem len_ok {l : List D} {A : Prop} (h : Nat.ble l.length 1000 = true) (a : A) : l.length ≤ 1000 ∧ A := ⟨Nat.le_of_ble_eq_true h, a⟩
end G

namespace G
open PySem PySem.Spec PyProof.Rows L2
section
variable {M : Cm} {ρ : Rho} {ka : List D → Prop} {te : TE}
/-! d[k] -/
def DGt (M : Cm) (x y : D) (k : D → Prop) : Prop := (∃ ks l s d, x = .dic ks l ∧ y = .str s ∧ valD ks l (Sum.inr s : Key) = some d ∧ k d) ∨ (∃ ks l m d, x = .dic ks l ∧ y = .int m ∧ valD ks l (Sum.inl m : Key) = some d ∧ k d) ∨ (∃ ks l ns d, x = .dit ks l ∧ y = .stn ns ∧ valD ks l (ns.map (Sum.inl : Int → Key)) = some d ∧ k d)
theorem we_dget {ta tb : TE} {k : D → Prop} (h : WB M ta ρ fun x => WB M tb ρ fun y => DGt M x y k) : WE M (tDGet ta tb) ρ k := fun σ F H Q e f =>
  h σ F H _ e fun x d F1 H1 x1 r1 h1 => h1 σ F1 H1 _ (e.step x1) fun y d2 F2 H2 x2 r2 h2 => by
    rcases h2 with ⟨ks, l, s, d, rfl, rfl, hv, q⟩ | ⟨ks, l, s, d, rfl, rfl, hv, q⟩ | ⟨ks, l, ns, d, rfl, rfl, hv, q⟩
    · cases r2.str
      obtain ⟨p, vs, rfl, h3, h4, h5⟩ := (r1.step x2).dic x2.gd
      obtain ⟨v, h6, h7⟩ := valD_RA h5 hv
      exact ⟨p, v, rfl, h6 ▸ DGet.k (k := Sum.inr s) h3, f _ _ F2 H2 (x1.trans x2) h7 q⟩
    · cases r2.int
      obtain ⟨p, vs, rfl, h3, h4, h5⟩ := (r1.step x2).dic x2.gd
      obtain ⟨v, h6, h7⟩ := valD_RA h5 hv
      exact ⟨p, v, rfl, h6 ▸ DGet.k (k := Sum.inl s) h3, f _ _ F2 H2 (x1.trans x2) h7 q⟩
    · obtain ⟨b, rfl, hb⟩ := r2.stn
      obtain ⟨p, vs, rfl, h3, h4, h5⟩ := (r1.step x2).dit x2.gd
      obtain ⟨v, h6, h7⟩ := valD_RA h5 hv
      exact ⟨p, v, rfl, h6 ▸ DGet.t (k := ns.map Sum.inl) h3 (by rw [List.map_map]; exact x2.gd.sub _ _ hb), f _ _ F2 H2 (x1.trans x2) h7 q⟩
theorem dg_S {ks : List Key} {l : List D} {s : Str} {d : D} {k : D → Prop} (h : valD ks l (Sum.inr s : Key) = some d) (q : k d) : DGt M (.dic ks l) (.str s) k := .inl ⟨ks, l, s, d, rfl, rfl, h, q⟩
theorem dg_hard {B : BD} {k : D → Prop} (q : k (.lst (B.hard.map D.int))) : DGt M (modelD B) (.str "hard") k := dg_S rfl q
theorem dg_places {B : BD} {k : D → Prop} (q : k (.int B.places)) : DGt M (modelD B) (.str "places") k := dg_S rfl q
theorem dg_told {B : BD} {k : D → Prop} (q : k (toldX B)) : DGt M (modelD B) (.str "told") k := dg_S rfl q
theorem dg_heavy {B : BD} {k : D → Prop} (q : k (.lst (B.heavy.map D.int))) : DGt M (modelD B) (.str "heavy") k := dg_S rfl q
theorem dg_meets {B : BD} {k : D → Prop} (q : k (meetsD B)) : DGt M (modelD B) (.str "meets") k := dg_S rfl q
theorem snd_cons (p : Str × Nat) (l : List (Str × Nat)) : List.map (fun x : Str × Nat => x.2) (p :: l) = p.2 :: List.map (fun x => x.2) l := rfl
theorem snd_nil : List.map (fun x : Str × Nat => x.2) [] = [] := rfl
end
end G

namespace G
open PySem PySem.Spec PyProof.Rows L2
/-! ## dicts by data -/
section
variable {κ : Type} [DecidableEq κ]
def hasK (ks : List κ) (x : κ) : Bool := decide (x ∈ ks)
def putKs (ks : List κ) (x : κ) : List κ := if x ∈ ks then ks else ks ++ [x]
def putDs {α : Type} (ks : List κ) (l : List α) (x : κ) (d : α) : List α := if x ∈ ks then List.zipWith (fun q y => if q = x then d else y) ks l else l ++ [d]
theorem any_key (x : κ) : ∀ (ks : List κ) (vs : List V), ks.length = vs.length → ((ks.zip vs).any fun kv => decide (kv.1 = x)) = decide (x ∈ ks)
  | [], [], _ => rfl
  | [], _ :: _, h => by simp at h
  | _ :: _, [], h => by simp at h
  | q :: ks, v :: vs, h => by
    rw [List.zip_cons_cons, List.any_cons, any_key x ks vs (by simpa using h)]
    by_cases z : q = x
    · subst z; simp
    · simp [z, Ne.symm z]
theorem putK_zip (ks : List κ) (vs : List V) (x : κ) (v : V) (h : ks.length = vs.length) : putK (ks.zip vs) x v = (putKs ks x).zip (putDs ks vs x v) := by
  unfold putK putKs putDs
  rw [any_key x ks vs h]
  by_cases m : x ∈ ks
  · rw [decide_eq_true m, if_pos rfl, if_pos m, if_pos m]
    clear m
    induction ks generalizing vs with
    | nil => rfl
    | cons q ks ih =>
      cases vs with
      | nil => simp at h
      | cons y vs =>
        rw [List.zip_cons_cons, List.map_cons, List.zipWith_cons_cons, List.zip_cons_cons, ih vs (by simpa using h)]
        by_cases z : q = x
        · simp [z]
        · simp [z]
  · rw [decide_eq_false m, if_neg (by decide), if_neg m, if_neg m, List.zip_append h]
    rfl
theorem putKs_len {α : Type} (ks : List κ) (l : List α) (x : κ) (d : α) (h : ks.length = l.length) : (putKs ks x).length = (putDs ks l x d).length := by
  unfold putKs putDs
  by_cases m : x ∈ ks
  · rw [if_pos m, if_pos m]
    simp
    omega
  · rw [if_neg m, if_neg m]
    simp [h]
theorem valV_zip_isSome (x : κ) (ks : List κ) (vs : List V) (h : ks.length = vs.length) : (valV (ks.zip vs) x).isSome = hasK ks x := by
  rw [← valV_any, any_key x ks vs h]
  rfl
end
section
variable {M : Cm}
theorem RL.put {κ : Type} [DecidableEq κ] {F : Hp} {x : κ} {v : V} {d : D} (r : RV M F v d) : ∀ {ks : List κ} {vs : List V} {l : List D}, RL M F vs l → RL M F (putDs ks vs x v) (putDs ks l x d) := fun {ks vs l} h => by
  unfold putDs
  by_cases m : x ∈ ks
  · rw [if_pos m, if_pos m]
    clear m
    induction ks generalizing vs l with
    | nil => cases h <;> exact .nil
    | cons q ks ih =>
      cases h with
      | nil => exact .nil
      | cons a b =>
        rw [List.zipWith_cons_cons, List.zipWith_cons_cons]
        refine .cons ?_ (ih b)
        by_cases z : q = x
        · rw [if_pos z, if_pos z]; exact r
        · rw [if_neg z, if_neg z]; exact a
  · rw [if_neg m, if_neg m]
    exact h.app (.cons r .nil)
end
section
variable {M : Cm} {ρ : Rho} {k : D → Prop} {nx bk ct : Rho → Prop} {rt : Sl → Rho → Prop} {ta tb te ty td tv : TE} {tr : TA} {i : Nat} {d : D} {l : List D}
/-- new dicts of one's own -/
def WOK (M : Cm) (t : TE) (ρ : Rho) (k : List Key → List D → Prop) : Prop := ∀ σ F H Q, Fr M ρ σ F H → (∀ p ks vs l F' H', XM M F H F' H' → Dl M.st H' p = some (.dK (ks.zip vs)) → ks.length = vs.length → F' p = none → Dl M.st H p = none → RL M F' vs l → k ks l → Q (.ref p) H') → t σ H Q
def WOT (M : Cm) (t : TE) (ρ : Rho) (k : List (List Key) → List D → Prop) : Prop := ∀ σ F H Q, Fr M ρ σ F H → (∀ p ks vs l F' H', XM M F H F' H' → Dl M.st H' p = some (.dT (ks.zip vs)) → ks.length = vs.length → F' p = none → Dl M.st H p = none → RL M F' vs l → k ks l → Q (.ref p) H') → t σ H Q
theorem WOK.we (h : WOK M te ρ fun ks l => k (.dic ks l)) : WE M te ρ k := fun σ F H Q e q => h σ F H Q e fun p ks vs l F' H' x h1 h5 h2 h3 h4 => q _ _ (upd F' p (.dK (ks.zip vs))) H' (x.frz h3 h2 h1) (.dic upd_same h5 (h4.mono (same_upd h2)))
theorem WOT.we (h : WOT M te ρ fun ks l => k (.dit ks l)) : WE M te ρ k := fun σ F H Q e q => h σ F H Q e fun p ks vs l F' H' x h1 h5 h2 h3 h4 => q _ _ (upd F' p (.dT (ks.zip vs))) H' (x.frz h3 h2 h1) (.dit upd_same h5 (h4.mono (same_upd h2)))
theorem ws_setOwnK (h : WOK M te ρ fun ks l => nx (ρ.set i (some (.ownK ks l)))) : WS M (tAsgO te i) ρ nx rt bk ct := fun σ F H E e f1 f2 f3 f4 => h σ F H _ e fun p ks vs l F1 H1 x1 h1 h5 h2 h3 h4 q => by
  have e1 := e.step x1
  refine f1 _ _ F1 H1 x1.ff (e1.putO (i := i) (v := .ref p) (s0 := .ownK ks l) ⟨p, vs, rfl, h1, h5, h2, e.x.ext.hh.free h3, h4⟩ fun j s hj hs m z => ?_) q
  obtain ⟨v, q1, q2⟩ := e.each j s hs
  obtain ⟨p', o, rfl, h5, _⟩ := q2.mine_at m
  rw [z] at q1
  cases q1
  rw [h3] at h5
  cases h5
theorem ws_setOwnT (h : WOT M te ρ fun ks l => nx (ρ.set i (some (.ownT ks l)))) : WS M (tAsgO te i) ρ nx rt bk ct := fun σ F H E e f1 f2 f3 f4 => h σ F H _ e fun p ks vs l F1 H1 x1 h1 h5 h2 h3 h4 q => by
  have e1 := e.step x1
  refine f1 _ _ F1 H1 x1.ff (e1.putO (i := i) (v := .ref p) (s0 := .ownT ks l) ⟨p, vs, rfl, h1, h5, h2, e.x.ext.hh.free h3, h4⟩ fun j s hj hs m z => ?_) q
  obtain ⟨v, q1, q2⟩ := e.each j s hs
  obtain ⟨p', o, rfl, h5, _⟩ := q2.mine_at m
  rw [z] at q1
  cases q1
  rw [h3] at h5
  cases h5
theorem wok_new {kk : List Key → List D → Prop} (h : kk [] []) : WOK M tDNewK ρ kk := fun σ F H Q e f p np =>
  f p [] [] [] F _ ((XE.refl e.gd).mut np) (Dl_at (e.gd.ok.ne np)) rfl (sub_none e.gd.sub np) (Dl_none np) .nil h
theorem wot_new {kk : List (List Key) → List D → Prop} (h : kk [] []) : WOT M tDNewT ρ kk := fun σ F H Q e f p np =>
  f p [] [] [] F _ ((XE.refl e.gd).mut np) (Dl_at (e.gd.ok.ne np)) rfl (sub_none e.gd.sub np) (Dl_none np) .nil h
/-- a key -/
def keyD : Key → D
  | .inl m => .int m
  | .inr s => .str s
theorem RB.key {F H : Hp} {v : V} {x : Key} (h : RB M F H v (keyD x)) : v = kV x := by
  cases x with
  | inl m => exact h.int
  | inr s => exact h.str
/-- {e: f} -/
theorem wok_disp1 {tk : TE} {kk : List Key → List D → Prop} (h : WE M tk ρ fun y => ∃ x, y = keyD x ∧ WE M tv ρ fun d => kk [x] [d]) : WOK M (tDisp [(tk, tv)]) ρ kk := fun σ F H Q e f p np => by
  have g := e.gd
  have x0 : XM M F H F (upd H p (.dK [])) := (XE.refl g).mut np
  have hp0 : Dl M.st (upd H p (.dK [])) p = some (.dK []) := Dl_at (g.ok.ne np)
  refine h σ F _ _ (e.step x0) fun y dy F1 H1 x1 r1 ⟨x, z, h1⟩ => h1 σ F1 H1 _ (e.step (x0.trans x1)) fun v d F2 H2 x2 r2 q => ?_
  subst z
  have x12 := x1.trans x2
  have hp2 := x12.ext.hh _ _ hp0
  have fp2 := x12.ext.fr p _ hp0 rfl (sub_none g.sub np)
  have ey : y = kV x := (show RB M F1 H1 y (keyD x) from .inl r1).key
  refine ⟨Dl_sub _ _ hp2, [(x, v)], by rw [ey]; rfl, by show 1 ≤ 15; decide, ?_⟩
  refine f p [x] [v] [d] F2 _ ((x0.trans x12).chg hp2 (Dl_none np) fp2) ?_ rfl fp2 (Dl_none np) (.cons r2 .nil) q
  rw [Dl_pt (Dl_ne hp2)]
  simp [mergeK, putK, noO]
/-- y in d -/
def DIn (M : Cm) (y x : D) (k : Bool → Prop) : Prop := (∃ c ks l, y = keyD c ∧ x = .dic ks l ∧ k (hasK ks c)) ∨ (∃ ns ks l, y = .stn ns ∧ x = .dit ks l ∧ k (hasK ks (ns.map (Sum.inl : Int → Key))))
theorem din_get {F H : Hp} {v u : V} {y x : D} {k : Bool → Prop} (g : Gd M.K M.st F H) (rv : RB M F H v y) (ru : RB M F H u x) (h : DIn M y x k) : ∃ a o, u = .ref a ∧ DGet H a v o ∧ k o.isSome := by
  rcases h with ⟨c, ks, l, rfl, rfl, q⟩ | ⟨ns, ks, l, rfl, rfl, q⟩
  · cases rv.key
    obtain ⟨p, vs, rfl, h3, h4, h5⟩ := ru.dic g
    refine ⟨p, _, rfl, DGet.k (k := c) h3, ?_⟩
    rw [valV_zip_isSome c ks vs h4]
    exact q
  · obtain ⟨b, rfl, hb⟩ := rv.stn
    obtain ⟨p, vs, rfl, h3, h4, h5⟩ := ru.dit g
    refine ⟨p, _, rfl, DGet.t (k := ns.map Sum.inl) h3 (by rw [List.map_map]; exact g.sub _ _ hb), ?_⟩
    rw [valV_zip_isSome _ ks vs h4]
    exact q
theorem we_din (h : WB M ty ρ fun y => WB M td ρ fun x => DIn M y x fun b => k (.bl b)) : WE M (tDIn ty td) ρ k := fun σ F H Q e f =>
  h σ F H _ e fun v y F1 H1 x1 r1 h1 => h1 σ F1 H1 _ (e.step x1) fun u x F2 H2 x2 r2 h2 => by
    obtain ⟨a, o, e1, e2, q⟩ := din_get x2.gd (r1.step x2) r2 h2
    exact ⟨a, o, e1, e2, f _ _ F2 H2 (x1.trans x2) (.bl _) q⟩
theorem we_dnotin (h : WB M ty ρ fun y => WB M td ρ fun x => DIn M y x fun b => k (.bl (!b))) : WE M (tDNotIn ty td) ρ k := fun σ F H Q e f =>
  h σ F H _ e fun v y F1 H1 x1 r1 h1 => h1 σ F1 H1 _ (e.step x1) fun u x F2 H2 x2 r2 h2 => by
    obtain ⟨a, o, e1, e2, q⟩ := din_get x2.gd (r1.step x2) r2 h2
    exact ⟨a, o, e1, e2, f _ _ F2 H2 (x1.trans x2) (.bl _) q⟩
theorem din_I {m : Int} {ks : List Key} {kb : Bool → Prop} (q : kb (hasK ks (Sum.inl m : Key))) : DIn M (.int m) (.dic ks l) kb := .inl ⟨.inl m, ks, l, rfl, rfl, q⟩
theorem din_S {m : Str} {ks : List Key} {kb : Bool → Prop} (q : kb (hasK ks (Sum.inr m : Key))) : DIn M (.str m) (.dic ks l) kb := .inl ⟨.inr m, ks, l, rfl, rfl, q⟩
theorem din_T {ns : List Int} {ks : List (List Key)} {kb : Bool → Prop} (q : kb (hasK ks (ns.map (Sum.inl : Int → Key)))) : DIn M (.stn ns) (.dit ks l) kb := .inr ⟨ns, ks, l, rfl, rfl, q⟩
/-- d[y] = v, d one's own -/
theorem ws_dput {ks : List Key} (hx : ρ[i]? = some (some (.ownK ks l))) (h : WE M tv ρ fun d => WE M ty ρ fun y => ∃ c, y = keyD c ∧ ks.length < 100000 ∧ nx (ρ.set i (some (.ownK (putKs ks c) (putDs ks l c d))))) : WS M (sDPut (tVar i) ty tv) ρ nx rt bk ct := fun σ F H E e f1 f2 f3 f4 => by
  refine h σ F H _ e fun v d F1 H1 x1 r1 h1 => ?_
  have e1 := e.step x1
  obtain ⟨v', h2, p, vs, rfl, h3, h9, h4, h5, h6⟩ := e1.each i _ hx
  refine ⟨_, h2, h1 σ F1 H1 _ e1 fun w d2 F2 H2 x2 r2 ⟨c, z, hl, q⟩ => ?_⟩
  subst z
  have ew : w = kV c := (show RB M F2 H2 w (keyD c) from .inl r2).key
  subst ew
  have e2 := e1.step x2
  have h3' := x2.ext.hh _ _ h3
  have h4' := x2.ext.fr p _ h3 rfl h4
  have h6' := RA.mono x2.ff h6
  refine ⟨p, _, rfl, DPut.k (k := c) (Dl_sub _ _ h3') (Nat.lt_of_lt_of_le (show (ks.zip vs).length < 100000 by rw [List.length_zip]; omega) (by decide)), ?_⟩
  rw [putK_zip ks vs c v h9]
  exact f1 _ σ F2 _ (x1.trans x2).ff (e2.chg hx rfl h2 h3' h4' h5 (s1 := .ownK (putKs ks c) (putDs ks l c d)) ⟨p, _, rfl, Dl_at (Dl_ne h3'), putKs_len _ _ _ _ h9, h4', h5, RL.put (r1.mono x2.ff) h6'⟩) q
theorem ws_dputT {ks : List (List Key)} (hx : ρ[i]? = some (some (.ownT ks l))) (h : WE M tv ρ fun d => WE M ty ρ fun y => ∃ ns : List Int, y = .stn ns ∧ ks.length < 100000 ∧ nx (ρ.set i (some (.ownT (putKs ks (ns.map (Sum.inl : Int → Key))) (putDs ks l (ns.map (Sum.inl : Int → Key)) d))))) : WS M (sDPut (tVar i) ty tv) ρ nx rt bk ct := fun σ F H E e f1 f2 f3 f4 => by
  refine h σ F H _ e fun v d F1 H1 x1 r1 h1 => ?_
  have e1 := e.step x1
  obtain ⟨v', h2, p, vs, rfl, h3, h9, h4, h5, h6⟩ := e1.each i _ hx
  refine ⟨_, h2, h1 σ F1 H1 _ e1 fun w d2 F2 H2 x2 r2 ⟨ns, z, hl, q⟩ => ?_⟩
  subst z
  obtain ⟨b, rfl, hb⟩ := (show RB M F2 H2 w (.stn ns) from .inl r2).stn
  have e2 := e1.step x2
  have h3' := x2.ext.hh _ _ h3
  have h4' := x2.ext.fr p _ h3 rfl h4
  have h6' := RA.mono x2.ff h6
  refine ⟨p, _, rfl, DPut.t (k := ns.map Sum.inl) (Dl_sub _ _ h3') (by rw [List.map_map]; exact x2.gd.sub _ _ hb) (Nat.lt_of_lt_of_le (show (ks.zip vs).length < 100000 by rw [List.length_zip]; omega) (by decide)), ?_⟩
  rw [putK_zip ks vs _ v h9]
  exact f1 _ σ F2 _ (x1.trans x2).ff (e2.chg hx rfl h2 h3' h4' h5 (s1 := .ownT _ _) ⟨p, _, rfl, Dl_at (Dl_ne h3'), putKs_len _ _ _ _ h9, h4', h5, RL.put (r1.mono x2.ff) h6'⟩) q
end
end G

namespace G
open PySem PySem.Spec PyProof.Rows L2
section
variable {X : Cx} {K : PySem.W.Frag}
/-- d.update(e) -/
def rUpd : V → List V → Hp → VK → Prop := fun x vs H Q => ∃ a b kvs more, x = .ref a ∧ vs = [.ref b] ∧ a ≠ b ∧ H a = some (.dK kvs) ∧ H b = some (.dK more) ∧ kvs.length + more.length ≤ 100000 ∧ Q .non (upd H a (.dK (mergeK kvs more)))
def rSortedDI : List V → Hp → VK → Prop := fun xs H Q => ∃ (a : Addr) (kvs : List (Key × V)) (ks : List Int), xs = [.ref a] ∧ Rd H a (.dK kvs) ∧ kvs.map (·.1) = ks.map Sum.inl ∧ ks.length < 64 ∧
    ∀ (ys : List Int) (p : Addr), ys.Perm ks → ys.Pairwise (· ≤ ·) → H p = none → Q (.ref p) (upd H p (.lst (ys.map V.int)))
abbrev rSortedV (K : PySem.W.Frag) : List V → Hp → VK → Prop := fun vs H Q => rSortedU K vs H Q ∨ rSortedDI vs H Q
def rListT : List V → Hp → VK → Prop := fun xs H Q => ∃ d kvs, xs = [V.ref d] ∧ Rd H d (.dT kvs) ∧ ∀ p bs, H p = none → IsKeys H kvs bs → Q (.ref p) (upd H p (.lst (bs.map V.ref)))
abbrev rListV (K : PySem.W.Frag) : List V → Hp → VK → Prop := fun vs H Q => rListOf K vs H Q ∨ rListD vs H Q ∨ rListT vs H Q
def rLenD : List V → Hp → VK → Prop := fun xs H Q => ∃ a kvs, xs = [V.ref a] ∧ Rd H a (.dK kvs) ∧ Q (.int kvs.length) H
abbrev rLenV (K : PySem.W.Frag) : List V → Hp → VK → Prop := fun vs H Q => rLen K vs H Q ∨ rLenD vs H Q ∨ rLenT vs H Q
end
section
variable {M : Cm} {ρ : Rho} {k : D → Prop} {ka : List D → Prop} {nx bk ct : Rho → Prop} {rt : Sl → Rho → Prop} {ta tb te ty td tv tk : TE} {tr : TA} {i : Nat} {d : D} {l : List D}
theorem zip_fst {κ : Type} : ∀ (ks : List κ) (vs : List V), ks.length = vs.length → (ks.zip vs).map (·.1) = ks
  | [], [], _ => rfl
  | [], _ :: _, h => by simp at h
  | _ :: _, [], h => by simp at h
  | q :: ks, v :: vs, h => by rw [List.zip_cons_cons, List.map_cons, zip_fst ks vs (by simpa using h)]
theorem cr_lenDK {ks : List Key} (q : k (.int ks.length)) : CR M (rLenV M.K) [.dic ks l] k := fun F H vs Q g rr f => by
  obtain ⟨v, rfl, r⟩ := rbs1 rr
  obtain ⟨p, us, rfl, h1, h2, h3⟩ := r.dic g
  refine .inr (.inl ⟨p, _, rfl, .inl h1, ?_⟩)
  rw [List.length_zip, ← h2, Nat.min_self]
  exact f _ _ F H (XE.refl g) (.int _) q
theorem cr_lenDT {ks : List (List Key)} (q : k (.int ks.length)) : CR M (rLenV M.K) [.dit ks l] k := fun F H vs Q g rr f => by
  obtain ⟨v, rfl, r⟩ := rbs1 rr
  obtain ⟨p, us, rfl, h1, h2, h3⟩ := r.dit g
  refine .inr (.inr ⟨p, _, rfl, h1, ?_⟩)
  rw [List.length_zip, ← h2, Nat.min_self]
  exact f _ _ F H (XE.refl g) (.int _) q
/-! d.update(e) -/
def mergeKD : List Key → List D → List Key → List D → List Key × List D
  | ks, l, c :: cs, d :: ds => mergeKD (putKs ks c) (putDs ks l c d) cs ds
  | ks, l, _, _ => (ks, l)
theorem merge_RL {F : Hp} : ∀ {cs : List Key} {us : List V} {ds : List D} {ks : List Key} {vs : List V} {l : List D}, ks.length = vs.length → cs.length = us.length → RL M F vs l → RL M F us ds →
    ∃ vs', mergeK (ks.zip vs) (cs.zip us) = (mergeKD ks l cs ds).1.zip vs' ∧ (mergeKD ks l cs ds).1.length = vs'.length ∧ RL M F vs' (mergeKD ks l cs ds).2
  | [], _, ds, ks, vs, l, h1, _, r1, _ => ⟨vs, by simp [mergeK, mergeKD], by simp [mergeKD, h1], by simp [mergeKD]; exact r1⟩
  | c :: cs, [], _, _, _, _, _, h, _, _ => by simp at h
  | c :: cs, u :: us, ds, ks, vs, l, h1, h2, r1, r2 => by
    cases r2 with
    | @cons _ _ d ds ra rb =>
      have := merge_RL (cs := cs) (us := us) (ds := ds) (ks := putKs ks c) (vs := putDs ks vs c u) (l := putDs ks l c d) (putKs_len _ _ _ _ h1) (by simpa using h2) (RL.put ra r1) rb
      obtain ⟨vs', e1, e2, e3⟩ := this
      refine ⟨vs', ?_, e2, e3⟩
      rw [List.zip_cons_cons]
      show mergeK (putK (ks.zip vs) c u) (cs.zip us) = _
      rw [putK_zip _ _ _ _ h1]
      exact e1
theorem ws_upd {ks : List Key} (hx : ρ[i]? = some (some (.ownK ks l))) (h : WA M tr ρ fun ds => ∃ cs es, ds = [.dic cs es] ∧ ks.length + cs.length ≤ 100000 ∧ nx (ρ.set i (some (.ownK (mergeKD ks l cs es).1 (mergeKD ks l cs es).2)))) : WS M (tDrop (tBM M.K "dict" rUpd (tVar i) tr)) ρ nx rt bk ct := fun σ F H E e f1 f2 f3 f4 => by
  obtain ⟨v, h1, p, vs, rfl, h2, h6, h3, h4, h5⟩ := e.each i _ hx
  refine ⟨_, h1, .inr (.inr (.inl ⟨rfl, .inl ⟨_, Dl_sub _ _ h2⟩⟩)), h σ F H _ e fun us ds F1 H1 x1 r1 ⟨cs, es, z, hl, q⟩ => ?_⟩
  subst z
  have e1 := e.step x1
  have h2' := x1.ext.hh _ _ h2
  have h3' := x1.ext.fr p _ h2 rfl h3
  have h5' := RA.mono x1.ff h5
  cases r1 with
  | cons ra rb =>
    cases rb
    cases ra with
    | @dic b _ ws _ d1 d2 d3 =>
      obtain ⟨vs', m1, m2, m3⟩ := merge_RL (ks := ks) h6 d2 h5' d3
      refine ⟨p, b, _, _, rfl, rfl, fun z => ?_, Dl_sub _ _ h2', x1.gd.sub _ _ d1, by rw [List.length_zip, List.length_zip]; omega, ?_⟩
      · subst z
        rw [h3'] at d1
        cases d1
      · rw [m1]
        exact f1 _ σ F1 _ x1.ff (e1.chg hx rfl h1 h2' h3' h4 (s1 := .ownK _ _) ⟨p, vs', rfl, Dl_at (Dl_ne h2'), m2, h3', h4, m3⟩) q
/-! {e: f for x in xs} -/
end
end G

namespace G
open PySem PySem.Spec PyProof.Rows L2
/-- {(..): e}, the key a tuple -/
def tDispT1 (tk tv : TE) : TE := fun σ H Q => ∀ p, H p = none → tk σ (upd H p (.dT [])) fun y H1 => tv σ H1 fun v H2 => H2 p = some (.dT []) ∧ ∃ b k, y = .ref b ∧ H2 b = some (.tup (k.map kV)) ∧ Q (.ref p) (upd H2 p (.dT [(k, v)]))
section
variable {M : Cm} {ρ : Rho} {tk tv : TE}
theorem wot_disp1 {kk : List (List Key) → List D → Prop} (h : WE M tk ρ fun y => ∃ ns : List Int, y = .stn ns ∧ WE M tv ρ fun d => kk [ns.map (Sum.inl : Int → Key)] [d]) : WOT M (tDispT1 tk tv) ρ kk := fun σ F H Q e f p np => by
  have g := e.gd
  have x0 : XM M F H F (upd H p (.dT [])) := (XE.refl g).mut np
  have hp0 : Dl M.st (upd H p (.dT [])) p = some (.dT []) := Dl_at (g.ok.ne np)
  refine h σ F _ _ (e.step x0) fun y dy F1 H1 x1 r1 ⟨ns, z, h1⟩ => h1 σ F1 H1 _ (e.step (x0.trans x1)) fun v d F2 H2 x2 r2 q => ?_
  subst z
  have x12 := x1.trans x2
  have hp2 := x12.ext.hh _ _ hp0
  have fp2 := x12.ext.fr p _ hp0 rfl (sub_none g.sub np)
  obtain ⟨b, rfl, hb⟩ := (show RB M F1 H1 y (.stn ns) from .inl r1).stn
  refine ⟨Dl_sub _ _ hp2, b, ns.map Sum.inl, rfl, by rw [List.map_map]; exact x2.gd.sub _ _ (x2.ff _ _ hb), ?_⟩
  exact f p [ns.map Sum.inl] [v] [d] F2 _ ((x0.trans x12).chg hp2 (Dl_none np) fp2) (Dl_at (Dl_ne hp2)) rfl fp2 (Dl_none np) (.cons r2 .nil) q
end
/-- a tuple that is a key -/
def tTupK (tr : TA) : TE := tTup tr
theorem we_tupK2 {M : Cm} {ρ : Rho} {k : D → Prop} {ta tb : TE} (h : WE M ta ρ fun d => ∃ a : Int, d = .int a ∧ WE M tb ρ fun e => ∃ b : Int, e = .int b ∧ k (.stn [a, b])) : WE M (tTupK (tCons ta (tCons tb tNil))) ρ k := fun σ F H Q e f => by
  refine h σ F H _ e fun v d F1 H1 x1 r1 ⟨a, z, h1⟩ => h1 σ F1 H1 _ (e.step x1) fun u d2 F2 H2 x2 r2 ⟨b, z2, q⟩ => ?_
  subst z z2
  cases r1
  cases r2
  exact ⟨by show 2 ≤ sizeLine; decide, fun p np => f _ _ _ _ ((x1.trans x2).new np) (.stn upd_same) q⟩
/-! len of a bench -/
abbrev rLenB (K : PySem.W.Frag) (C : Addr) (sp : Sp) : List V → Hp → VK → Prop := fun vs H Q => rLen K vs H Q ∨ rOwnLen C sp vs H Q
def cLen : Ct := fun ds k => ∃ B, ds = [.bench B] ∧ k (.int B.heavy.length)
/-! ### a dict of lists that grow -/
/-- at p a dict of lists of ints, of one's own: the lists at qs, as ls tells -/
structure Nest (st : Option Addr) (F H0 H : Hp) (p : Addr) (qs : List Addr) (ls : List (List Int)) : Prop where
  len : qs.length = ls.length
  dp : Dl st H p = some (.dK (((List.range qs.length).map fun (i : Nat) => (Sum.inl (i : Int) : Key)).zip (qs.map V.ref)))
  fp : F p = none
  hp : Dl st H0 p = none
  nd : qs.Nodup
  np : p ∉ qs
  each : ∀ (i : Nat) q l, qs[i]? = some q → ls[i]? = some l → Dl st H q = some (.lst (l.map V.int)) ∧ F q = none ∧ Dl st H0 q = none
theorem nodup_ne {qs : List Addr} {i j : Nat} {a b : Addr} (nd : qs.Nodup) (h1 : qs[i]? = some a) (h2 : qs[j]? = some b) (ne : i ≠ j) : a ≠ b := fun z => by
  subst z
  have i1 := (List.getElem?_eq_some_iff.mp h1)
  have i2 := (List.getElem?_eq_some_iff.mp h2)
  obtain ⟨a1, e1⟩ := i1
  obtain ⟨a2, e2⟩ := i2
  have key := List.pairwise_iff_getElem.mp nd
  rcases Nat.lt_or_gt_of_ne ne with h | h
  · exact key i j a1 a2 h (e1.trans e2.symm)
  · exact key j i a2 a1 h (e2.trans e1.symm)
theorem Nest.step {K : PySem.W.Frag} {st : Option Addr} {F H0 H F' H' : Hp} {p : Addr} {qs : List Addr} {ls : List (List Int)} (n : Nest st F H0 H p qs ls) (x : XE K st F H F' H') : Nest st F' H0 H' p qs ls :=
  ⟨n.len, x.ext.hh _ _ n.dp, x.ext.fr p _ n.dp rfl n.fp, n.hp, n.nd, n.np, fun i q l h1 h2 => by
    obtain ⟨a, b, c⟩ := n.each i q l h1 h2
    exact ⟨x.ext.hh _ _ a, x.ext.fr q _ a rfl b, c⟩⟩
/-- one of its lists grows -/
theorem Nest.app {st : Option Addr} {F H0 H : Hp} {p : Addr} {qs : List Addr} {ls : List (List Int)} {i : Nat} {q : Addr} {l l' : List Int} (n : Nest st F H0 H p qs ls) (h1 : qs[i]? = some q) (h2 : ls[i]? = some l) : Nest st F H0 (upd H q (.lst (l'.map V.int))) p qs (ls.set i l') := by
  obtain ⟨a, b, c⟩ := n.each i q l h1 h2
  have ne := Dl_ne a
  have hi := (List.getElem?_eq_some_iff.mp h2).1
  refine ⟨by rw [List.length_set]; exact n.len, ?_, n.fp, n.hp, n.nd, n.np, fun j q' m h3 h4 => ?_⟩
  · rw [Dl_off (fun z => n.np (by rw [z]; exact List.mem_of_getElem? h1))]
    exact n.dp
  · by_cases z : i = j
    · subst z
      rw [h1] at h3
      cases h3
      rw [List.getElem?_set_self hi] at h4
      cases h4
      exact ⟨by exact Dl_at ne, b, c⟩
    · rw [List.getElem?_set_ne z] at h4
      obtain ⟨a', b', c'⟩ := n.each j q' m h3 h4
      exact ⟨by rw [Dl_off (fun w => nodup_ne n.nd h1 h3 z w.symm)]; exact a', b', c'⟩
theorem Nest.get {st : Option Addr} {F H0 H : Hp} {p : Addr} {qs : List Addr} {ls : List (List Int)} {i : Nat} {q : Addr} (n : Nest st F H0 H p qs ls) (h1 : qs[i]? = some q) : DGet H p (.int (i : Int)) (some (.ref q)) := by
  have hi := (List.getElem?_eq_some_iff.mp h1).1
  have : valV (((List.range qs.length).map fun (i : Nat) => (Sum.inl (i : Int) : Key)).zip (qs.map V.ref)) (Sum.inl (i : Int)) = some (.ref q) := by
    refine valV_at (i := i) ?_ ?_
    · rw [zip_fst _ _ (by simp)]
      exact List.pairwise_map.mpr (List.nodup_range.imp fun h z => h (by have := Sum.inl.inj z; omega))
    · rw [List.getElem?_zip_eq_some]
      exact ⟨by rw [List.getElem?_map, List.getElem?_range hi]; rfl, by rw [List.getElem?_map, h1]; rfl⟩
  rw [← this]
  exact DGet.k (k := Sum.inl (i : Int)) (Dl_sub _ _ n.dp)
/-- all of it frozen -/
theorem Nest.frz {M : Cm} {F H0 H : Hp} {p : Addr} {qs : List Addr} {ls : List (List Int)} (n : Nest M.st F H0 H p qs ls) (x : XE M.K M.st M.F0 H0 F H) : ∃ F', XE M.K M.st M.F0 H0 F' H ∧ RV M F' (.ref p) (.dic ((List.range qs.length).map fun (i : Nat) => (Sum.inl (i : Int) : Key)) (ls.map fun l => .lst (l.map D.int))) := by
  have key : ∀ (qs : List Addr) (ls : List (List Int)) (F1 : Hp), qs.length = ls.length → qs.Nodup → XE M.K M.st M.F0 H0 F1 H → F1 p = none → p ∉ qs → (∀ (i : Nat) q l, qs[i]? = some q → ls[i]? = some l → Dl M.st H q = some (.lst (l.map V.int)) ∧ F1 q = none ∧ Dl M.st H0 q = none) →
      ∃ F2, XE M.K M.st M.F0 H0 F2 H ∧ F2 p = none ∧ Same F1 F2 ∧ RL M F2 (qs.map V.ref) (ls.map fun l => .lst (l.map D.int)) := by
    intro qs
    induction qs with
    | nil =>
      intro ls F1 hl _ x1 f1 _ _
      cases ls with
      | nil => exact ⟨F1, x1, f1, Same.refl _, .nil⟩
      | cons _ _ => simp at hl
    | cons q qs ih =>
      intro ls F1 hl nd x1 f1 np h
      cases ls with
      | nil => simp at hl
      | cons l ls =>
        obtain ⟨a, b, c⟩ := h 0 q l rfl rfl
        rw [List.nodup_cons] at nd
        have qp : p ≠ q := fun z => np (by rw [z]; exact List.mem_cons_self)
        obtain ⟨F2, x2, f2, s2, r2⟩ := ih ls (upd F1 q (.lst (l.map V.int))) (by simpa using hl) nd.2 (x1.frz c b a) (by rw [upd_ne qp]; exact f1) (fun z => np (List.mem_cons_of_mem _ z)) fun i q' l' h1 h2 => by
          obtain ⟨a', b', c'⟩ := h (i + 1) q' l' (by simpa using h1) (by simpa using h2)
          refine ⟨a', ?_, c'⟩
          rw [upd_ne (fun z => nd.1 (by rw [← z]; exact List.mem_of_getElem? h1))]
          exact b'
        exact ⟨F2, x2, f2, (same_upd b).trans s2, .cons (.lst (.inl (.inl (s2 _ _ upd_same))) (RA.ofInts _)) r2⟩
  obtain ⟨F2, x2, f2, s2, r2⟩ := key qs ls F n.len n.nd x n.fp n.np n.each
  refine ⟨upd F2 p _, x2.frz n.hp f2 n.dp, .dic upd_same (by simp) (r2.mono (same_upd f2))⟩
end G

namespace G
/-! ## tables: keys and values, in order -/
section
variable {κ α : Type} [DecidableEq κ]
def lkp : List κ → List α → κ → Option α
  | q :: ks, d :: l, x => if q = x then some d else lkp ks l x
  | _, _, _ => none
end
section
variable {κ κ' α : Type} [DecidableEq κ] [DecidableEq κ'] {f : κ → κ'} (hf : ∀ a b, f a = f b → a = b)
include hf
end
end G

namespace G
open PySem PySem.Spec PyProof.Rows L2
/-! ## a dict of its own, locked while it is walked; tuples that are asked .index; [::-1] -/
section
variable {M : Cm} {ρ : Rho} {i : Nat} {nx : Rho → Prop} {rt : Sl → Rho → Prop} {bk ct : Rho → Prop} {k : D → Prop} {ka : List D → Prop}
theorem we_dgetL {p : Addr} {o : Obj} {vs : List V} {ks : List Key} {l : List D} {tb : TE} (hkv : ks.length = vs.length) (hi : ρ[i]? = some (some (.lk p (.frz o (.dK (ks.zip vs))) vs l))) (h : WE M tb ρ fun y => DGt M (.dic ks l) y k) : WE M (tDGet (tVar i) tb) ρ k := fun σ F H Q e f => by
  obtain ⟨v, h1, rfl, h2, h3, h4, h5, h6⟩ := e.each i _ hi
  refine ⟨_, h1, h σ F H _ e fun y d2 F2 H2 x2 r2 h2' => ?_⟩
  have g2 := x2.ext.hh _ _ h2
  have g6 := RA.mono x2.ff h6
  rcases h2' with ⟨ks', l', s, d, e1, rfl, hv, q⟩ | ⟨ks', l', s, d, e1, rfl, hv, q⟩ | ⟨ks', l', ns, d, e1, rfl, hv, q⟩
  · cases e1
    cases (show RB M F2 H2 y (.str s) from .inl r2).str
    obtain ⟨v, h7, h8⟩ := valD_RA g6 hv
    exact ⟨p, v, rfl, .inl ⟨_, Sum.inr s, .inr ⟨o, Dl_sub _ _ g2⟩, rfl, h7.symm⟩, f _ _ F2 H2 x2 h8 q⟩
  · cases e1
    cases (show RB M F2 H2 y (.int s) from .inl r2).int
    obtain ⟨v, h7, h8⟩ := valD_RA g6 hv
    exact ⟨p, v, rfl, .inl ⟨_, Sum.inl s, .inr ⟨o, Dl_sub _ _ g2⟩, rfl, h7.symm⟩, f _ _ F2 H2 x2 h8 q⟩
  · cases e1
/-- t.index(n) -/
theorem we_idx {te tb : TE} (h : WE M te ρ fun d => ∃ ns, d = .ixt ns ∧ WE M tb ρ fun y => ∃ m : Int, y = .int m ∧ m ∈ ns ∧ k (.int ((ns.idxOf m : Nat) : Int))) : WE M (tBMT (rTupIx M.K) te (tCons tb tNil)) ρ k := fun σ F H Q e f => by
  refine h σ F H _ e fun v d F1 H1 x1 r1 ⟨ns, z, h1⟩ => ?_
  subst z
  obtain ⟨p, ob, rfl, h2, h3⟩ := (show RB M F1 H1 v (.ixt ns) from .inl r1).ixt
  refine ⟨⟨p, ob, _, rfl, x1.gd.sub _ _ h2, h3⟩, ?_⟩
  refine h1 σ F1 H1 _ (e.step x1) fun y d2 F2 H2 x2 r2 ⟨m, z, hm, q⟩ => ?_
  subst z
  cases (show RB M F2 H2 y (.int m) from .inl r2).int
  exact ⟨p, ns, m, rfl, rfl, .inl (.inr ⟨ob, x2.gd.sub _ _ (x2.ff _ _ h2)⟩), hm, f _ _ F2 H2 (x1.trans x2) (.int _) q⟩
theorem cr_tupX {ns : List Int} (q : k (.ixt ns)) : CR M (rTupleF M.K) [.lst (ns.map D.int)] k := fun F H vs Q g rr f => by
  obtain ⟨v, rfl, r⟩ := rbs1 rr
  obtain ⟨p, us, rfl, h1, h2⟩ := r.lst g
  rw [h2.ints] at h1
  exact ⟨p, _, rfl, h1, fun l ob hd hl => f _ _ _ _ ((XE.refl g).new hl) (.ixt upd_same hd) q⟩
theorem RA.rev {K : PySem.W.Frag} {C : Addr} {st : Option Addr} {F : Hp} : ∀ {vs : List V} {ds : List D}, RA K C st F vs ds → RA K C st F vs.reverse ds.reverse
  | _, _, .nil => .nil
  | _, _, .cons h t => by rw [List.reverse_cons, List.reverse_cons]; exact (RA.rev t).app (.cons h .nil)
theorem wo_rev {te : TE} (h : WB M te ρ fun d => ∃ l, d = .lst l ∧ ka l.reverse) : WO M (tRevL M.K te) ρ ka := fun σ F H Q e f => by
  refine h σ F H _ e fun v d F1 H1 x1 r1 ⟨l, z, q⟩ => ?_
  subst z
  obtain ⟨p, vs, rfl, h1, h2⟩ := r1.lst x1.gd
  refine ⟨p, vs, rfl, h1, fun a na => ?_⟩
  have hne := x1.gd.ok.ne na
  exact f a vs.reverse l.reverse F1 _ (x1.mut na) (by exact Dl_at hne) (sub_none x1.gd.sub na) (x1.ext.hh.free (Dl_none na)) h2.rev q
end
end G

namespace G
open PySem PySem.Spec PyProof.Rows L2
section
variable {M : Cm} {ρ : Rho} {k : D → Prop} {ka : List D → Prop} {tr : TA}
/-- range(0, n, c) -/
def rngS (c n : Nat) : List D := (List.range ((n + c - 1) / c)).map fun (i : Nat) => D.int ((i * c : Nat) : Int)
end
end G

namespace G
open PySem PySem.Spec PyProof.Rows L2
section
variable {M : Cm} {ρ : Rho} {k : D → Prop} {ka : List D → Prop} {nx bk ct : Rho → Prop} {rt : Sl → Rho → Prop} {tr : TA} {i j : Nat} {l m : List D}
end
end G

namespace G
open PySem PySem.Spec PyProof.Rows L2
/-! ### a list of lists, of one's own -/
def oW : Option Int → V
  | some n => .int n
  | none => .non
def oDD : Option Int → D
  | some n => .int n
  | none => .non
theorem oD_R {K : PySem.W.Frag} {C : Addr} {st : Option Addr} {F : Hp} (o : Option Int) : R K C st F (oW o) (oDD o) := by
  cases o with
  | none => exact .non
  | some n => exact .int n
theorem oD_RA {K : PySem.W.Frag} {C : Addr} {st : Option Addr} {F : Hp} : ∀ l : List (Option Int), RA K C st F (l.map oW) (l.map oDD)
  | [] => .nil
  | o :: l => .cons (oD_R o) (oD_RA l)
/-- at p a list of lists, of one's own: the lists at qs, as ls tells -/
structure NestL (st : Option Addr) (F H0 H : Hp) (p : Addr) (qs : List Addr) (ls : List (List (Option Int))) : Prop where
  len : qs.length = ls.length
  dp : Dl st H p = some (.lst (qs.map V.ref))
  fp : F p = none
  hp : Dl st H0 p = none
  nd : qs.Nodup
  np : p ∉ qs
  each : ∀ (i : Nat) q l, qs[i]? = some q → ls[i]? = some l → Dl st H q = some (.lst (l.map oW)) ∧ F q = none ∧ Dl st H0 q = none
theorem NestL.step {K : PySem.W.Frag} {st : Option Addr} {F H0 H F' H' : Hp} {p : Addr} {qs : List Addr} {ls : List (List (Option Int))} (n : NestL st F H0 H p qs ls) (x : XE K st F H F' H') : NestL st F' H0 H' p qs ls :=
  ⟨n.len, x.ext.hh _ _ n.dp, x.ext.fr p _ n.dp rfl n.fp, n.hp, n.nd, n.np, fun i q l h1 h2 => by
    obtain ⟨a, b, c⟩ := n.each i q l h1 h2
    exact ⟨x.ext.hh _ _ a, x.ext.fr q _ a rfl b, c⟩⟩
/-- one of its lists changes -/
theorem NestL.chg {st : Option Addr} {F H0 H : Hp} {p : Addr} {qs : List Addr} {ls : List (List (Option Int))} {i : Nat} {q : Addr} {l l' : List (Option Int)} (n : NestL st F H0 H p qs ls) (h1 : qs[i]? = some q) (h2 : ls[i]? = some l) : NestL st F H0 (upd H q (.lst (l'.map oW))) p qs (ls.set i l') := by
  obtain ⟨a, b, c⟩ := n.each i q l h1 h2
  have ne := Dl_ne a
  have hi := (List.getElem?_eq_some_iff.mp h2).1
  refine ⟨by rw [List.length_set]; exact n.len, ?_, n.fp, n.hp, n.nd, n.np, fun j q' m h3 h4 => ?_⟩
  · rw [Dl_off (fun z => n.np (by rw [z]; exact List.mem_of_getElem? h1))]
    exact n.dp
  · by_cases z : i = j
    · subst z
      rw [h1] at h3
      cases h3
      rw [List.getElem?_set_self hi] at h4
      cases h4
      exact ⟨by exact Dl_at ne, b, c⟩
    · rw [List.getElem?_set_ne z] at h4
      obtain ⟨a', b', c'⟩ := n.each j q' m h3 h4
      exact ⟨by rw [Dl_off (fun w => nodup_ne n.nd h1 h3 z w.symm)]; exact a', b', c'⟩
theorem NestL.get {K : PySem.W.Frag} {st : Option Addr} {F H0 H : Hp} {p q : Addr} {qs : List Addr} {ls : List (List (Option Int))} {i : Nat} (n : NestL st F H0 H p qs ls) (h1 : qs[i]? = some q) : SqL K H p (qs.map V.ref) ∧ atI (qs.map V.ref) (i : Int) = some (.ref q) := by
  refine ⟨.inl (.inl (Dl_sub _ _ n.dp)), ?_⟩
  have hi := (List.getElem?_eq_some_iff.mp h1).1
  unfold atI ixN
  rw [if_pos (by omega), List.length_map, if_pos (by omega)]
  simp [h1]
/-- all of it frozen -/
theorem NestL.frz {M : Cm} {F H0 H : Hp} {p : Addr} {qs : List Addr} {ls : List (List (Option Int))} (n : NestL M.st F H0 H p qs ls) (x : XE M.K M.st M.F0 H0 F H) : ∃ F', XE M.K M.st M.F0 H0 F' H ∧ RV M F' (.ref p) (.lst (ls.map fun l => .lst (l.map oDD))) := by
  have key : ∀ (qs : List Addr) (ls : List (List (Option Int))) (F1 : Hp), qs.length = ls.length → qs.Nodup → XE M.K M.st M.F0 H0 F1 H → F1 p = none → p ∉ qs → (∀ (i : Nat) q l, qs[i]? = some q → ls[i]? = some l → Dl M.st H q = some (.lst (l.map oW)) ∧ F1 q = none ∧ Dl M.st H0 q = none) →
      ∃ F2, XE M.K M.st M.F0 H0 F2 H ∧ F2 p = none ∧ Same F1 F2 ∧ RL M F2 (qs.map V.ref) (ls.map fun l => .lst (l.map oDD)) := by
    intro qs
    induction qs with
    | nil =>
      intro ls F1 hl _ x1 f1 _ _
      cases ls with
      | nil => exact ⟨F1, x1, f1, Same.refl _, .nil⟩
      | cons _ _ => simp at hl
    | cons q qs ih =>
      intro ls F1 hl nd x1 f1 np h
      cases ls with
      | nil => simp at hl
      | cons l ls =>
        obtain ⟨a, b, c⟩ := h 0 q l rfl rfl
        rw [List.nodup_cons] at nd
        have qp : p ≠ q := fun z => np (by rw [z]; exact List.mem_cons_self)
        obtain ⟨F2, x2, f2, s2, r2⟩ := ih ls (upd F1 q (.lst (l.map oW))) (by simpa using hl) nd.2 (x1.frz c b a) (by rw [upd_ne qp]; exact f1) (fun z => np (List.mem_cons_of_mem _ z)) fun i q' l' h1 h2 => by
          obtain ⟨a', b', c'⟩ := h (i + 1) q' l' (by simpa using h1) (by simpa using h2)
          refine ⟨a', ?_, c'⟩
          rw [upd_ne]
          · exact b'
          · intro z
            exact nd.1 (by rw [← z]; exact List.mem_of_getElem? h1)
        have s1 : Same F1 (upd F1 q (.lst (l.map oW))) := same_upd b
        exact ⟨F2, x2, f2, s1.trans s2, .cons (.lst (.inl (.inl (s2 _ _ upd_same))) (oD_RA l)) r2⟩
  obtain ⟨F2, x2, f2, s2, r2⟩ := key qs ls F n.len n.nd x n.fp n.np n.each
  exact ⟨upd F2 p (.lst (qs.map V.ref)), x2.frz n.hp f2 n.dp, .lst (.inl (.inl upd_same)) (r2.mono (same_upd f2))⟩
end G

namespace G
open PySem PySem.Spec PyProof.Rows L2
/-! ### for .. in d.items(), the keys of d being tuples -/
/-- the pairs of the locked dict at d, each a new tuple -/
def ItiT (d : Addr) (o : Obj) (kvs : List (List Key × V)) : It :=
  ⟨fun i H => H d = some (.frz o (.dT kvs)) ∧ i < kvs.length, fun i H x H' => ∃ (T q : Addr) (k : List Key) (v : V), kvs[i]? = some (k, v) ∧ x = .ref T ∧ H T = none ∧ H q = some (.tup (k.map kV)) ∧ H' = upd H T (.tup [.ref q, v]), fun i H => H d = some (.frz o (.dT kvs)) ∧ kvs.length ≤ i⟩
section
variable {X : Cx} {pins : List (Addr × Obj)} {σ : L2.St} {H : Hp} {s : Shared} {d : Addr} {o : Obj}
end
section
variable {P : Program} {w : World} {K : PySem.W.Frag} {d : Addr} {o : Obj} {es : Array DictEntry} {ep : Nat}
end
def iItemsT (td : TE) : TI := fun σ H R => td σ H fun x H1 => ∃ d o kvs, x = .ref d ∧ H1 d = some (.frz o (.dT kvs)) ∧ R (ItiT d o kvs) H1
section
variable {X : Cx} {e : Expr} {td : TE} {apos cpos : Pos}
end
end G

namespace G
open PySem PySem.Spec PyProof.Rows L2
/-! ### defs that tell a thing of its own -/
abbrev CtS := List D → (Sl → Prop) → Prop
def spDS (K : PySem.W.Frag) (C : Addr) (c : CtS) : Sp := fun vs H Q _ => ∃ st F ds k, Gd K st F H ∧ RA K C st F vs ds ∧ c ds k ∧ ∀ v s F' H', XE K st F H F' H' → SR ⟨K, C, st, F, H⟩ F' H' v s → k s → Q v H'
section
variable {P : Program} {w : World} {K : PySem.W.Frag} {mg : Str → Option Value} {base : Heap} {C : Addr}
end
/-- what a thing is worth once it is frozen -/
def frzS : Sl → Option D
  | .d x => some x
  | .own l => some (.lst l)
  | .ownK ks l => some (.dic ks l)
  | .ownT ks l => some (.dit ks l)
  | .lk _ _ _ _ => none
theorem SR.frozen {K : PySem.W.Frag} {C : Addr} {st : Option Addr} {F0 H0 F H : Hp} {v : V} {s : Sl} {d : D} (x : XE K st F0 H0 F H) (r : SR ⟨K, C, st, F0, H0⟩ F H v s) (e : frzS s = some d) : ∃ F', XE K st F0 H0 F' H ∧ R K C st F' v d := by
  cases s with
  | d y => cases e; exact ⟨F, x, r⟩
  | own l =>
    cases e
    obtain ⟨p, vs, rfl, h1, h2, h3, h4⟩ := r
    exact ⟨_, x.frz h3 h2 h1, .lst (.inl (.inl upd_same)) (RA.mono (same_upd h2) h4)⟩
  | ownK ks l =>
    cases e
    obtain ⟨p, vs, rfl, h1, h5, h2, h3, h4⟩ := r
    exact ⟨_, x.frz h3 h2 h1, .dic upd_same h5 (RA.mono (same_upd h2) h4)⟩
  | ownT ks l =>
    cases e
    obtain ⟨p, vs, rfl, h1, h5, h2, h3, h4⟩ := r
    exact ⟨_, x.frz h3 h2 h1, .dit upd_same h5 (RA.mono (same_upd h2) h4)⟩
  | lk p o vs l => cases e
theorem Def.frozen {P : Program} {w : World} {K : PySem.W.Frag} {mg : Str → Option Value} {base : Heap} {C : Addr} {n : Nat} {x : Str} {ps : List Str} {c : CtS} {c' : Ct} (D : Def P w K mg base n x ps (spDS K C c)) (h : ∀ ds k, c' ds k → c ds fun s => ∃ d, frzS s = some d ∧ k d) : Def P w K mg base n x ps (spD K C c') := by
  refine D.to fun vs H Q E hh => ?_
  obtain ⟨st, F, ds, k, g, r, hc, q⟩ := hh
  refine ⟨st, F, ds, _, g, r, h ds k hc, fun v s F' H' x rs ⟨d, e, kd⟩ => ?_⟩
  obtain ⟨F2, x2, r2⟩ := SR.frozen x rs e
  exact q v d F2 H' x2 r2 kd
theorem SR.base {M : Cm} {F1 H1 F H : Hp} {v : V} {s : Sl} (sm : Same (Dl M.st M.H0) (Dl M.st H1)) (r : SR ⟨M.K, M.C, M.st, F1, H1⟩ F H v s) : SR M F H v s := by
  cases s with
  | d y => exact r
  | own l =>
    obtain ⟨p, vs, rfl, h1, h2, h3, h4⟩ := r
    exact ⟨p, vs, rfl, h1, h2, sm.free h3, h4⟩
  | ownK ks l =>
    obtain ⟨p, vs, rfl, h1, h5, h2, h3, h4⟩ := r
    exact ⟨p, vs, rfl, h1, h5, h2, sm.free h3, h4⟩
  | ownT ks l =>
    obtain ⟨p, vs, rfl, h1, h5, h2, h3, h4⟩ := r
    exact ⟨p, vs, rfl, h1, h5, h2, sm.free h3, h4⟩
  | lk p o vs l =>
    obtain ⟨rfl, h1, h5, h2, h3, h4⟩ := r
    exact ⟨rfl, h1, h5, h2, sm.free h3, h4⟩
section
variable {M : Cm} {ρ : Rho} {k : D → Prop} {ka : List D → Prop} {nx bk ct : Rho → Prop} {rt : Sl → Rho → Prop} {tr : TA} {te t : TE} {i : Nat} {l : List D}
/-- x = f(..), f telling a thing of its own -/
theorem ws_asgS {c : CtS} {E : XK} (h : WA M tr ρ fun ds => c ds fun s => nx (ρ.set i (some s))) : WS M (tAsg (tCall (spDS M.K M.C c) [] E tr) (gName i)) ρ nx rt bk ct := fun σ F H E e f1 f2 f3 f4 => h σ F H _ e fun vs ds F1 H1 x1 r1 hc => by
  rw [List.append_nil]
  refine ⟨M.st, F1, ds, _, x1.gd, r1, hc, fun v s F' H' x rs q => ?_⟩
  have e1 := (e.step x1).step x
  have rs' : SR M F' H' v s := SR.base (e.x.trans x1).ext.hh rs
  have key : s.mine = false ∨ s.mine = true := by cases s.mine <;> simp
  rcases key with hm | hm
  · cases s with
    | d y => exact f1 _ _ F' H' (x1.trans x).ff (e1.put rs') q
    | _ => cases hm
  · refine f1 _ _ F' H' (x1.trans x).ff (e1.putO rs' fun j s' hj hs m z => ?_) q
    obtain ⟨p, o, rfl, a1, a2, a3⟩ := rs.mine_at hm
    obtain ⟨v', b1, b2⟩ := (e.step x1).each j s' hs
    obtain ⟨p', o', rfl, c1, c2, c3⟩ := b2.mine_at m
    rw [b1] at z
    cases z
    have a4 : Dl M.st H1 p = none := a3
    rw [a4] at c1
    cases c1
def itemsD (nss : List (List Int)) (l : List D) : List D := List.zipWith (fun ns d => D.tup [.stn ns, d]) nss l
end
end G
namespace G
open PySem PySem.Spec PyProof.Rows L2
theorem wg_lst {M : Cm} {ρ : Rho} {S : Nat → Prop} {kr : Rho → Prop} {l : List D} {n : Nat} {g : TGs} (hn : l.length = n) (h : WGs M S g l ρ kr) : WG M S (gLst M.K n g) (.lst l) ρ kr := fun v σ F H Q e r f => by
  cases r with
  | lst a b => exact ⟨_, _, rfl, sqL_mono e.gd.sub a, by rw [b.len]; exact hn, h _ σ F H Q e b f⟩
end G

namespace G
open PySem PySem.Spec PyProof.Rows L2
/-! ### try .. except x as n: .. (others behind it), where x's clause takes it -/
def wFst (K : PySem.W.Frag) (c : Value) (i : Nat) (ts : Addr → Value → Option Addr → TS) (D : Ends) : WX := fun cls d σ H =>
  PySem.W.exmOne K cls c = some true ∧ ∀ a, H a = none → ts a cls d ⟨fun σ' H' => D.nx (σ'.set i none) H', D.rt, fun σ' H' => D.bk (σ'.set i none) H', fun σ' H' => D.ct (σ'.set i none) H'⟩ (σ.set i (some (.ref a))) H
section
variable {X : Cx} {x n : Str} {c : Value} {i : Nat} {bd st : List Stmt} {s0 : Stmt} {q1 q2 q3 : Pos} {more : List ExceptHandler} {tb : WX → TS} {ts : Addr → Value → Option Addr → TS}
end
/-! ### Base.__init__(self, ..), Base an own class over ValueError without an __init__ of its own -/
structure GeC (K : PySem.W.Frag) (mg : Str → Option Value) (x : Str) (Gb : Addr) : Prop where
  m : mg x = some (.ref Gb)
  k : PySem.W.keepIn K (.ref Gb) = true
  sp : PySem.W.specialIn K (.ref Gb) "__getattribute__" = some (some (.builtin "type.__getattribute__"))
  rd : PySem.W.readsIn K Gb (.type "type") = true
  fd : PySem.W.findCls K (.ref Gb) (.type "type") "__init__" = some (.val (.builtin "ValueError.__init__"))
section
variable {X : Cx} {e : Expr} {es : List Expr} {ta : TA} {p1 p2 pos : Pos} {x : Str} {Gb : Addr}
theorem pe_geinit {pl : Sem Bool} (C : GeC X.K X.mg x Gb) (hg : Gl X x) (ha : PA X (e :: es) ta)
    (hc : eval (.Call (.Attribute (.Name x p1) "__init__" p2) (e :: es) [] pos) X.env = (do
      let ov ← eval (.Name x p1) X.env
      standAt p2.atName
      let (f, first) ← holding [ov] (getMethod ov "__init__" pl)
      callWith pos f first (backTo pos (starEach (e :: es) X.env)) (backToKw pos (keywordEach [] X.env))) := by rfl)
    (hdb : (x == ("__debug__" : Str)) = false := by decide) (he : starEach (e :: es) X.env = (false, eval e X.env) :: starEach es X.env := by rfl) (hpl : (backTo pos (starEach es X.env)).any (·.1) = false := by rfl) :
    PE X (.Call (.Attribute (.Name x p1) "__init__" p2) (e :: es) [] pos) (tVeI X.K ta) := by
  refine ⟨fun pins s σ H Q I h => PySem.W.methodCall_KW (ld_glob I hg C.m ?_ hdb) hc⟩
  refine PySem.W.method_cls I.kIn C.sp (PySem.W.cls_value I.kIn C.rd C.fd (by decide +kernel) ?_)
  show wpAny _ _ (callWith pos (Value.builtin "ValueError.__init__") [] (backTo pos (starEach (e :: es) X.env)) []) _ _ _
  refine PyProof.Rows.callWith_method1 (thn (ha.run pos pins _ σ H _ (I.tok _) h) fun us t ⟨vs, H1, I1, r1, a, D, ws, ev, hl, T, ea, q⟩ => ?_) he hpl
  subst ev
  cases r1 with
  | @cons _ u0 _ ur r2 r3 =>
    cases (show u0 = Value.ref a from r2)
    exact oinit_ok T I1 ea (by rw [← Paired.length r3, sizeLine_eq]; omega) fun t' J => ⟨.non, H1, J, rfl, q⟩
end
end G

namespace G
open PySem PySem.Spec PyProof.Rows L2
/-! ### defs that may raise -/
section
variable {P : Program} {w : World} {K : PySem.W.Frag} {mg : Str → Option Value} {base : Heap}
structure DefX (P : Program) (w : World) (K : PySem.W.Frag) (mg : Str → Option Value) (base : Heap) (k : Nat) (x : Str) (ps : List Str) (sp : Sp) : Prop where
  ex : ∃ f fd, FnOk P w K mg base (L2.CX P w) k f fd ps sp ∧ Binds K fd ps [] ∧ mg x = some (.ref f) ∧ PySem.W.keepIn K (.ref f) = true
structure DefMX (P : Program) (w : World) (K : PySem.W.Frag) (mg : Str → Option Value) (base : Heap) (k : Nat) (C : Addr) (m : Str) (ps : List Str) (sp : Sp) : Prop where
  ex : ∃ f fd, FnOk P w K mg base (L2.CX P w) k f fd ps sp ∧ Binds K fd ps [] ∧ Meth K C m f
end
section
variable {X : Cx} {W : WX} {k : Nat} {x : Str} {ps : List Str} {sp : Sp} {e : Expr} {es : List Expr} {t : TA} {p pos : Pos}
end
/-! ### isinstance of a caught exception -/
structure ExcK (K : PySem.W.Frag) (D : Addr) : Prop where
  c : ExcC K D
  cl : (PySem.W.clsIn K D).isSome = true
/-- isinstance(e, c) and isinstance(e, (c, ..)), e the exception that the suite holds -/
def rIsX (K : PySem.W.Frag) (cls : Value) (d : Option Addr) (a : Addr) : List V → Hp → VK → Prop := fun xs H Q => ∃ D, cls = .ref D ∧ ExcK K D ∧ (d = none ∨ ∃ dd fs, d = some dd ∧ H dd = some (.xd fs)) ∧
  ((∃ c u b, xs = [.ref a, c] ∧ ClsV c u ∧ PySem.W.kitOne K (.ref D) u = some b ∧ Q (.bl b) H) ∨ (∃ tp cs us b, xs = [.ref a, .ref tp] ∧ H tp = some (.tup cs) ∧ Paired ClsV cs us ∧ PySem.W.kitAny K (.ref D) us = some b ∧ Q (.bl b) H))
end G

namespace G
open PySem PySem.Spec PyProof.Rows L2
/-! ### what is raised -/
structure Xc where
  cls : Addr
  ns : List Str
  l : List D
/-- an exception in flight: its class, its fields -/
inductive RX (K : PySem.W.Frag) (C : Addr) (st : Option Addr) (F : Hp) : Value → Option Addr → Xc → Prop
  | no {c : Addr} : RX K C st F (.ref c) none ⟨c, [], []⟩
  | fs {c dd : Addr} {ns : List Str} {vs : List V} {ds : List D} : F dd = some (.xd (ns.zip vs)) → ns.length = vs.length → RA K C st F vs ds → RX K C st F (.ref c) (some dd) ⟨c, ns, ds⟩
theorem RX.mono {K : PySem.W.Frag} {C : Addr} {st : Option Addr} {F F' : Hp} {cls : Value} {d : Option Addr} {x : Xc} (e : L2.Same F F') (h : RX K C st F cls d x) : RX K C st F' cls d x := by
  cases h with
  | no => exact .no
  | fs a b c => exact .fs (e _ _ a) b (c.mono e)
theorem RX.exc {K : PySem.W.Frag} {C : Addr} {st : Option Addr} {F : Hp} {cls : Value} {d : Option Addr} {x : Xc} {a : Addr} (h : RX K C st F cls d x) : cls = .ref x.cls ∧ R K C st F (.ref a) (.exc a d x.ns x.l) := by
  cases h with
  | no => exact ⟨rfl, .exc0⟩
  | fs h1 h2 h3 => exact ⟨rfl, .exc h1 h2 h3⟩
abbrev CtX := List D → (D → Prop) → (Xc → Prop) → Prop
def spDX (K : PySem.W.Frag) (C : Addr) (c : CtX) : L2.Sp := fun vs H Q E => ∃ st F ds k kx, Gd K st F H ∧ RA K C st F vs ds ∧ c ds k kx ∧ (∀ v d F' H', XE K st F H F' H' → R K C st F' v d → k d → Q v H') ∧ ∀ cls d x F' H', XE K st F H F' H' → RX K C st F' cls d x → kx x → E cls d H'
section
open L2
variable {P : Program} {w : World} {K : PySem.W.Frag} {mg : Str → Option Value} {base : Heap} {C : Addr}
end
section
open L2
variable {M : Cm} {ρ : Rho} {k : D → Prop} {nx bk ct : Rho → Prop} {rt : Sl → Rho → Prop} {tr : TA} {te ta : TE} {i : Nat}
/-- what is raised within a frame is taken by W -/
def WOk (M : Cm) (W : WX) (kx : Xc → Rho → Prop) : Prop := ∀ (ρ' : Rho) (σ : L2.St) F H cls d x, Fr M ρ' σ F H → RX M.K M.C M.st F cls d x → kx x ρ' → W cls d σ H
/-- self.f = thing behind Base.__init__ -/
def spXI (K : PySem.W.Frag) (f : Str) : Sp := fun vs H Q _ => ∃ a C y, vs = [.ref a, y] ∧ OexC K C ∧ PySem.W.findIn K (.ref C) f = some none ∧ H a = some (exo a C none) ∧ ∀ dx, H dx = none → dx ≠ a → Q .non (upd (upd H dx (exd dx [(f, y)])) a (exo a C (some dx)))
/-- data alone in the slots -/
def plainR (ρ : Rho) : Bool := ρ.all fun o => match o with
  | none => true
  | some (.d _) => true
  | _ => false
theorem Fr.base {σ : L2.St} {F1 H1 F H : Hp} (x : XM M M.F0 M.H0 F1 H1) (e : Fr ⟨M.K, M.C, M.st, F1, H1⟩ ρ σ F H) : Fr M ρ σ F H :=
  ⟨x.trans e.x, e.len, fun i s h => by
    obtain ⟨v, h1, h2⟩ := e.each i s h
    exact ⟨v, h1, SR.base x.ext.hh h2⟩, e.dist⟩
/-- the suite of a clause with a name -/
def WH (M : Cm) (i : Nat) (c : Value) (ts : Addr → Value → Option Addr → TS) (kx : Xc → Rho → Prop) (nx : Rho → Prop) (rt : Sl → Rho → Prop) (bk ct : Rho → Prop) : Prop :=
  ∀ x ρ', kx x ρ' → PySem.W.exmOne M.K (.ref x.cls) c = some true ∧ ∀ a d, WS M (ts a (.ref x.cls) d) (ρ'.set i (some (.d (.exc a d x.ns x.l)))) (fun ρ2 => nx (ρ2.set i none)) rt (fun ρ2 => bk (ρ2.set i none)) (fun ρ2 => ct (ρ2.set i none))
end
end G

namespace G
open PySem PySem.Spec PyProof.Rows L2
/-! ### methods that may raise; own exception classes with an __init__ -/
def tMethW (C : Addr) (m : Str) (sp : Sp) (E : L2.St → XK) (ta : TE) (t : TA) : TE := fun σ H Q => ta σ H fun x H1 => ∃ a dx fs, x = .ref a ∧ H1 a = some (.ins C dx fs) ∧ fs.lookup m = none ∧ t σ H1 fun vs H2 => sp (x :: vs) H2 Q (E σ)
section
variable {X : Cx} {W : WX} {k : Nat} {C : Addr} {m x : Str} {ps : List Str} {sp : Sp} {o e : Expr} {es : List Expr} {ta : TE} {t : TA} {apos pos p : Pos} {pl : Sem Bool}
def tTryF (K : PySem.W.Frag) (c : Value) (i : Nat) (ts : Addr → Value → Option Addr → TS) (tb : WX → TS) : TS := fun D σ H => tb (wFst K c i ts D) D σ H
/-- an own exception class with an __init__ that keeps a promise -/
structure DefE (P : Program) (w : World) (K : PySem.W.Frag) (mg : Str → Option Value) (base : Heap) (k : Nat) (C : Addr) (x : Str) (ps : List Str) (sp : Sp) : Prop where
  ex : ∃ f fd, FnOk P w K mg base CX0 k f fd ps sp ∧ Binds K fd ps [] ∧ PySem.W.findIn K (.ref C) "__init__" = some (some (.ref f)) ∧ PySem.W.typeIn K (.ref f) = some (.type "function") ∧ OexC K C
  gP : mg x = some (.ref C)
end
section
variable {M : Cm} {ρ : Rho} {k : D → Prop} {nx bk ct : Rho → Prop} {rt : Sl → Rho → Prop} {tr : TA} {te ta : TE} {i : Nat}
end
/-- what the written part says of an own class over ValueError with an __init__ -/
def oexIn (K : PySem.W.Frag) (C : Addr) : Bool := match K.lookup C with
  | some ⟨.type "type", _, .cls cd, sl⟩ => (match cd.mro, sl.toList with
    | .ref C' :: bm, [_, _, _, _, some (.builtin n), _] => C' == C && n == "ValueError.__new__" && !cd.hasDel && cd.hasDict && PySem.HandSPX.refsVE bm
    | _, _ => false)
  | _ => false
theorem oex_cls {K : PySem.W.Frag} {C : Addr} (q : oexIn K C = true) : ∃ nm q N bs bm sn sub ab col dd k0 k1 k2 k3 k5, K.lookup C = some (excClassObj nm q C N bs bm true sn sub ab col dd k0 k1 k2 k3 k5 "ValueError.__new__") ∧ PySem.HandSPX.refsVE bm = true := by
  unfold oexIn at q
  split at q
  · rename_i dd cd sl ho
    split at q
    · rename_i C' bm k0 k1 k2 k3 n k5 hm hs
      simp only [Bool.and_eq_true, beq_iff_eq, Bool.not_eq_true'] at q
      obtain ⟨⟨⟨⟨rfl, rfl⟩, hdel⟩, hd⟩, ht⟩ := q
      obtain ⟨nm, bs, mro, ns, qn, hdd, sn, sub, ab, col, del⟩ := cd
      dsimp only at hm hdel hd
      subst hm hdel hd
      have hsl : sl = #[k0, k1, k2, k3, some (.builtin "ValueError.__new__"), k5] := by
        obtain ⟨l⟩ := sl
        simp only at hs
        rw [hs]
      subst hsl
      exact ⟨nm, qn, ns, bs, bm, sn, sub, ab, col, dd, k0, k1, k2, k3, k5, ho, ht⟩
    · cases q
  · cases q
end G

/-! ## own exceptions as values: made by a call, asked by isinstance, their fields read; list.count of truths -/
namespace G
open PySem PySem.Spec PyProof.Rows L2
/-- X(e, ..), X without an own __init__ -/
def tExcV (C : Addr) (t : TA) : TE := fun σ H Q => t σ H fun vs H1 => vs.length ≤ 1000 ∧ ∀ a, H1 a = none → Q (.ref a) (upd H1 a (exo a C none))
/-- C(e, ..), C's own __init__ keeping sp -/
def tMkV (C : Addr) (sp : Sp) (dvs : List V) (t : TA) : TE := fun σ H Q => t σ H fun vs H1 => vs.length ≤ 1000 ∧ ∀ a, H1 a = none → sp (.ref a :: (vs ++ dvs)) (upd H1 a (exo a C none)) (fun v H2 => v = .non ∧ Q (.ref a) H2) (fun _ _ _ => False)
section
variable {X : Cx} {C : Addr} {bmB : List Value} {B newId initId : String} {x f : Str} {e : Expr} {es : List Expr} {t : TA} {te : TE} {p pos : Pos}
theorem pe_excV (F : ExcBaseFacts B newId initId bmB) (q : PySem.W.excIn X.K C bmB newId = true) (gC : X.mg x = some (.ref C)) (kC : PySem.W.keepIn X.K (.ref C) = true) (hg : Gl X x) (ha : PA X (e :: es) t) (hdb : (x == ("__debug__" : Str)) = false := by decide)
    (he : starEach (e :: es) X.env = (false, eval e X.env) :: starEach es X.env := by rfl) (hpl : (backTo pos (starEach es X.env)).any (·.1) = false := by rfl) :
    PE X (.Call (.Name x p) (e :: es) [] pos) (tExcV C t) := by
  refine ⟨fun pins s σ H Q I h => ?_⟩
  refine wpAny_Call_Name_kw (ld_glob I hg gC ?_ hdb)
  refine PySem.W.callWith_K (h₀ := X.base) I.ok.mod.kin kC (thn (ha.run pos pins s σ H _ I h) fun us s1 ⟨vs, H1, I1, r1, hz, q1⟩ => ⟨I1.kIn, ?_⟩) he hpl
  show wpAny _ _ (call (.ref C) us) _ _ _
  obtain ⟨bm, N, nm, qn, bs, hdct, sn, sub, ab, col, dd, k0, k1, k2, k3, k5, mN, hC, hN, hni, T⟩ := exc_obj I1.kIn q
  refine wpAny_call_exc_subT F T hC hN hni (fun h' a hm => ?_) (by rw [← r1.length, sizeLine_eq]; omega)
  have hn : H1 a = none := I1.hok.gone hm.new
  obtain ⟨t, ht, _, _⟩ := hm.there
  exact ⟨.ref a, upd H1 a (exo a C none), I1.laidN hm.keeps hm.new hn (exo_ok ht), rfl, q1 a hn⟩
theorem pe_excV0 (F : ExcBaseFacts B newId initId bmB) (q : PySem.W.excIn X.K C bmB newId = true) (gC : X.mg x = some (.ref C)) (kC : PySem.W.keepIn X.K (.ref C) = true) (hg : Gl X x) (hdb : (x == ("__debug__" : Str)) = false := by decide) :
    PE X (.Call (.Name x p) [] [] pos) (tExcV C tNil) := by
  refine ⟨fun pins s σ H Q I h => ?_⟩
  refine wpAny_Call_Name_kw (ld_glob I hg gC ?_ hdb)
  refine PySem.W.callWith_K0 I.kIn kC ?_
  show wpAny _ _ (call (.ref C) []) _ _ _
  obtain ⟨_, q1⟩ := h
  obtain ⟨bm, N, nm, qn, bs, hdct, sn, sub, ab, col, dd, k0, k1, k2, k3, k5, mN, hC, hN, hni, T⟩ := exc_obj I.kIn q
  refine wpAny_call_exc_subT F T hC hN hni (fun h' a hm => ?_) (Nat.zero_le _)
  have hn : H a = none := I.hok.gone hm.new
  obtain ⟨t, ht, _, _⟩ := hm.there
  exact ⟨.ref a, upd H a (exo a C none), I.laidN hm.keeps hm.new hn (exo_ok ht), rfl, q1 a hn⟩
theorem pe_oexV {CX : CXT} {fI : Addr} {k : Nat} {fd : FuncData} {ps : List Str} {sp : Sp} {ds : List Value} {dvs : List V} (T : OexC X.K C) (iC : PySem.W.findIn X.K (.ref C) "__init__" = some (some (.ref fI))) (tI : PySem.W.typeIn X.K (.ref fI) = some (.type "function"))
    (F1 : FnOk X.prog X.w X.K X.mg X.base CX k fI fd ps sp) (hr : Room (k + 1) X.A) (hb : Binds X.K fd ps ds) (hd : Vals dvs ds) (hx : Passes CX X (fun _ _ _ => False)) (hg : Gl X x) (hm : X.mg x = some (.ref C)) (ha : PA X (e :: es) t)
    (hdb : (x == ("__debug__" : Str)) = false := by decide) (he : starEach (e :: es) X.env = (false, eval e X.env) :: starEach es X.env := by rfl) (hpl : (backTo pos (starEach es X.env)).any (·.1) = false := by rfl) :
    PE X (.Call (.Name x p) (e :: es) [] pos) (tMkV C sp dvs t) := by
  refine ⟨fun pins s σ H Q I h => ?_⟩
  obtain ⟨nm, q, N, bs, bm, sn, sub, ab, col, dd, k0, k1, k2, k3, k5, hC, hbm⟩ := T.cls
  refine wpAny_Call_Name_kw (ld_glob I hg hm ?_ hdb)
  refine PySem.W.callWith_K (h₀ := X.base) I.ok.mod.kin T.kC (thn (ha.run pos pins s σ H _ I h) fun us s1 ⟨vs, H1, I1, r1, hz, q1⟩ => ⟨I1.kIn, ?_⟩) he hpl
  show wpAny _ _ (call (.ref C) us) _ _ _
  obtain ⟨hp, g, dr, tk, os⟩ := s1
  have hsz : hp.objs.size ≤ hp.objs.size + 1 := Nat.le_succ _
  have hn : H1 (hp.objs.size + 1) = none := I1.hok.fresh hsz
  have hq := q1 (hp.objs.size + 1) hn
  have kk : ∀ b o, hp.get? b = some o → ((hp.push (PySem.W.kdv_tup us)).push (PySem.HandSPX.excO C hp.objs.size)).get? b = some o := fun b o e => Heap.get?_push_of_some _ (Heap.get?_push_of_some _ e)
  have hget : ((hp.push (PySem.W.kdv_tup us)).push (PySem.HandSPX.excO C hp.objs.size)).get? (hp.objs.size + 1) = some (PySem.HandSPX.excO C hp.objs.size) := by heap_get
  have I2 : Inv X pins σ (upd H1 (hp.objs.size + 1) (exo (hp.objs.size + 1) C none)) ⟨(hp.push (PySem.W.kdv_tup us)).push (PySem.HandSPX.excO C hp.objs.size), g, dr, tk, os⟩ :=
    I1.laid (t' := tk) (a := hp.objs.size + 1) (o := exo (hp.objs.size + 1) C none) (h' := (hp.push (PySem.W.kdv_tup us)).push (PySem.HandSPX.excO C hp.objs.size)) kk hsz (exo_ok hget)
  have r2 : Vals (V.ref (hp.objs.size + 1) :: (vs ++ dvs)) (Value.ref (hp.objs.size + 1) :: (us ++ ds)) := .cons rfl (r1.append hd)
  have hl : (Value.ref (hp.objs.size + 1) :: us ++ ds).length = ps.length := by
    have e := r2.length
    rw [F1.len _ _ _ _ hq] at e
    exact e.symm
  have hus : us.length ≤ sizeLine := by
    rw [← Paired.length r1, sizeLine_eq]
    omega
  refine wpAny_call (PySem.HandSPX.call_own F.excBase_ValueError (fun Y => PySem.HandSPX.refsVE_contains Y bm hbm) (I1.kIn _ _ hC) (PySem.W.looks_findIn I1.kIn iC) (fun self => PySem.W.bind_fn I1.kIn self tI) hus
    (codeAny_mono (F1.run _ X.stack _ _ ⟨Value.ref (hp.objs.size + 1) :: us, []⟩ (Value.ref (hp.objs.size + 1) :: (us ++ ds)) _ _ (fun _ _ _ => False) (hr.make C us []) (I2.env0.make C us []) (hb _ (Value.ref (hp.objs.size + 1) :: us) I2.kIn hl) r2 hq) fun r s' hq' => ?_))
  cases r with
  | error er => exact hx pins σ _ _ er s' I2 hq'
  | ok fl =>
    cases fl with
    | ret u =>
      obtain ⟨v, H2, os2, bare2, un2, hok2, rv, ev, q2⟩ := hq'
      subst ev
      refine ⟨rv, ⟨.ref (hp.objs.size + 1), H2, ?_, rfl, q2⟩⟩
      exact I2.call' (ch := []) os2 un2 hok2 bare2 (fun b z => absurd z (by simp))
    | next => exact False.elim hq'
    | brk => exact False.elim hq'
    | cont => exact False.elim hq'
/-- what stands at a: an exception of the class D, with its dict -/
def InX (H : Hp) (a D : Addr) (fs : List (Str × V)) : Prop := (H a = some (exo a D none) ∧ fs = []) ∨ ∃ dx, H a = some (exo a D (some dx)) ∧ H dx = some (exd dx fs)
theorem InX.inst {P : Program} {w : World} {H : Hp} {h : Heap} {a D : Addr} {fs : List (Str × V)} (k : HOk P w H h) (i : InX H a D fs) : ∃ oe od, PySem.W.InstAt h a oe D od ∧ (∀ f v, fs.lookup f = some v → ∃ (ob : Obj) (mA : Str → Option Value), od = some ob ∧ (∀ n, PySem.W.lookIn n ob = some (mA n)) ∧ ∀ f, RelO (fs.lookup f) (mA f)) := by
  rcases i with ⟨h1, rfl⟩ | ⟨dx, h1, h2⟩
  · obtain ⟨t0, ho⟩ := exo_at k h1
    exact ⟨_, none, ⟨ho, rfl, rfl, trivial⟩, fun f v z => by cases z⟩
  · obtain ⟨t0, ho⟩ := exo_at k h1
    obtain ⟨mA, hns, rel⟩ := exd_at k h2
    obtain ⟨od, h3, h4⟩ := lookIn_ns hns
    exact ⟨_, some od, ⟨ho, rfl, rfl, h3⟩, fun f v z => ⟨od, mA, rfl, h4, rel⟩⟩
def rIsV (K : PySem.W.Frag) : List V → Hp → VK → Prop := fun xs H Q => ∃ (a D : Addr) (fs : List (Str × V)) (c : V) (u : Value) (b : Bool), xs = [.ref a, c] ∧ InX H a D fs ∧ ExcK K D ∧ ClsV c u ∧ PySem.W.kitOne K (.ref D) u = some b ∧ Q (.bl b) H
theorem k_isV {K : PySem.W.Frag} (hK : X.K = K) : CallR X (.builtin "isinstance") (rIsV K) := by
  subst hK
  intro pins s σ H xs us Q I r h
  obtain ⟨a, D, fs, c, u, b, rfl, i, ⟨C, cl⟩, k, e, q⟩ := h
  obtain ⟨oe, od, J, _⟩ := i.inst I.hok
  have Z := PySem.W.kitx_exc (x := a) (ox := oe) (od := od) cl C.hg C.hk C.hs C.ha C.hn C.ht C.hm
  obtain ⟨u1, u2, rfl, r1, r2⟩ := vals2 r
  cases (show u1 = Value.ref a from r1)
  have e2 := k.eq r2
  subst e2
  exact PySem.W.kia_one Z I.kIn J e (fun z => nomatch z) fun tk => ⟨.bl b, H, I.tok tk, rfl, q⟩
/-- e.f, e an exception as a value -/
def tXv (K : PySem.W.Frag) (f : Str) (te : TE) : TE := fun σ H Q => te σ H fun x H1 => ∃ (a C : Addr) (fs : List (Str × V)) (v : V), x = .ref a ∧ InX H1 a C fs ∧ fs.lookup f = some v ∧ XfC K C ∧ PySem.W.findIn K (.ref C) f = some none ∧ Q v H1
theorem pe_xv {K : PySem.W.Frag} {n : Str} (hK : X.K = K) (he : PE X e te) (hb : attributeBase e n X.env (eval e X.env) = eval e X.env := by rfl) : PE X (.Attribute e n pos) (tXv K n te) := by
  subst hK
  refine ⟨fun pins s σ H Q I h => ?_⟩
  refine attr_of hb (thn (he.run pins s σ H _ I h) fun u s1 hh => ?_)
  obtain ⟨x, H1, I1, rx, a, C, fs, v, ex, i, l, T, hno, q⟩ := hh
  subst ex
  obtain rfl : u = Value.ref a := rx
  obtain ⟨oe, od, J, hod⟩ := i.inst I1.hok
  obtain ⟨ob, mA, rfl, hl, rel⟩ := hod n v l
  obtain ⟨u, hu, ru⟩ := RelO.some_of (v := v) (o := mA n) (by rw [← l]; exact rel n)
  exact HandSPX.exc_get I1.kIn J T.ga T.gg T.exC (PySem.W.findObj_own T.hdC hno rfl (by rw [hl, hu])) (handed_of ru) ⟨v, H1, I1.tok _, ru, q⟩
/-- xs.count(True), xs truths -/
def eqt (b : Bool) (v : Value) : Bool := match v with
  | .bool c => c == b
  | _ => false
def rCntB (K : PySem.W.Frag) : V → List V → Hp → VK → Prop := fun x xs H Q => ∃ (p : Addr) (bs : List Bool) (b : Bool), x = .ref p ∧ xs = [.bl b] ∧ SqL K H p (bs.map V.bl) ∧ Q (.int (bs.count b : Nat)) H
theorem bools_of {us : List Value} : ∀ {bs : List Bool}, Vals (bs.map V.bl) us → us = bs.map Value.bool := fun {bs} h => by
  induction bs generalizing us with
  | nil => cases h; rfl
  | cons b bs ih =>
    cases h with
    | cons h1 h2 =>
      cases h1
      rw [ih h2]
      rfl
theorem mt_cntB {K : PySem.W.Frag} (hK : X.K = K) : MtR X "list.count" (rCntB K) := by
  subst hK
  intro pins s σ H x xs v us Q I rx rxs h
  obtain ⟨p, bs, b, rfl, rfl, hs, q⟩ := h
  cases rx
  obtain ⟨u, rfl, ru⟩ := rxs.one
  cases ru
  obtain ⟨its, rv, ⟨⟨cls, dd, data, sl⟩, n, ho, hc, hdn, hd⟩, hlen⟩ := I.list hs
  simp only at hc hd
  subst hc hd
  have hi := bools_of rv
  subst hi
  refine call_meets PySem.F.slot_list_count ⟨_, ho, rfl⟩ PySem.F.entry_list_count (PySem.F.args_list_count_2 _ _)
    (SeqAt.list_countAt p (bs.map Value.bool).toArray n dd sl (.bool b) (eqt b)) ⟨ho, fun y hy => ?_, ?_⟩
  · obtain ⟨c, _, rfl⟩ := List.mem_map.mp (List.mem_toArray.mp hy)
    exact SeqAt.EqAt.bool_bool c b
  refine ⟨.int (bs.count b : Nat), H, I.tok _, ⟨s.toks, ?_⟩, q⟩
  show Value.int (((bs.map Value.bool).toArray.toList.countP (eqt b) : Nat) : Int) s.toks = Value.int ((bs.count b : Nat) : Int) s.toks
  rw [show (bs.map Value.bool).toArray.toList.countP (eqt b) = bs.count b by
    show (bs.map Value.bool).countP (eqt b) = _
    rw [List.countP_map]
    rfl]
end
end G

namespace G
open PySem PySem.Spec PyProof.Rows L2
/-! ### try .. except x as n: .., alone; isinstance of what is caught; a row of ints as a tuple -/
def tTryA (K : PySem.W.Frag) (c : Value) (i : Nat) (ts : Addr → Value → Option Addr → TS) (Wout : WX) (tb : WX → TS) : TS := fun D σ H => tb (wAs K c i ts Wout D) D σ H
section
variable {X : Cx} {x n : Str} {c : Value} {i : Nat} {bd st : List Stmt} {s0 : Stmt} {q1 q2 q3 : Pos} {tb : WX → TS} {ts : Addr → Value → Option Addr → TS} {Wout : WX}
end
section
variable {M : Cm} {ρ : Rho} {k : D → Prop} {nx bk ct : Rho → Prop} {rt : Sl → Rho → Prop} {tr : TA} {te ta : TE} {i : Nat}
end
end G

/-! ## exceptions as values, by data -/
namespace G
open PySem PySem.Spec PyProof.Rows L2
/-- an own exception class without an __init__ of its own -/
structure EV (K : PySem.W.Frag) (mg : Str → Option Value) (x : Str) (C : Addr) : Prop where
  gP : mg x = some (.ref C)
  xP : PySem.W.excIn K C [.type "ValueError", .type "Exception", .type "BaseException", .type "object"] "ValueError.__new__" = true
  kP : PySem.W.keepIn K (.ref C) = true
/-- .. with one, whose arguments may be fewer by some that stand as ds -/
structure EI (P : Program) (w : World) (K : PySem.W.Frag) (mg : Str → Option Value) (base : Heap) (k : Nat) (C : Addr) (x : Str) (ps : List Str) (sp : Sp) (dvs : List V) : Prop where
  ex : ∃ f fd ds, FnOk P w K mg base CX0 k f fd ps sp ∧ Vals dvs ds ∧ Binds K fd ps ds ∧ PySem.W.findIn K (.ref C) "__init__" = some (some (.ref f)) ∧ PySem.W.typeIn K (.ref f) = some (.type "function") ∧ OexC K C
  gP : mg x = some (.ref C)
section
variable {X : Cx} {C : Addr} {x : Str} {e : Expr} {es : List Expr} {t : TA} {p pos : Pos} {k : Nat} {ps : List Str} {sp : Sp} {dvs : List V}
theorem pe_v1 (D : EV X.K X.mg x C) (hg : Gl X x) (ha : PA X (e :: es) t) (hdb : (x == ("__debug__" : Str)) = false := by decide)
    (he : starEach (e :: es) X.env = (false, eval e X.env) :: starEach es X.env := by rfl) (hpl : (backTo pos (starEach es X.env)).any (·.1) = false := by rfl) : PE X (.Call (.Name x p) (e :: es) [] pos) (tExcV C t) :=
  pe_excV PySem.F.excBase_ValueError D.xP D.gP D.kP hg ha hdb he hpl
theorem pe_v0 (D : EV X.K X.mg x C) (hg : Gl X x) (hdb : (x == ("__debug__" : Str)) = false := by decide) : PE X (.Call (.Name x p) [] [] pos) (tExcV C tNil) :=
  pe_excV0 PySem.F.excBase_ValueError D.xP D.gP D.kP hg hdb
theorem pe_vi (D : EI X.prog X.w X.K X.mg X.base k C x ps sp dvs) (hr : Room (k + 1) X.A) (hg : Gl X x) (ha : PA X (e :: es) t) (hdb : (x == ("__debug__" : Str)) = false := by decide)
    (he : starEach (e :: es) X.env = (false, eval e X.env) :: starEach es X.env := by rfl) (hpl : (backTo pos (starEach es X.env)).any (·.1) = false := by rfl) : PE X (.Call (.Name x p) (e :: es) [] pos) (tMkV C sp dvs t) := by
  obtain ⟨f, fd, ds, F, v, b, h1, h2, T⟩ := D.ex
  exact pe_oexV T h1 h2 F hr b v pass0 hg D.gP ha hdb he hpl
end
def spNB (K : PySem.W.Frag) : Sp := fun vs H Q _ => ∃ a C y z, vs = [.ref a, y, z] ∧ OexC K C ∧ PySem.W.findIn K (.ref C) "what" = some none ∧ PySem.W.findIn K (.ref C) "at" = some none ∧ H a = some (exo a C none) ∧
  ∀ dx, H dx = none → dx ≠ a → Q .non (upd (upd (upd H dx (exd dx [("what", y)])) a (exo a C (some dx))) dx (exd dx [("at", z), ("what", y)]))
section
variable {M : Cm} {ρ : Rho} {k : D → Prop} {te ta : TE} {tr : TA} {c : Addr} {f : Str}
theorem we_excV (h : WA M tr ρ fun ds => ds.length ≤ 1000 ∧ k (.exv c [] [])) : WE M (tExcV c tr) ρ k := fun σ F H Q e g => h σ F H _ e fun vs ds F1 H1 x1 r1 ⟨hl, q⟩ =>
  ⟨by rw [r1.len]; exact hl, fun a na => by
    have x2 : XM M F1 H1 (upd F1 a (exo a c none)) (upd H1 a (exo a c none)) := (XE.refl x1.gd).new na rfl
    exact g _ _ _ _ (x1.trans x2) (.exv0 upd_same) q⟩
/-- what a new exception with its dict is worth -/
theorem exv_new {F H : Hp} {a dx : Addr} {ns : List Str} {vs : List V} {ds : List D} (g : Gd M.K M.st F H) (na : H a = none) (nd : H dx = none) (ne : dx ≠ a) (hl : ns.length = vs.length) (r : RL M F vs ds) :
    XM M F H (upd (upd F dx (exd dx (ns.zip vs))) a (exo a c (some dx))) (upd (upd H dx (exd dx (ns.zip vs))) a (exo a c (some dx))) ∧ RV M (upd (upd F dx (exd dx (ns.zip vs))) a (exo a c (some dx))) (.ref a) (.exv c ns ds) := by
  have x1 : XM M F H (upd F dx (exd dx (ns.zip vs))) (upd H dx (exd dx (ns.zip vs))) := (XE.refl g).new nd rfl
  have na1 : upd H dx (exd dx (ns.zip vs)) a = none := by rw [upd_ne (Ne.symm ne)]; exact na
  have x2 : XM M (upd F dx (exd dx (ns.zip vs))) (upd H dx (exd dx (ns.zip vs))) (upd (upd F dx (exd dx (ns.zip vs))) a (exo a c (some dx))) (upd (upd H dx (exd dx (ns.zip vs))) a (exo a c (some dx))) := (XE.refl x1.gd).new na1 rfl
  exact ⟨x1.trans x2, .exv (dd := dx) upd_same (by rw [upd_ne ne, upd_same]) hl (r.mono (x1.trans x2).ff)⟩
theorem we_mk1 (T : OexC M.K c) (hn : PySem.W.findIn M.K (.ref c) f = some none) (h : G.WE M te ρ fun y => k (.exv c [f] [y])) : WE M (tMkV c (spXI M.K f) [] (tCons te tNil)) ρ k := fun σ F H Q e g => h σ F H _ e fun v y F1 H1 x1 r1 q => by
  refine ⟨by show 1 ≤ 1000; decide, fun a na => ⟨a, c, v, rfl, T, hn, upd_same, fun dx ndx ne => ⟨rfl, ?_⟩⟩⟩
  have n1 : H1 dx = none := by rw [upd_ne ne] at ndx; exact ndx
  have eq : upd (upd (upd H1 a (exo a c none)) dx (exd dx [(f, v)])) a (exo a c (some dx)) = upd (upd H1 dx (exd dx [(f, v)])) a (exo a c (some dx)) := by
    funext b
    by_cases z : b = a
    · subst z; rw [upd_same, upd_same]
    · rw [upd_ne z, upd_ne z]
      by_cases z2 : b = dx
      · subst z2; rw [upd_same, upd_same]
      · rw [upd_ne z2, upd_ne z2, upd_ne z]
  rw [eq]
  obtain ⟨x2, r2⟩ := exv_new (c := c) (ns := [f]) (vs := [v]) x1.gd na n1 ne rfl (.cons r1 .nil)
  exact g _ _ _ _ (x1.trans x2) r2 q
theorem nb_heap {H1 : Hp} {a dx : Addr} {v z : V} (ne : dx ≠ a) : upd (upd (upd (upd H1 a (exo a c none)) dx (exd dx [("what", v)])) a (exo a c (some dx))) dx (exd dx [("at", z), ("what", v)]) = upd (upd H1 dx (exd dx [("at", z), ("what", v)])) a (exo a c (some dx)) := by
  funext b
  by_cases y : b = dx
  · subst y
    rw [upd_same, upd_ne ne, upd_same]
  · rw [upd_ne y]
    by_cases y2 : b = a
    · subst y2; rw [upd_same, upd_same]
    · rw [upd_ne y2, upd_ne y, upd_ne y2, upd_ne y2, upd_ne y]
theorem we_mkNB1 (T : OexC M.K c) (hw : PySem.W.findIn M.K (.ref c) "what" = some none) (hn : PySem.W.findIn M.K (.ref c) "at" = some none) (h : G.WE M te ρ fun y => k (.exv c ["at", "what"] [.non, y])) : WE M (tMkV c (spNB M.K) [.non] (tCons te tNil)) ρ k := fun σ F H Q e g => h σ F H _ e fun v y F1 H1 x1 r1 q => by
  refine ⟨by show 1 ≤ 1000; decide, fun a na => ⟨a, c, v, .non, rfl, T, hw, hn, upd_same, fun dx ndx ne => ⟨rfl, ?_⟩⟩⟩
  have n1 : H1 dx = none := by rw [upd_ne ne] at ndx; exact ndx
  rw [nb_heap ne]
  obtain ⟨x2, r2⟩ := exv_new (c := c) (ns := ["at", "what"]) (vs := [.non, v]) x1.gd na n1 ne rfl (.cons .non (.cons r1 .nil))
  exact g _ _ _ _ (x1.trans x2) r2 q
theorem we_mkNB2 (T : OexC M.K c) (hw : PySem.W.findIn M.K (.ref c) "what" = some none) (hn : PySem.W.findIn M.K (.ref c) "at" = some none) (h : G.WE M te ρ fun y => G.WE M ta ρ fun z => k (.exv c ["at", "what"] [z, y])) : WE M (tMkV c (spNB M.K) [] (tCons te (tCons ta tNil))) ρ k := fun σ F H Q e g => h σ F H _ e fun v y F0 H0 x0 r0 h1 => h1 σ F0 H0 _ (e.step x0) fun u z F1 H1 x1 r1 q => by
  refine ⟨by show 2 ≤ 1000; decide, fun a na => ⟨a, c, v, u, rfl, T, hw, hn, upd_same, fun dx ndx ne => ⟨rfl, ?_⟩⟩⟩
  have n1 : H1 dx = none := by rw [upd_ne ne] at ndx; exact ndx
  rw [nb_heap ne]
  obtain ⟨x2, r2⟩ := exv_new (c := c) (ns := ["at", "what"]) (vs := [u, v]) x1.gd na n1 ne rfl (.cons r1 (.cons (r0.mono x1.ff) .nil))
  exact g _ _ _ _ ((x0.trans x1).trans x2) r2 q
theorem RV.inx {F H : Hp} {v : V} {ns : List Str} {l : List D} (g : Gd M.K M.st F H) (r : RV M F v (.exv c ns l)) : ∃ (a : Addr) (vs : List V), v = .ref a ∧ InX H a c (ns.zip vs) ∧ ns.length = vs.length ∧ RL M F vs l := by
  cases r with
  | @exv0 a _ h => exact ⟨a, [], rfl, .inl ⟨g.sub _ _ h, rfl⟩, rfl, .nil⟩
  | @exv a _ dd _ vs _ h1 h2 h3 h4 => exact ⟨a, vs, rfl, .inr ⟨dd, g.sub _ _ h1, g.sub _ _ h2⟩, h3, h4⟩
theorem we_isV {cv : V} {u : Value} {b : Bool} (kv : ClsV cv u) (h : G.WE M te ρ fun y => ∃ D ns l, y = .exv D ns l ∧ ExcK M.K D ∧ PySem.W.kitOne M.K (.ref D) u = some b ∧ k (.bl b)) :
    WE M (tCB (rIsV M.K) (tCons te (tCons (tC cv) tNil))) ρ k := fun σ F H Q e g => h σ F H _ e fun v y F1 H1 x1 r1 ⟨D, ns, l, z, xk, hk, q⟩ => by
  subst z
  obtain ⟨a, vs, rfl, i, _⟩ := RV.inx x1.gd r1
  exact ⟨a, D, _, cv, u, b, rfl, i, xk, kv, hk, g _ _ F1 H1 x1 (.bl b) q⟩
theorem lkp_R {F : Hp} {dv : D} : ∀ {ns : List Str} {vs : List V} {l : List D}, ns.length = vs.length → RL M F vs l → lkp ns l f = some dv → ∃ u, (ns.zip vs).lookup f = some u ∧ RV M F u dv := by
  intro ns
  induction ns with
  | nil => intro vs l _ _ hz; cases hz
  | cons n ns ih =>
    intro vs l hl hr hz
    cases hr with
    | nil => cases hl
    | @cons u us b bs ru rus =>
      unfold lkp at hz
      rw [List.zip_cons_cons, List.lookup_cons]
      by_cases w : n = f
      · subst w
        rw [if_pos rfl] at hz
        cases hz
        exact ⟨u, by simp, ru⟩
      · rw [if_neg w] at hz
        obtain ⟨u2, h1, h2⟩ := ih (by simpa using hl) rus hz
        exact ⟨u2, by
          have : (f == n) = false := beq_eq_false_iff_ne.mpr fun z => w z.symm
          rw [this]
          exact h1, h2⟩
theorem we_xv (h : G.WE M te ρ fun y => ∃ C ns l dv, y = .exv C ns l ∧ XfC M.K C ∧ PySem.W.findIn M.K (.ref C) f = some none ∧ lkp ns l f = some dv ∧ k dv) : WE M (tXv M.K f te) ρ k := fun σ F H Q e g => h σ F H _ e fun v y F1 H1 x1 r1 ⟨C, ns, l, dv, z, T, hno, hv, q⟩ => by
  subst z
  obtain ⟨a, vs, rfl, i, hl, hr⟩ := RV.inx x1.gd r1
  obtain ⟨u, h1, h2⟩ := lkp_R hl hr hv
  exact ⟨a, C, _, u, rfl, i, h1, T, hno, g u dv F1 H1 x1 h2 q⟩
theorem we_cnt (h : G.WE M te ρ fun y => ∃ bs : List Bool, y = .lst (bs.map D.bl) ∧ k (.int (bs.count true : Nat))) : WE M (tBM M.K "list" (rCntB M.K) te (tCons (tC (.bl true)) tNil)) ρ k := fun σ F H Q e g => h σ F H _ e fun v y F1 H1 x1 r1 ⟨bs, z, q⟩ => by
  subst z
  cases r1 with
  | @lst a vs _ h1 h2 =>
    have e1 := h2.bools
    subst e1
    exact ⟨.inl ⟨rfl, _, sqL_mono x1.gd.sub h1⟩, a, bs, true, rfl, rfl, sqL_mono x1.gd.sub h1, g _ _ F1 H1 x1 (.int _) q⟩
end
end G

namespace G.Q
open PySem PySem.Spec PyProof.Rows L2
local macro_rules | `(tactic| walk_at "lk") => `(tactic| first | assumption | exact rT_at | exact rL_at | exact upd_same | (refine sqT_mono ?_ (by assumption); assumption) | (refine sqL_mono ?_ (by assumption); assumption) | (refine rT_new (by assumption) ?_; walk_at "lk") | (refine rL_new (by assumption) ?_; walk_at "lk") | (refine rH_new (by assumption) ?_; walk_at "lk") | (refine rD_new (by assumption) ?_; walk_at "lk") | (refine dp_mono ?_ (by assumption); assumption))
local macro_rules | `(tactic| walk_at "r1") => `(tactic| first | ((with_reducible show tVar _ _ _ _); refine s_var rfl ?_) | with_reducible refine s_c ?_ | with_reducible refine s_op ?_ | with_reducible refine s_un ?_ | with_reducible refine s_neg ?_ | with_reducible refine s_test ?_ | with_reducible refine s_B ?_ | with_reducible refine s_bl ?_ | with_reducible refine s_not ?_ | with_reducible refine s_yes ?_ | with_reducible refine s_and ?_ | with_reducible refine s_or ?_ | with_reducible refine s_notV ?_ | with_reducible refine s_andV ?_ | with_reducible refine s_orV ?_ | with_reducible refine s_if ?_ | with_reducible refine s_cT ?_ | with_reducible refine s_cF ?_ | with_reducible refine s_nT ?_ | with_reducible refine s_nF ?_ | with_reducible refine s_addI ?_ | with_reducible refine s_eqI ?_ | with_reducible refine s_neI ?_ | with_reducible refine s_eqB ?_ | with_reducible refine s_neB ?_ | with_reducible refine s_I0 ?_ | with_reducible refine s_non ?_ | with_reducible refine s_int ?_ | with_reducible refine s_chain ?_ | with_reducible refine s_cons ?_ | with_reducible refine s_nil ?_ | with_reducible refine s_call ?_ | with_reducible refine s_cb ?_ | with_reducible refine s_meth ?_ | with_reducible refine s_make ?_ | with_reducible refine s_tup ?_ | with_reducible refine s_lst ?_ | with_reducible refine s_bm ?_ | with_reducible refine s_bm0 ?_ | with_reducible refine s_bmT ?_ | with_reducible refine s_fld ?_ | with_reducible refine s_dget ?_ | with_reducible refine s_sl ?_ | with_reducible refine s_part ?_ | with_reducible refine s_nopart ?_ | with_reducible refine s_seq ?_ | with_reducible refine s_next ?_ | with_reducible refine s_asg ?_ | with_reducible refine s_gn ?_ | with_reducible refine s_gc ?_ | with_reducible refine s_g0 ?_ | with_reducible refine s_gs ?_ | with_reducible refine s_ret ?_ | with_reducible refine s_ifS ?_ | with_reducible refine s_drop ?_ | with_reducible refine s_augS ?_ | ((with_reducible show tAug _ _ _ _ _ _); refine s_aug rfl ?_) | with_reducible refine s_ipI ?_ | with_reducible refine s_for ?_ | with_reducible refine s_iseq ?_ | with_reducible refine s_rng1 ?_ | with_reducible refine s_izip ?_ | with_reducible refine s_lc ?_ | with_reducible refine s_lc2 ?_ | with_reducible refine s_lstRg ?_ | with_reducible refine s_rg1 ?_ | with_reducible refine s_sfld ?_ | with_reducible refine s_ienum ?_ | with_reducible refine s_disp ?_ | with_reducible refine s_pc ?_ | with_reducible refine s_pn ?_)
local macro_rules | `(tactic| walk_at "rd") => `(tactic| repeat walk_at "r1")

section
variable {P : Program} {w : World} {K : PySem.W.Frag} {mg : Str → Option Value} {base : Heap} {C : Addr}
abbrev s_NoGrinding___init__ : Stmt := inClass (topS 9) 0
abbrev n_NoGrinding___init__ : List Str := ["self", "at"]
theorem sc_NoGrinding___init__ : FnScope ["self", "at"] ["self", "at"] (defScope s_NoGrinding___init__) := ⟨rfl, rfl, rfl, by decide +kernel, rfl, by decide +kernel, by decide +kernel⟩
theorem ok_NoGrinding_init {CG : Addr} (G_GrindError : GeC K mg "GrindError" CG) {f : Addr} {fd : FuncData} (F : Fun K "__init__" "NoGrinding.__init__" s_NoGrinding___init__ f fd) : FnOk P w K mg base CX0 1 f fd ["self", "at"] (spXI K "at") := by
  refine F.ok (k := 0) sc_NoGrinding___init__ (fun vs H Q E h => ?_) (fun cdv A outer s H vs Q E hr h => ?_)
  · obtain ⟨a, c, y, rfl, _⟩ := h
    rfl
  · obtain ⟨a, c, y, rfl, T, hn, ha, q⟩ := h
    refine ⟨_, (pss_cons (ps_expr (pe_geinit G_GrindError (by rfl) (pa_cons (pv 0) (pa_cons pe_str pa_nil)))) (pss_one (ps_ost (pv 0) (pv 1)))), ?_⟩; refine start_eq (σ' := [some (.ref a), some (y)]) rfl ?_
    walk_at "rd"
    unfold tVeI
    walk_at "rd"
    refine ⟨a, c, [.str "no grinding stands there"], rfl, by decide, T, ha, ?_⟩
    walk_at "rd"
    unfold tOst
    walk_at "rd"
    refine ⟨a, c, rfl, T, hn, .inl ⟨ha, fun dx h1 h2 => ?_⟩⟩
    exact q dx h1 h2
abbrev s_NoSpot___init__ : Stmt := inClass (topS 10) 0
abbrev n_NoSpot___init__ : List Str := ["self", "thing"]
theorem sc_NoSpot___init__ : FnScope ["self", "thing"] ["self", "thing"] (defScope s_NoSpot___init__) := ⟨rfl, rfl, rfl, by decide +kernel, rfl, by decide +kernel, by decide +kernel⟩
theorem ok_NoSpot_init {CG : Addr} (G_GrindError : GeC K mg "GrindError" CG) {f : Addr} {fd : FuncData} (F : Fun K "__init__" "NoSpot.__init__" s_NoSpot___init__ f fd) : FnOk P w K mg base CX0 1 f fd ["self", "thing"] (spXI K "thing") := by
  refine F.ok (k := 0) sc_NoSpot___init__ (fun vs H Q E h => ?_) (fun cdv A outer s H vs Q E hr h => ?_)
  · obtain ⟨a, c, y, rfl, _⟩ := h
    rfl
  · obtain ⟨a, c, y, rfl, T, hn, ha, q⟩ := h
    refine ⟨_, (pss_cons (ps_expr (pe_geinit G_GrindError (by rfl) (pa_cons (pv 0) (pa_cons pe_str pa_nil)))) (pss_one (ps_ost (pv 0) (pv 1)))), ?_⟩; refine start_eq (σ' := [some (.ref a), some (y)]) rfl ?_
    walk_at "rd"
    unfold tVeI
    walk_at "rd"
    refine ⟨a, c, [.str "no such spot"], rfl, by decide, T, ha, ?_⟩
    walk_at "rd"
    unfold tOst
    walk_at "rd"
    refine ⟨a, c, rfl, T, hn, .inl ⟨ha, fun dx h1 h2 => ?_⟩⟩
    exact q dx h1 h2
abbrev s_NoHeight___init__ : Stmt := inClass (topS 11) 0
abbrev n_NoHeight___init__ : List Str := ["self", "thing"]
theorem sc_NoHeight___init__ : FnScope ["self", "thing"] ["self", "thing"] (defScope s_NoHeight___init__) := ⟨rfl, rfl, rfl, by decide +kernel, rfl, by decide +kernel, by decide +kernel⟩
theorem ok_NoHeight_init {CG : Addr} (G_GrindError : GeC K mg "GrindError" CG) {f : Addr} {fd : FuncData} (F : Fun K "__init__" "NoHeight.__init__" s_NoHeight___init__ f fd) : FnOk P w K mg base CX0 1 f fd ["self", "thing"] (spXI K "thing") := by
  refine F.ok (k := 0) sc_NoHeight___init__ (fun vs H Q E h => ?_) (fun cdv A outer s H vs Q E hr h => ?_)
  · obtain ⟨a, c, y, rfl, _⟩ := h
    rfl
  · obtain ⟨a, c, y, rfl, T, hn, ha, q⟩ := h
    refine ⟨_, (pss_cons (ps_expr (pe_geinit G_GrindError (by rfl) (pa_cons (pv 0) (pa_cons pe_str pa_nil)))) (pss_one (ps_ost (pv 0) (pv 1)))), ?_⟩; refine start_eq (σ' := [some (.ref a), some (y)]) rfl ?_
    walk_at "rd"
    unfold tVeI
    walk_at "rd"
    refine ⟨a, c, [.str "no height"], rfl, by decide, T, ha, ?_⟩
    walk_at "rd"
    unfold tOst
    walk_at "rd"
    refine ⟨a, c, rfl, T, hn, .inl ⟨ha, fun dx h1 h2 => ?_⟩⟩
    exact q dx h1 h2
abbrev s_NoPaper___init__ : Stmt := inClass (topS 12) 0
abbrev n_NoPaper___init__ : List Str := ["self", "at"]
theorem sc_NoPaper___init__ : FnScope ["self", "at"] ["self", "at"] (defScope s_NoPaper___init__) := ⟨rfl, rfl, rfl, by decide +kernel, rfl, by decide +kernel, by decide +kernel⟩
theorem ok_NoPaper_init {CG : Addr} (G_GrindError : GeC K mg "GrindError" CG) {f : Addr} {fd : FuncData} (F : Fun K "__init__" "NoPaper.__init__" s_NoPaper___init__ f fd) : FnOk P w K mg base CX0 1 f fd ["self", "at"] (spXI K "at") := by
  refine F.ok (k := 0) sc_NoPaper___init__ (fun vs H Q E h => ?_) (fun cdv A outer s H vs Q E hr h => ?_)
  · obtain ⟨a, c, y, rfl, _⟩ := h
    rfl
  · obtain ⟨a, c, y, rfl, T, hn, ha, q⟩ := h
    refine ⟨_, (pss_cons (ps_expr (pe_geinit G_GrindError (by rfl) (pa_cons (pv 0) (pa_cons pe_str pa_nil)))) (pss_one (ps_ost (pv 0) (pv 1)))), ?_⟩; refine start_eq (σ' := [some (.ref a), some (y)]) rfl ?_
    walk_at "rd"
    unfold tVeI
    walk_at "rd"
    refine ⟨a, c, [.str "this shows nothing"], rfl, by decide, T, ha, ?_⟩
    walk_at "rd"
    unfold tOst
    walk_at "rd"
    refine ⟨a, c, rfl, T, hn, .inl ⟨ha, fun dx h1 h2 => ?_⟩⟩
    exact q dx h1 h2
abbrev s_TooMany___init__ : Stmt := inClass (topS 13) 0
abbrev n_TooMany___init__ : List Str := ["self", "many"]
theorem sc_TooMany___init__ : FnScope ["self", "many"] ["self", "many"] (defScope s_TooMany___init__) := ⟨rfl, rfl, rfl, by decide +kernel, rfl, by decide +kernel, by decide +kernel⟩
theorem ok_TooMany_init {CG : Addr} (G_GrindError : GeC K mg "GrindError" CG) {f : Addr} {fd : FuncData} (F : Fun K "__init__" "TooMany.__init__" s_TooMany___init__ f fd) : FnOk P w K mg base CX0 1 f fd ["self", "many"] (spXI K "many") := by
  refine F.ok (k := 0) sc_TooMany___init__ (fun vs H Q E h => ?_) (fun cdv A outer s H vs Q E hr h => ?_)
  · obtain ⟨a, c, y, rfl, _⟩ := h
    rfl
  · obtain ⟨a, c, y, rfl, T, hn, ha, q⟩ := h
    refine ⟨_, (pss_cons (ps_expr (pe_geinit G_GrindError (by rfl) (pa_cons (pv 0) (pa_cons pe_str pa_nil)))) (pss_one (ps_ost (pv 0) (pv 1)))), ?_⟩; refine start_eq (σ' := [some (.ref a), some (y)]) rfl ?_
    walk_at "rd"
    unfold tVeI
    walk_at "rd"
    refine ⟨a, c, [.str "too many"], rfl, by decide, T, ha, ?_⟩
    walk_at "rd"
    unfold tOst
    walk_at "rd"
    refine ⟨a, c, rfl, T, hn, .inl ⟨ha, fun dx h1 h2 => ?_⟩⟩
    exact q dx h1 h2
abbrev s_NoBench___init__ : Stmt := inClass (topS 8) 0
abbrev n_NoBench___init__ : List Str := ["self", "what", "at"]
theorem sc_NoBench___init__ : FnScope ["self", "what", "at"] ["self", "what", "at"] (defScope s_NoBench___init__) := ⟨rfl, rfl, rfl, by decide +kernel, rfl, by decide +kernel, by decide +kernel⟩
theorem ok_NoBench_init {CG : Addr} (G_GrindError : GeC K mg "GrindError" CG) {f : Addr} {fd : FuncData} (F : FunD K "__init__" "NoBench.__init__" (defArgs s_NoBench___init__) (defBody s_NoBench___init__) (defScope s_NoBench___init__) [V.non] [] f fd) : FnOk P w K mg base CX0 1 f fd ["self", "what", "at"] (spNB K) := by
  refine F.ok (CX := CX0) (k := 0) sc_NoBench___init__ (fun vs H Q E h => ?_) (fun cdv A outer s H vs Q E hr h => (fun ⟨t, h1, h2⟩ => ⟨t, h1.nox, h2⟩ : (∃ t, PSs (cxOf CX0 P w K mg base n_NoBench___init__ "NoBench.__init__" (defScope s_NoBench___init__) f cdv A outer s H E).nox (defBody s_NoBench___init__) t ∧ t { nx := fun _ H' => Q .non H', rt := Q } (start n_NoBench___init__ vs) H) → _) ?_)
  · obtain ⟨a, c, y, z, rfl, _⟩ := h
    rfl
  · obtain ⟨a, c, y, z, rfl, T, hw, hn, ha, q⟩ := h
    refine ⟨_, (pss_cons (ps_expr (pe_geinit G_GrindError (by rfl) (pa_cons (pv 0) (pa_cons pe_str pa_nil)))) (pss_cons (ps_ost (pv 0) (pv 1)) (pss_one (ps_ost (pv 0) (pv 2))))), ?_⟩; refine start_eq (σ' := [some (.ref a), some (y), some (z)]) rfl ?_
    walk_at "rd"
    unfold tVeI
    walk_at "rd"
    refine ⟨a, c, [.str "this makes no bench"], rfl, by decide, T, ha, ?_⟩
    walk_at "rd"
    unfold tOst
    walk_at "rd"
    refine ⟨a, c, rfl, T, hw, .inl ⟨ha, fun dx h1 h2 => ?_⟩⟩
    walk_at "rd"
    refine ⟨a, c, rfl, T, hn, .inr ⟨dx, [("what", y)], upd_same, ?_, (by decide : (1 : Nat) ≤ 900), ?_⟩⟩
    · rw [upd_ne h2]
      exact upd_same
    exact q dx h1 h2
end
end G.Q

namespace G.Q
open PySem PySem.Spec PyProof.Rows L2
local macro_rules | `(tactic| walk_at "ds") => `(tactic| skip)
local macro_rules | `(tactic| walk_at "ds") => `(tactic| dsimp only [List.set, wipeR, snd_cons, snd_nil])
local macro_rules | `(tactic| walk_at "d1") => `(tactic| ((first | with_reducible refine key_str ?_ | with_reducible refine ⟨_, rfl, ?_⟩ | with_reducible refine ⟨_, _, rfl, ?_⟩ | ((with_reducible show List.length _ ≤ 1000 ∧ _); refine len_ok (by rfl) ?_) | ((with_reducible show if D.isN _ = true then _ else _); first | refine s_nnT (by rfl) ?_ | refine s_nnF (by rfl) ?_) | ((with_reducible show if (!D.isN _) = true then _ else _); first | refine s_mnT (by rfl) ?_ | refine s_mnF (by rfl) ?_) | with_reducible refine s_cT ?_ | with_reducible refine s_cF ?_ | with_reducible refine s_nT ?_ | with_reducible refine s_nF ?_); walk_at "ds"))
local macro_rules | `(tactic| walk_at "d1") => `(tactic| ((with_reducible show WPs ..); (first | with_reducible refine wps_cons ?_ | with_reducible refine wps_nil ?_)))
local macro_rules | `(tactic| walk_at "d1") => `(tactic| ((with_reducible show WI ..); (with_reducible refine wi_rng1 ?_)))
local macro_rules | `(tactic| walk_at "d1") => `(tactic| ((with_reducible show WV ..); (with_reducible refine WI.wv ?_)))
local macro_rules | `(tactic| walk_at "d1") => `(tactic| ((with_reducible show WP ..); (first | with_reducible refine wp_no ?_ | with_reducible refine wp_some ?_)))
local macro_rules | `(tactic| walk_at "d1") => `(tactic| ((with_reducible show WOT ..); (first | with_reducible refine wot_new ?_ | with_reducible refine wot_disp1 ?_)))
local macro_rules | `(tactic| walk_at "d1") => `(tactic| ((with_reducible show WOK ..); (first | with_reducible refine wok_new ?_ | with_reducible refine wok_disp1 ?_)))
local macro_rules | `(tactic| walk_at "d1") => `(tactic| ((with_reducible show WD ..); (first | with_reducible refine wd_tup ?_ | with_reducible refine wd_lst ?_)))
local macro_rules | `(tactic| walk_at "d1") => `(tactic| ((with_reducible show WAD ..); (first | with_reducible refine wad_cons ?_ | with_reducible refine wad_nil ?_)))
local macro_rules | `(tactic| walk_at "d1") => `(tactic| ((with_reducible show DIn ..); (first | with_reducible refine din_I ?_ | with_reducible refine din_S ?_ | with_reducible refine din_T ?_)))
local macro_rules | `(tactic| walk_at "d1") => `(tactic| ((with_reducible show DGt ..); (first | with_reducible refine dgp_hard ?_ | with_reducible refine dgp_wide ?_ | with_reducible refine dgp_rows ?_ | with_reducible refine dgp_pairs ?_ | with_reducible refine dgp_many ?_ | with_reducible refine dg_hard ?_ | with_reducible refine dg_places ?_ | with_reducible refine dg_told ?_ | with_reducible refine dg_heavy ?_ | with_reducible refine dg_meets ?_)))
local macro_rules | `(tactic| walk_at "d1") => `(tactic| ((with_reducible show OU ..); (with_reducible refine ou_neg ?_)))
local macro_rules | `(tactic| walk_at "d1") => `(tactic| ((with_reducible show WAB ..); (first | with_reducible refine wab_cons ?_ | with_reducible refine wab_nil ?_)))
local macro_rules | `(tactic| walk_at "d1") => `(tactic| ((with_reducible show CRO ..); (first | with_reducible refine cr_listL ?_ | with_reducible refine cr_listT ?_ | with_reducible refine cr_listS ?_)))
local macro_rules | `(tactic| walk_at "d1") => `(tactic| ((with_reducible show WO ..); (first | with_reducible refine wo_lst ?_ | ((with_reducible show WO _ (tOp rMulS (tLst _) _) _ _); refine wo_rep ?_) | with_reducible refine wo_op ?_ | with_reducible refine wo_cb ?_ | with_reducible refine wo_rev ?_)))
local macro_rules | `(tactic| walk_at "d1") => `(tactic| ((with_reducible show CR ..); (first | with_reducible refine cr_lenDK ?_ | with_reducible refine cr_lenDT ?_ | with_reducible refine cr_lenL ?_ | with_reducible refine cr_lenT ?_ | with_reducible refine cr_lenS ?_ | with_reducible refine cr_lenX ?_ | with_reducible refine cr_tupX ?_ | with_reducible refine cr_sumS ?_ | with_reducible refine cr_sumLi ?_ | with_reducible refine cr_sumTi ?_ | with_reducible refine cr_allB ?_ | with_reducible refine cr_anyB ?_ | with_reducible refine cr_absI ?_ | with_reducible refine cr_int_i ?_ | with_reducible refine cr_int_b ?_ | with_reducible refine CRO.cr (cr_listL ?_) | with_reducible refine CRO.cr (cr_listT ?_) | with_reducible refine CRO.cr (cr_listS ?_) | with_reducible refine cr_tupLi ?_ | with_reducible refine cr_tupS ?_ | with_reducible refine cr_tupL ?_ | with_reducible refine cr_tupT ?_)))
local macro_rules | `(tactic| walk_at "d1") => `(tactic| ((with_reducible show WB ..); (first | ((with_reducible show WB _ (tVar _) _ _); first | refine wb_own rfl ?_ | refine wb_ownK rfl ?_ | refine wb_ownT rfl ?_ | refine wb_lkT rfl (by assumption) ?_ | refine wb_wl rfl ?_) | with_reducible refine WE.wb ?_)))
local macro_rules | `(tactic| walk_at "d1") => `(tactic| ((with_reducible show WGs ..); (first | with_reducible refine wgs_cons ?_ | with_reducible refine wgs_nil ?_ | with_reducible refine wgs_consM ?_ | with_reducible refine wgs_nilM ?_); walk_at "ds"))
local macro_rules | `(tactic| walk_at "d1") => `(tactic| ((with_reducible show WT ..); (first | with_reducible refine wt_test ?_ | with_reducible refine wt_B ?_ | with_reducible refine wt_not ?_ | with_reducible refine wt_and ?_ | with_reducible refine wt_or ?_ | with_reducible refine wt_yes ?_)))
local macro_rules | `(tactic| walk_at "d1") => `(tactic| ((with_reducible show OP ..); (first | with_reducible refine op_addSI ?_ | with_reducible refine op_I0i ?_ | with_reducible refine op_I0b ?_ | with_reducible refine op_eqII ?_ | with_reducible refine op_neII ?_ | with_reducible refine op_eqBB ?_ | with_reducible refine op_neBB ?_ | with_reducible refine op_eqSS ?_ | with_reducible refine op_neSS ?_ | with_reducible refine op_isNn ?_ | with_reducible refine op_notNn ?_ | with_reducible refine op_ip ?_ | ((with_reducible show OP _ (rIx _) (D.tup _) (D.int _) _); refine op_ixT (by rfl) ?_) | ((with_reducible show OP _ (rIx _) (D.lst _) (D.int _) _); refine op_ixL (by rfl) ?_))))
local macro_rules | `(tactic| walk_at "d1") => `(tactic| ((with_reducible show WG ..); (first | with_reducible refine wg_name (by first | trivial | decide) ?_ | with_reducible refine wg_tup rfl ?_ | with_reducible refine wg_stn rfl ?_ | with_reducible refine wg_lst rfl ?_); walk_at "ds"))
local macro_rules | `(tactic| walk_at "d1") => `(tactic| ((with_reducible show WA ..); (first | with_reducible refine wa_cons ?_ | with_reducible refine wa_nil ?_)))
local macro_rules | `(tactic| walk_at "d1") => `(tactic| ((with_reducible show WS ..); (first | with_reducible refine ws_seq ?_ | with_reducible refine ws_next ?_ | with_reducible refine ws_ret ?_ | with_reducible refine ws_retN ?_ | with_reducible refine ws_if ?_ | ((with_reducible show WS _ (tDrop (tBM _ "list" _ (tVar _) _)) _ _ _ _ _); refine ws_mt rfl ?_) | ((with_reducible show WS _ (tDrop (tBM0 _ "list" _ (tVar _))) _ _ _ _ _); refine ws_mt0 rfl ?_) | ((with_reducible show WS _ (tAsg (tBM _ "list" _ (tVar _) _) (gName _)) _ _ _ _ _); refine ws_mtS rfl ?_) | ((with_reducible show WS _ (tAsg (tBM0 _ "list" _ (tVar _)) (gName _)) _ _ _ _ _); refine ws_mt0S rfl ?_) | ((with_reducible show WS _ (tAsgO (tDisp _) _) _ _ _ _ _); refine ws_setOwnK ?_) | ((with_reducible show WS _ (tAsgO tDNewK _) _ _ _ _ _); refine ws_setOwnK ?_) | ((with_reducible show WS _ (tAsgO (tDc _ _ _ _ _ _) _) _ _ _ _ _); refine ws_setOwnK ?_) | ((with_reducible show WS _ (tAsgO tDNewT _) _ _ _ _ _); refine ws_setOwnT ?_) | ((with_reducible show WS _ (tAsgO (tDispT1 _ _) _) _ _ _ _ _); refine ws_setOwnT ?_) | with_reducible refine ws_setOwn ?_ | ((with_reducible show WS _ (tAsg _ (gSub (tVar _) _ rSetL)) _ _ _ _ _); first | refine ws_setItem rfl ?_ | refine ws_setWl rfl ?_) | ((with_reducible show WS _ (tAugS (tVar _) _ _ _ _ _) _ _ _ _ _); refine ws_augItem rfl ?_) | ((with_reducible show WS _ (sDPut (tVar _) _ _) _ _ _ _ _); first | refine ws_dput rfl ?_ | refine ws_dputT rfl ?_) | ((with_reducible show WS _ (tDrop (tBM _ "dict" rUpd (tVar _) _)) _ _ _ _ _); refine ws_upd rfl ?_) | ((with_reducible show WS _ (tAsg (tCall (spDS _ _ _) _ _ _) (gName _)) _ _ _ _ _); refine ws_asgS ?_) | with_reducible refine ws_asg ?_ | with_reducible refine ws_drop ?_ | ((with_reducible show WS _ (tAug _ _ _) _ _ _ _ _); refine ws_aug rfl ?_) | with_reducible refine ws_par ?_ | with_reducible refine ws_break ?_ | with_reducible refine ws_cont ?_); walk_at "ds"))
local macro_rules | `(tactic| walk_at "d1") => `(tactic| ((with_reducible show WE ..); (first | ((with_reducible show WE _ (tVar _) _ _); refine we_var rfl ?_) | with_reducible refine we_op ?_ | with_reducible refine we_call ?_ | with_reducible refine we_int ?_ | with_reducible refine we_str ?_ | with_reducible refine we_bl ?_ | with_reducible refine we_non ?_ | with_reducible refine we_isi ?_ | with_reducible refine we_notV ?_ | with_reducible refine we_andV ?_ | with_reducible refine we_orV ?_ | with_reducible refine we_if ?_ | with_reducible refine we_chain ?_ | with_reducible refine we_un ?_ | with_reducible refine we_meth (by decide) ?_ | with_reducible refine we_tupK2 ?_ | with_reducible refine we_tup ?_ | with_reducible refine WO.we (wo_lst ?_) | with_reducible refine we_cb ?_ | ((with_reducible show WE _ (tFld _ _ "hard") _ _); refine we_hard (by assumption) ?_) | ((with_reducible show WE _ (tFld _ _ "heavy") _ _); refine we_heavy (by assumption) ?_) | ((with_reducible show WE _ (tFld _ _ "places") _ _); refine we_places (by assumption) ?_) | ((with_reducible show WE _ (tFld _ _ "told") _ _); refine we_told (by assumption) ?_) | ((with_reducible show WE _ (tFld _ _ "meets") _ _); refine we_meets (by assumption) ?_) | with_reducible refine we_din ?_ | with_reducible refine we_dnotin ?_ | ((with_reducible show WE _ (tDGet (tVar _) _) _ _); refine we_dgetL (by assumption) rfl ?_) | with_reducible refine we_dget ?_ | with_reducible refine we_idx ?_ | with_reducible refine WO.we (wo_rev ?_))))
local macro_rules | `(tactic| walk_at "dz") => `(tactic| skip)
local macro_rules | `(tactic| walk_at "dz") => `(tactic| (dsimp only [List.set, wipeR, snd_cons, snd_nil]; repeat walk_at "d1"))
local macro_rules | `(tactic| walk_at "dw") => `(tactic| (walk_at "ds"; (repeat walk_at "d1"); walk_at "dz"))
local macro_rules | `(tactic| walk_at "c1") => `(tactic| (first | ((with_reducible show Wl _ _ → _); intro _) | ((with_reducible show ∀ _ : HO, Wl _ _ → _); intro _ _)))
local macro_rules | `(tactic| walk_at "c1") => `(tactic| ((with_reducible show CI ..); (with_reducible refine c_rng1 ?_)))
local macro_rules | `(tactic| walk_at "c1") => `(tactic| ((with_reducible show CT ..); (with_reducible refine c_test ?_)))
local macro_rules | `(tactic| walk_at "c1") => `(tactic| ((with_reducible show CA ..); (first | with_reducible refine ca_cons ?_ | with_reducible refine ca_nil rfl (by assumption) ?_)))
local macro_rules | `(tactic| walk_at "c1") => `(tactic| ((with_reducible show CE ..); (first | with_reducible refine c_call rfl ?_ | with_reducible refine c_op ?_ | ((with_reducible show CE _ _ _ (tVar _) _ _); refine CE.of rfl (by assumption) ?_) | ((with_reducible show CE _ _ _ (tC _) _ _); refine CE.of rfl (by assumption) ?_) | with_reducible refine c_lst ?_ | with_reducible refine c_tup ?_)))
local macro_rules | `(tactic| walk_at "cd") => `(tactic| (walk_at "d1"))
local macro_rules | `(tactic| walk_at "cd") => `(tactic| (walk_at "c1"; walk_at "ds"))
local macro_rules | `(tactic| walk_at "cz") => `(tactic| skip)
local macro_rules | `(tactic| walk_at "cz") => `(tactic| (dsimp only [List.set, wipeR, snd_cons, snd_nil]; repeat walk_at "cd"))
local macro_rules | `(tactic| walk_at "cw") => `(tactic| (walk_at "ds"; (repeat walk_at "cd"); walk_at "cz"))

/-! ## what the classes say, asked at once -/
def askB (K : PySem.W.Frag) (c : Addr) : Bool :=
  decide (PySem.W.findIn K (.ref c) "__getattribute__" = some (some (.builtin "BaseException.__getattribute__"))) && (decide (PySem.W.findIn K (.ref c) "__getattr__" = some none) && (decide (PySem.W.subIn K (.ref c) (.type "BaseException") = some true) && (decide (PySem.W.hasDictIn K c = true) &&
  (decide (PySem.W.findIn K (.ref c) "__class__" = some (some (.builtin "object.__class__"))) && (decide (PySem.W.mroIn K c (.type "object") = some true) && (PySem.W.clsIn K c).isSome)))))
theorem askB_ok {K : PySem.W.Frag} {c : Addr} (hn : PySem.W.specialIn K (.builtin "object.__class__") "__get__" = some (some (.builtin "getset_descriptor.__get__"))) (ht : PySem.W.takesIn K (.builtin "object.__class__") = some true) (h : askB K c = true) : ExcK K c := by
  obtain ⟨h1, h⟩ := Bool.and_eq_true_iff.mp h
  obtain ⟨h2, h⟩ := Bool.and_eq_true_iff.mp h
  obtain ⟨h3, h⟩ := Bool.and_eq_true_iff.mp h
  obtain ⟨h4, h⟩ := Bool.and_eq_true_iff.mp h
  obtain ⟨h5, h⟩ := Bool.and_eq_true_iff.mp h
  obtain ⟨h6, h7⟩ := Bool.and_eq_true_iff.mp h
  exact ⟨⟨of_decide_eq_true h1, of_decide_eq_true h2, of_decide_eq_true h3, of_decide_eq_true h4, of_decide_eq_true h5, hn, ht, of_decide_eq_true h6⟩, h7⟩
def tabB (K : PySem.W.Frag) (cs : List Addr) (G : Addr) : Bool := decide cs.Nodup && cs.all fun c => askB K c && (decide (PySem.W.kitOne K (.ref c) (.ref G) = some true) && (decide (PySem.W.kitOne K (.ref c) (.type "ValueError") = some true) && cs.all fun d => decide (PySem.W.kitOne K (.ref c) (.ref d) = some (decide (c = d)))))
structure TabC (K : PySem.W.Frag) (cs : List Addr) (G : Addr) : Prop where
  nd : cs.Nodup
  xk : ∀ c ∈ cs, ExcK K c
  up : ∀ c ∈ cs, PySem.W.kitOne K (.ref c) (.ref G) = some true
  ve : ∀ c ∈ cs, PySem.W.kitOne K (.ref c) (.type "ValueError") = some true
  eq : ∀ c ∈ cs, ∀ d ∈ cs, PySem.W.kitOne K (.ref c) (.ref d) = some (decide (c = d))
theorem tabB_ok {K : PySem.W.Frag} {cs : List Addr} {G : Addr} (hn : PySem.W.specialIn K (.builtin "object.__class__") "__get__" = some (some (.builtin "getset_descriptor.__get__"))) (ht : PySem.W.takesIn K (.builtin "object.__class__") = some true) (h : tabB K cs G = true) : TabC K cs G := by
  obtain ⟨h0, h⟩ := Bool.and_eq_true_iff.mp h
  have key : ∀ c ∈ cs, askB K c = true ∧ PySem.W.kitOne K (.ref c) (.ref G) = some true ∧ PySem.W.kitOne K (.ref c) (.type "ValueError") = some true ∧ ∀ d ∈ cs, PySem.W.kitOne K (.ref c) (.ref d) = some (decide (c = d)) := fun c hc => by
    obtain ⟨h1, h⟩ := Bool.and_eq_true_iff.mp (List.all_eq_true.mp h c hc)
    obtain ⟨h2, h⟩ := Bool.and_eq_true_iff.mp h
    obtain ⟨h3, h4⟩ := Bool.and_eq_true_iff.mp h
    exact ⟨h1, of_decide_eq_true h2, of_decide_eq_true h3, fun d hd => of_decide_eq_true (List.all_eq_true.mp h4 d hd)⟩
  exact ⟨of_decide_eq_true h0, fun c hc => askB_ok hn ht (key c hc).1, fun c hc => (key c hc).2.1, fun c hc => (key c hc).2.2.1, fun c hc => (key c hc).2.2.2⟩
/-- a class with one field -/
structure C1 (K : PySem.W.Frag) (C : Addr) (f : Str) : Prop where
  ox : OexC K C
  no : PySem.W.findIn K (.ref C) f = some none
theorem ExcK.xf {K : PySem.W.Frag} {c : Addr} (h : ExcK K c) : XfC K c := ⟨h.c.hg, h.c.hk, h.c.hs, h.c.hd⟩
section
variable {P : Program} {w : World} {K : PySem.W.Frag} {mg : Str → Option Value} {base : Heap} {C : Addr}
def cKinds (cs : List Addr) : Ct := fun ds k => ∃ c ns l, ds = [.exv c ns l] ∧ c ∈ cs ∧ ∀ bs : List Bool, bs.count true = 1 → k (.lst (bs.map D.bl))
theorem kinds_count {cs : List Addr} (nd : cs.Nodup) {c : Addr} (h : c ∈ cs) : (cs.map fun d => decide (c = d)).count true = 1 := by
  induction cs with
  | nil => cases h
  | cons a cs ih =>
    obtain ⟨n1, n2⟩ := List.nodup_cons.mp nd
    rw [List.map_cons, List.count_cons]
    rcases List.mem_cons.mp h with rfl | h
    · rw [decide_eq_true rfl]
      have : (cs.map fun d => decide (c = d)).count true = 0 := by
        refine List.count_eq_zero.mpr fun z => ?_
        obtain ⟨d, hd, e⟩ := List.mem_map.mp z
        exact n1 (by rw [of_decide_eq_true e]; exact hd)
      rw [this]
      rfl
    · have na : c ≠ a := fun z => n1 (by rw [← z]; exact h)
      rw [ih n2 h, decide_eq_false na]
      rfl
theorem we_kind {M : Cm} {ρ : Rho} {k : D → Prop} {cs : List Addr} {c d : Addr} {ns : List Str} {l : List D} {i : Nat} (xk : ExcK M.K c) (eq : ∀ d ∈ cs, PySem.W.kitOne M.K (.ref c) (.ref d) = some (decide (c = d))) (hd : d ∈ cs) (h0 : ρ[i]? = some (some (.d (.exv c ns l)))) (hk : k (.bl (decide (c = d)))) : WE M (tCB (rIsV M.K) (tCons (tVar i) (tCons (tC (.ref d)) tNil))) ρ k :=
  we_isV (.own _) (we_var h0 ⟨c, ns, l, rfl, xk, eq d hd, hk⟩)
local macro_rules | `(tactic| walk_at "d1") => `(tactic| ((with_reducible show WE _ (tCB (rIsV _) _) _ _); refine we_kind (by assumption) (by assumption) (by simp) rfl ?_))
abbrev s__law_kinds : Stmt := topS 18
abbrev n__law_kinds : List Str := ["_law_made", "_law_found"]
theorem sc__law_kinds : FnScope ["_law_made", "_law_found"] ["_law_made"] (defScope s__law_kinds) := ⟨rfl, rfl, rfl, by decide +kernel, rfl, by decide +kernel, by decide +kernel⟩
theorem ok_kinds {CG C_NoStand C_NoDust C_NoForm C_NoNaming C_Nothing C_Busy C_NoBench C_NoGrinding C_NoSpot C_NoHeight C_NoPaper C_TooMany : Addr} (B0 : Blt mg) (TC : TabC K [C_NoStand, C_NoDust, C_NoForm, C_NoNaming, C_Nothing, C_Busy, C_NoBench, C_NoGrinding, C_NoSpot, C_NoHeight, C_NoPaper, C_TooMany] CG) (X_NoStand : mg "NoStand" = some (.ref C_NoStand)) (X_NoDust : mg "NoDust" = some (.ref C_NoDust)) (X_NoForm : mg "NoForm" = some (.ref C_NoForm)) (X_NoNaming : mg "NoNaming" = some (.ref C_NoNaming)) (X_Nothing : mg "Nothing" = some (.ref C_Nothing)) (X_Busy : mg "Busy" = some (.ref C_Busy)) (X_NoBench : mg "NoBench" = some (.ref C_NoBench)) (X_NoGrinding : mg "NoGrinding" = some (.ref C_NoGrinding)) (X_NoSpot : mg "NoSpot" = some (.ref C_NoSpot)) (X_NoHeight : mg "NoHeight" = some (.ref C_NoHeight)) (X_NoPaper : mg "NoPaper" = some (.ref C_NoPaper)) (X_TooMany : mg "TooMany" = some (.ref C_TooMany)) (F : FunAt K mg "_law_kinds" s__law_kinds ["_law_made"]) : Def P w K mg base 1 "_law_kinds" ["_law_made"] (spD K C (cKinds [C_NoStand, C_NoDust, C_NoForm, C_NoNaming, C_Nothing, C_Busy, C_NoBench, C_NoGrinding, C_NoSpot, C_NoHeight, C_NoPaper, C_TooMany])) := by
  refine F.defD (n := 0) sc__law_kinds (fun ds k h => by obtain ⟨_, _, _, rfl, _⟩ := h; rfl) fun f cdv A outer s H E sa F ds k hr h => ?_
  obtain ⟨c, ns, l, rfl, hc, q⟩ := h
  have B := B0
  have q := q _ (kinds_count TC.nd hc)
  have xk := TC.xk c hc
  have eq := TC.eq c hc
  refine ⟨_, (pss_cons (ps_set (i := 1) sc__law_kinds.nd rfl (Or.inl rfl) (pe_lst (pa_cons (pe_callB (k_isV (K := K) rfl) (by rfl) B.isinstance bb_isinstance (pa_cons (pv 0) (pa_cons (pe_glob (v := .ref C_NoStand) (by rfl) X_NoStand rfl) pa_nil))) (pa_cons (pe_callB (k_isV (K := K) rfl) (by rfl) B.isinstance bb_isinstance (pa_cons (pv 0) (pa_cons (pe_glob (v := .ref C_NoDust) (by rfl) X_NoDust rfl) pa_nil))) (pa_cons (pe_callB (k_isV (K := K) rfl) (by rfl) B.isinstance bb_isinstance (pa_cons (pv 0) (pa_cons (pe_glob (v := .ref C_NoForm) (by rfl) X_NoForm rfl) pa_nil))) (pa_cons (pe_callB (k_isV (K := K) rfl) (by rfl) B.isinstance bb_isinstance (pa_cons (pv 0) (pa_cons (pe_glob (v := .ref C_NoNaming) (by rfl) X_NoNaming rfl) pa_nil))) pa_nil)))))) (pss_cons (ps_set (i := 1) sc__law_kinds.nd rfl (Or.inl rfl) (pe_op (k_addS (K := K) rfl) (pv 1) (pe_lst (pa_cons (pe_callB (k_isV (K := K) rfl) (by rfl) B.isinstance bb_isinstance (pa_cons (pv 0) (pa_cons (pe_glob (v := .ref C_Nothing) (by rfl) X_Nothing rfl) pa_nil))) (pa_cons (pe_callB (k_isV (K := K) rfl) (by rfl) B.isinstance bb_isinstance (pa_cons (pv 0) (pa_cons (pe_glob (v := .ref C_Busy) (by rfl) X_Busy rfl) pa_nil))) (pa_cons (pe_callB (k_isV (K := K) rfl) (by rfl) B.isinstance bb_isinstance (pa_cons (pv 0) (pa_cons (pe_glob (v := .ref C_NoBench) (by rfl) X_NoBench rfl) pa_nil))) pa_nil)))))) (pss_cons (ps_set (i := 1) sc__law_kinds.nd rfl (Or.inl rfl) (pe_op (k_addS (K := K) rfl) (pv 1) (pe_lst (pa_cons (pe_callB (k_isV (K := K) rfl) (by rfl) B.isinstance bb_isinstance (pa_cons (pv 0) (pa_cons (pe_glob (v := .ref C_NoGrinding) (by rfl) X_NoGrinding rfl) pa_nil))) (pa_cons (pe_callB (k_isV (K := K) rfl) (by rfl) B.isinstance bb_isinstance (pa_cons (pv 0) (pa_cons (pe_glob (v := .ref C_NoSpot) (by rfl) X_NoSpot rfl) pa_nil))) (pa_cons (pe_callB (k_isV (K := K) rfl) (by rfl) B.isinstance bb_isinstance (pa_cons (pv 0) (pa_cons (pe_glob (v := .ref C_NoHeight) (by rfl) X_NoHeight rfl) pa_nil))) pa_nil)))))) (pss_one (ps_ret (pe_op (k_addS (K := K) rfl) (pv 1) (pe_lst (pa_cons (pe_callB (k_isV (K := K) rfl) (by rfl) B.isinstance bb_isinstance (pa_cons (pv 0) (pa_cons (pe_glob (v := .ref C_NoPaper) (by rfl) X_NoPaper rfl) pa_nil))) (pa_cons (pe_callB (k_isV (K := K) rfl) (by rfl) B.isinstance bb_isinstance (pa_cons (pv 0) (pa_cons (pe_glob (v := .ref C_TooMany) (by rfl) X_TooMany rfl) pa_nil))) pa_nil))))))))), ?_⟩; refine start_eqR (ρ' := [some (.d (.exv c ns l)), none]) rfl ?_
  walk_at "dw"
  refine op_cat (by show 4 + 3 ≤ 100000; decide) ?_
  walk_at "dw"
  refine op_cat (by show 7 + 3 ≤ 100000; decide) ?_
  walk_at "dw"
  refine op_cat (by show 10 + 2 ≤ 100000; decide) ?_
  exact q
def cWith (cs : List Addr) : Ct := fun ds k => ∃ d, ds = [d] ∧ Pl 5 d ∧ ∀ xs : List (Addr × List Str × List D), (∀ x ∈ xs, x.1 ∈ cs) → xs.length ≤ 20 → k (.lst (xs.map fun x => .tup [.exv x.1 x.2.1 x.2.2, .bl true]))
abbrev s__law_with : Stmt := topS 17
abbrev n__law_with : List Str := ["_law_thing", "_law_found", "_law_some", "_law_many", "_law_made", "_law_due"]
theorem sc__law_with : FnScope ["_law_thing", "_law_found", "_law_some", "_law_many", "_law_made", "_law_due"] ["_law_thing"] (defScope s__law_with) := ⟨rfl, rfl, rfl, by decide +kernel, rfl, by decide +kernel, by decide +kernel⟩
theorem ok_with {CG C_NoStand C_NoDust C_NoForm C_NoNaming C_Nothing C_Busy C_NoBench C_NoGrinding C_NoSpot C_NoHeight C_NoPaper C_TooMany : Addr} (B0 : Blt mg) (TC : TabC K [C_NoStand, C_NoDust, C_NoForm, C_NoNaming, C_Nothing, C_Busy, C_NoBench, C_NoGrinding, C_NoSpot, C_NoHeight, C_NoPaper, C_TooMany] CG) (NB : OexC K C_NoBench) (NBw : PySem.W.findIn K (.ref C_NoBench) "what" = some none) (NBa : PySem.W.findIn K (.ref C_NoBench) "at" = some none)
    (i_NoBench : EI P w K mg base 1 C_NoBench "NoBench" ["self", "what", "at"] (spNB K) []) (i1_NoBench : EI P w K mg base 1 C_NoBench "NoBench" ["self", "what", "at"] (spNB K) [.non])
    (i_NoGrinding : EI P w K mg base 1 C_NoGrinding "NoGrinding" ["self", "at"] (spXI K "at") []) (i_NoPaper : EI P w K mg base 1 C_NoPaper "NoPaper" ["self", "at"] (spXI K "at") []) (i_NoSpot : EI P w K mg base 1 C_NoSpot "NoSpot" ["self", "thing"] (spXI K "thing") []) (i_NoHeight : EI P w K mg base 1 C_NoHeight "NoHeight" ["self", "thing"] (spXI K "thing") []) (i_TooMany : EI P w K mg base 1 C_TooMany "TooMany" ["self", "many"] (spXI K "many") [])
    (c_NoGrinding : C1 K C_NoGrinding "at") (c_NoPaper : C1 K C_NoPaper "at") (c_NoSpot : C1 K C_NoSpot "thing") (c_NoHeight : C1 K C_NoHeight "thing") (c_TooMany : C1 K C_TooMany "many")
    (F : FunAt K mg "_law_with" s__law_with ["_law_thing"]) : Def P w K mg base 3 "_law_with" ["_law_thing"] (spD K C (cWith [C_NoStand, C_NoDust, C_NoForm, C_NoNaming, C_Nothing, C_Busy, C_NoBench, C_NoGrinding, C_NoSpot, C_NoHeight, C_NoPaper, C_TooMany])) := by
  refine F.defD (n := 2) sc__law_with (fun ds k h => by obtain ⟨_, rfl, _⟩ := h; rfl) fun f cdv A outer s H E sa F ds k hr h => ?_
  obtain ⟨d, rfl, pd, q⟩ := h
  have B := B0
  refine ⟨_, (pss_cons (ps_set (i := 1) sc__law_with.nd rfl (Or.inl rfl) (pe_lst (pa_cons (pe_tup (pa_cons (pe_vi i1_NoBench (hr.mono (by decide)) (by rfl) (pa_cons pe_str pa_nil)) (pa_cons (pe_tup (pa_cons pe_str (pa_cons pe_non pa_nil))) pa_nil))) (pa_cons (pe_tup (pa_cons (pe_vi i_NoBench (hr.mono (by decide)) (by rfl) (pa_cons (pv 0) (pa_cons pe_int pa_nil))) (pa_cons (pe_tup (pa_cons (pv 0) (pa_cons pe_int pa_nil))) pa_nil))) pa_nil)))) (pss_cons (ps_setLc (i := 1) (own := [("_law_made", 4), ("_law_due", 5)]) rfl sc__law_with.nd rfl rfl (sw_true rfl rfl rfl (by decide +kernel)) (k_seq (K := K) rfl (pv 1)) (blkOk_by (own := [("_law_made", 4), ("_law_due", 5)]) (N := n__law_with) (sc := defScope s__law_with) (by decide +kernel)) (fun _ _ _ _ _ => (k_tup (K := K) (n := 2) rfl rfl (pgs_cons (pg_name (i := 4) sc__law_with.nd rfl (Or.inl rfl)) (pgs_cons (pg_name (i := 5) sc__law_with.nd rfl (Or.inl rfl)) pgs_nil)))) (fun _ _ _ _ _ => pts_nil) (fun _ _ _ _ _ => (pe_tup (pa_cons (pv 4) (pa_cons (pe_cmpR (k_eq (K := K) rfl hr.units) (pe_lst (pa_cons (pe_xv (K := K) rfl (pv 4)) (pa_cons (pe_xv (K := K) rfl (pv 4)) pa_nil))) (pe_callTy (k_list (K := K) rfl) (by rfl) B.list bb_list (pa_cons (pv 5) pa_nil)) (nomark _)) pa_nil))))) (pss_cons (ps_set (i := 2) sc__law_with.nd rfl (Or.inl rfl) (pe_lst (pa_cons (pe_vi i_NoGrinding (hr.mono (by decide)) (by rfl) (pa_cons (pv 0) pa_nil)) (pa_cons (pe_vi i_NoPaper (hr.mono (by decide)) (by rfl) (pa_cons (pv 0) pa_nil)) pa_nil)))) (pss_cons (ps_set (i := 1) sc__law_with.nd rfl (Or.inl rfl) (pe_op (k_addS (K := K) rfl) (pv 1) (pe_lc (own := [("_law_made", 4)]) rfl sc__law_with.nd (k_seq (K := K) rfl (pv 2)) (blkOk_by (own := [("_law_made", 4)]) (N := n__law_with) (sc := defScope s__law_with) (by decide +kernel)) (fun _ _ _ _ _ => (pg_name (i := 4) sc__law_with.nd rfl (Or.inl rfl))) (fun _ _ _ _ _ => pts_nil) (fun _ _ _ _ _ => (pe_tup (pa_cons (pv 4) (pa_cons (pe_cmpR (k_eq (K := K) rfl hr.units) (pe_xv (K := K) rfl (pv 4)) (pv 0) (nomark _)) pa_nil))))))) (pss_cons (ps_set (i := 2) sc__law_with.nd rfl (Or.inl rfl) (pe_lst (pa_cons (pe_vi i_NoSpot (hr.mono (by decide)) (by rfl) (pa_cons (pv 0) pa_nil)) (pa_cons (pe_vi i_NoHeight (hr.mono (by decide)) (by rfl) (pa_cons (pv 0) pa_nil)) pa_nil)))) (pss_cons (ps_set (i := 1) sc__law_with.nd rfl (Or.inl rfl) (pe_op (k_addS (K := K) rfl) (pv 1) (pe_lc (own := [("_law_made", 4)]) rfl sc__law_with.nd (k_seq (K := K) rfl (pv 2)) (blkOk_by (own := [("_law_made", 4)]) (N := n__law_with) (sc := defScope s__law_with) (by decide +kernel)) (fun _ _ _ _ _ => (pg_name (i := 4) sc__law_with.nd rfl (Or.inl rfl))) (fun _ _ _ _ _ => pts_nil) (fun _ _ _ _ _ => (pe_tup (pa_cons (pv 4) (pa_cons (pe_cmpR (k_eq (K := K) rfl hr.units) (pe_xv (K := K) rfl (pv 4)) (pv 0) (nomark _)) pa_nil))))))) (pss_cons (ps_set (i := 3) sc__law_with.nd rfl (Or.inl rfl) (pe_vi i_TooMany (hr.mono (by decide)) (by rfl) (pa_cons (pv 0) pa_nil))) (pss_one (ps_ret (pe_op (k_addS (K := K) rfl) (pv 1) (pe_lst (pa_cons (pe_tup (pa_cons (pv 3) (pa_cons (pe_cmpR (k_eq (K := K) rfl hr.units) (pe_xv (K := K) rfl (pv 3)) (pv 0) (nomark _)) pa_nil))) pa_nil)))))))))))), ?_⟩; refine start_eqR (ρ' := [some (.d (d)), none, none, none, none, none]) rfl ?_
  have pdn : ∀ y : D × D, y ∈ [(D.str "places", D.non), (d, D.int 3)] → Pl 6 y.1 ∧ Pl 6 y.2 := fun y hy => by
    simp only [List.mem_cons, List.not_mem_nil, or_false] at hy
    rcases hy with rfl | rfl
    · exact ⟨.str (by decide +kernel), .non⟩
    · exact ⟨pd.mono (by decide), .int⟩
  have nbC : C_NoBench ∈ [C_NoStand, C_NoDust, C_NoForm, C_NoNaming, C_Nothing, C_Busy, C_NoBench, C_NoGrinding, C_NoSpot, C_NoHeight, C_NoPaper, C_TooMany] := by simp
  walk_at "dw"
  refine we_mkNB1 NB NBw NBa ?_
  walk_at "dw"
  refine we_mkNB2 NB NBw NBa ?_
  walk_at "dw"
  refine WO.we (wo_lc (α := D × D) (WI.wv (wi_seqL ?_)))
  walk_at "dw"
  refine ⟨by show 2 < 100000; decide, [(.str "places", .non), (d, .int 3)], fun y => .tup [.exv C_NoBench ["at", "what"] [y.2, y.1], .tup [y.1, y.2]], fun y => .tup [.exv C_NoBench ["at", "what"] [y.2, y.1], .bl true], rfl, fun y hy => ?_, ?_⟩
  · obtain ⟨p1, p2⟩ := pdn y hy
    walk_at "dw"
    refine we_xv (we_var rfl ⟨C_NoBench, _, _, _, rfl, ExcK.xf (TC.xk _ nbC), NBw, rfl, ?_⟩)
    walk_at "dw"
    refine we_xv (we_var rfl ⟨C_NoBench, _, _, _, rfl, ExcK.xf (TC.xk _ nbC), NBa, rfl, ?_⟩)
    walk_at "dw"
    have p3 : Pl 20 (.lst [y.1, y.2]) := .lst (pl_cons (p1.mono (by decide)) (pl_cons (p2.mono (by decide)) pl_nil))
    refine op_eqDD p3 p3 ?_
    rw [show eqD (D.lst [y.1, y.2]) (.lst [y.1, y.2]) = true from eqD_self p3]
    walk_at "dw"
    done
  walk_at "dw"
  refine we_mk1 c_NoGrinding.ox c_NoGrinding.no ?_
  walk_at "dw"
  refine we_mk1 c_NoPaper.ox c_NoPaper.no ?_
  walk_at "dw"
  refine WO.we (wo_lc (α := Addr) (WI.wv (wi_seqL ?_)))
  walk_at "dw"
  refine ⟨by show 2 < 100000; decide, [C_NoGrinding, C_NoPaper], fun y => .exv y ["at"] [d], fun y => .tup [.exv y ["at"] [d], .bl true], rfl, fun y hy => ?_, ?_⟩
  · have c1 : XfC K y ∧ PySem.W.findIn K (.ref y) "at" = some none := by
      simp only [List.mem_cons, List.not_mem_nil, or_false] at hy
      rcases hy with h | h
      · rw [h]
        exact ⟨ExcK.xf (TC.xk C_NoGrinding (by simp)), c_NoGrinding.no⟩
      · rw [h]
        exact ⟨ExcK.xf (TC.xk C_NoPaper (by simp)), c_NoPaper.no⟩
    walk_at "dw"
    refine we_xv (we_var rfl ⟨y, _, _, _, rfl, c1.1, c1.2, rfl, ?_⟩)
    walk_at "dw"
    refine op_eqDD (pd.mono (by decide)) (pd.mono (by decide)) ?_
    rw [show eqD d d = true from eqD_self pd]
    walk_at "dw"
    done
  walk_at "dw"
  refine op_cat (by show 2 + 2 ≤ 100000; decide) ?_
  walk_at "dw"
  refine we_mk1 c_NoSpot.ox c_NoSpot.no ?_
  walk_at "dw"
  refine we_mk1 c_NoHeight.ox c_NoHeight.no ?_
  walk_at "dw"
  refine WO.we (wo_lc (α := Addr) (WI.wv (wi_seqL ?_)))
  walk_at "dw"
  refine ⟨by show 2 < 100000; decide, [C_NoSpot, C_NoHeight], fun y => .exv y ["thing"] [d], fun y => .tup [.exv y ["thing"] [d], .bl true], rfl, fun y hy => ?_, ?_⟩
  · have c1 : XfC K y ∧ PySem.W.findIn K (.ref y) "thing" = some none := by
      simp only [List.mem_cons, List.not_mem_nil, or_false] at hy
      rcases hy with h | h
      · rw [h]
        exact ⟨ExcK.xf (TC.xk C_NoSpot (by simp)), c_NoSpot.no⟩
      · rw [h]
        exact ⟨ExcK.xf (TC.xk C_NoHeight (by simp)), c_NoHeight.no⟩
    walk_at "dw"
    refine we_xv (we_var rfl ⟨y, _, _, _, rfl, c1.1, c1.2, rfl, ?_⟩)
    walk_at "dw"
    refine op_eqDD (pd.mono (by decide)) (pd.mono (by decide)) ?_
    rw [show eqD d d = true from eqD_self pd]
    walk_at "dw"
    done
  walk_at "dw"
  refine op_cat (by show 4 + 2 ≤ 100000; decide) ?_
  walk_at "dw"
  refine we_mk1 c_TooMany.ox c_TooMany.no ?_
  walk_at "dw"
  refine we_xv (we_var rfl ⟨C_TooMany, _, _, _, rfl, ExcK.xf (TC.xk C_TooMany (by simp)), c_TooMany.no, rfl, ?_⟩)
  walk_at "dw"
  refine op_eqDD (pd.mono (by decide)) (pd.mono (by decide)) ?_
  rw [show eqD d d = true from eqD_self pd]
  walk_at "dw"
  refine op_cat (by show 6 + 1 ≤ 100000; decide) ?_
  refine q [(C_NoBench, ["at", "what"], [.non, .str "places"]), (C_NoBench, ["at", "what"], [.int 3, d]), (C_NoGrinding, ["at"], [d]), (C_NoPaper, ["at"], [d]), (C_NoSpot, ["thing"], [d]), (C_NoHeight, ["thing"], [d]), (C_TooMany, ["many"], [d])] (fun x hx => ?_) (by show 7 ≤ 20; decide)
  simp only [List.mem_cons, List.not_mem_nil, or_false] at hx
  rcases hx with h | h | h | h | h | h | h <;> rw [h] <;> simp
end
end G.Q

namespace G
open PySem PySem.Spec PyProof.Rows L2
abbrev lI (l : List Int) : D := .lst (l.map D.int)
def spLaw (K : PySem.W.Frag) : Sp := fun vs H Q _ => ∃ (a : Addr) (ns : List Int), vs = [.ref a] ∧ SqL K H a (ns.map V.int) ∧ ns.length ≤ 63 ∧ LamX.Tabs (tabsOf K) H ∧ ∀ H', Q (.bl true) H'
end G
namespace G.Q
open PySem PySem.Spec PyProof.Rows L2
local macro_rules | `(tactic| walk_at "ds") => `(tactic| skip)
local macro_rules | `(tactic| walk_at "ds") => `(tactic| dsimp only [List.set, wipeR, snd_cons, snd_nil])
local macro_rules | `(tactic| walk_at "d1") => `(tactic| ((first | with_reducible refine key_str ?_ | with_reducible refine ⟨_, rfl, ?_⟩ | with_reducible refine ⟨_, _, rfl, ?_⟩ | ((with_reducible show List.length _ ≤ 1000 ∧ _); refine len_ok (by rfl) ?_) | ((with_reducible show if D.isN _ = true then _ else _); first | refine s_nnT (by rfl) ?_ | refine s_nnF (by rfl) ?_) | ((with_reducible show if (!D.isN _) = true then _ else _); first | refine s_mnT (by rfl) ?_ | refine s_mnF (by rfl) ?_) | with_reducible refine s_cT ?_ | with_reducible refine s_cF ?_ | with_reducible refine s_nT ?_ | with_reducible refine s_nF ?_); walk_at "ds"))
local macro_rules | `(tactic| walk_at "d1") => `(tactic| ((with_reducible show WPs ..); (first | with_reducible refine wps_cons ?_ | with_reducible refine wps_nil ?_)))
local macro_rules | `(tactic| walk_at "d1") => `(tactic| ((with_reducible show WI ..); (with_reducible refine wi_rng1 ?_)))
local macro_rules | `(tactic| walk_at "d1") => `(tactic| ((with_reducible show WV ..); (with_reducible refine WI.wv ?_)))
local macro_rules | `(tactic| walk_at "d1") => `(tactic| ((with_reducible show WP ..); (first | with_reducible refine wp_no ?_ | with_reducible refine wp_some ?_)))
local macro_rules | `(tactic| walk_at "d1") => `(tactic| ((with_reducible show WOT ..); (first | with_reducible refine wot_new ?_ | with_reducible refine wot_disp1 ?_)))
local macro_rules | `(tactic| walk_at "d1") => `(tactic| ((with_reducible show WOK ..); (first | with_reducible refine wok_new ?_ | with_reducible refine wok_disp1 ?_)))
local macro_rules | `(tactic| walk_at "d1") => `(tactic| ((with_reducible show WD ..); (first | with_reducible refine wd_tup ?_ | with_reducible refine wd_lst ?_)))
local macro_rules | `(tactic| walk_at "d1") => `(tactic| ((with_reducible show WAD ..); (first | with_reducible refine wad_cons ?_ | with_reducible refine wad_nil ?_)))
local macro_rules | `(tactic| walk_at "d1") => `(tactic| ((with_reducible show DIn ..); (first | with_reducible refine din_I ?_ | with_reducible refine din_S ?_ | with_reducible refine din_T ?_)))
local macro_rules | `(tactic| walk_at "d1") => `(tactic| ((with_reducible show DGt ..); (first | with_reducible refine dgp_hard ?_ | with_reducible refine dgp_wide ?_ | with_reducible refine dgp_rows ?_ | with_reducible refine dgp_pairs ?_ | with_reducible refine dgp_many ?_ | with_reducible refine dg_hard ?_ | with_reducible refine dg_places ?_ | with_reducible refine dg_told ?_ | with_reducible refine dg_heavy ?_ | with_reducible refine dg_meets ?_)))
local macro_rules | `(tactic| walk_at "d1") => `(tactic| ((with_reducible show OU ..); (with_reducible refine ou_neg ?_)))
local macro_rules | `(tactic| walk_at "d1") => `(tactic| ((with_reducible show WAB ..); (first | with_reducible refine wab_cons ?_ | with_reducible refine wab_nil ?_)))
local macro_rules | `(tactic| walk_at "d1") => `(tactic| ((with_reducible show CRO ..); (first | with_reducible refine cr_listL ?_ | with_reducible refine cr_listT ?_ | with_reducible refine cr_listS ?_)))
local macro_rules | `(tactic| walk_at "d1") => `(tactic| ((with_reducible show WO ..); (first | with_reducible refine wo_lst ?_ | ((with_reducible show WO _ (tOp rMulS (tLst _) _) _ _); refine wo_rep ?_) | with_reducible refine wo_op ?_ | with_reducible refine wo_cb ?_ | with_reducible refine wo_rev ?_)))
local macro_rules | `(tactic| walk_at "d1") => `(tactic| ((with_reducible show CR ..); (first | with_reducible refine cr_lenDK ?_ | with_reducible refine cr_lenDT ?_ | with_reducible refine cr_lenL ?_ | with_reducible refine cr_lenT ?_ | with_reducible refine cr_lenS ?_ | with_reducible refine cr_lenX ?_ | with_reducible refine cr_tupX ?_ | with_reducible refine cr_sumS ?_ | with_reducible refine cr_sumLi ?_ | with_reducible refine cr_sumTi ?_ | with_reducible refine cr_allB ?_ | with_reducible refine cr_anyB ?_ | with_reducible refine cr_absI ?_ | with_reducible refine cr_int_i ?_ | with_reducible refine cr_int_b ?_ | with_reducible refine CRO.cr (cr_listL ?_) | with_reducible refine CRO.cr (cr_listT ?_) | with_reducible refine CRO.cr (cr_listS ?_) | with_reducible refine cr_tupLi ?_ | with_reducible refine cr_tupS ?_ | with_reducible refine cr_tupL ?_ | with_reducible refine cr_tupT ?_)))
local macro_rules | `(tactic| walk_at "d1") => `(tactic| ((with_reducible show WB ..); (first | ((with_reducible show WB _ (tVar _) _ _); first | refine wb_own rfl ?_ | refine wb_ownK rfl ?_ | refine wb_ownT rfl ?_ | refine wb_lkT rfl (by assumption) ?_ | refine wb_wl rfl ?_) | with_reducible refine WE.wb ?_)))
local macro_rules | `(tactic| walk_at "d1") => `(tactic| ((with_reducible show WGs ..); (first | with_reducible refine wgs_cons ?_ | with_reducible refine wgs_nil ?_ | with_reducible refine wgs_consM ?_ | with_reducible refine wgs_nilM ?_); walk_at "ds"))
local macro_rules | `(tactic| walk_at "d1") => `(tactic| ((with_reducible show WT ..); (first | with_reducible refine wt_test ?_ | with_reducible refine wt_B ?_ | with_reducible refine wt_not ?_ | with_reducible refine wt_and ?_ | with_reducible refine wt_or ?_ | with_reducible refine wt_yes ?_)))
local macro_rules | `(tactic| walk_at "d1") => `(tactic| ((with_reducible show OP ..); (first | with_reducible refine op_addSI ?_ | with_reducible refine op_I0i ?_ | with_reducible refine op_I0b ?_ | with_reducible refine op_eqII ?_ | with_reducible refine op_neII ?_ | with_reducible refine op_eqBB ?_ | with_reducible refine op_neBB ?_ | with_reducible refine op_eqSS ?_ | with_reducible refine op_neSS ?_ | with_reducible refine op_isNn ?_ | with_reducible refine op_notNn ?_ | with_reducible refine op_ip ?_ | ((with_reducible show OP _ (rIx _) (D.tup _) (D.int _) _); refine op_ixT (by rfl) ?_) | ((with_reducible show OP _ (rIx _) (D.lst _) (D.int _) _); refine op_ixL (by rfl) ?_))))
local macro_rules | `(tactic| walk_at "d1") => `(tactic| ((with_reducible show WG ..); (first | with_reducible refine wg_name (by first | trivial | decide) ?_ | with_reducible refine wg_tup rfl ?_ | with_reducible refine wg_stn rfl ?_ | with_reducible refine wg_lst rfl ?_); walk_at "ds"))
local macro_rules | `(tactic| walk_at "d1") => `(tactic| ((with_reducible show WA ..); (first | with_reducible refine wa_cons ?_ | with_reducible refine wa_nil ?_)))
local macro_rules | `(tactic| walk_at "d1") => `(tactic| ((with_reducible show WS ..); (first | with_reducible refine ws_seq ?_ | with_reducible refine ws_next ?_ | with_reducible refine ws_ret ?_ | with_reducible refine ws_retN ?_ | with_reducible refine ws_if ?_ | ((with_reducible show WS _ (tDrop (tBM _ "list" _ (tVar _) _)) _ _ _ _ _); refine ws_mt rfl ?_) | ((with_reducible show WS _ (tDrop (tBM0 _ "list" _ (tVar _))) _ _ _ _ _); refine ws_mt0 rfl ?_) | ((with_reducible show WS _ (tAsg (tBM _ "list" _ (tVar _) _) (gName _)) _ _ _ _ _); refine ws_mtS rfl ?_) | ((with_reducible show WS _ (tAsg (tBM0 _ "list" _ (tVar _)) (gName _)) _ _ _ _ _); refine ws_mt0S rfl ?_) | ((with_reducible show WS _ (tAsgO (tDisp _) _) _ _ _ _ _); refine ws_setOwnK ?_) | ((with_reducible show WS _ (tAsgO tDNewK _) _ _ _ _ _); refine ws_setOwnK ?_) | ((with_reducible show WS _ (tAsgO (tDc _ _ _ _ _ _) _) _ _ _ _ _); refine ws_setOwnK ?_) | ((with_reducible show WS _ (tAsgO tDNewT _) _ _ _ _ _); refine ws_setOwnT ?_) | ((with_reducible show WS _ (tAsgO (tDispT1 _ _) _) _ _ _ _ _); refine ws_setOwnT ?_) | with_reducible refine ws_setOwn ?_ | ((with_reducible show WS _ (tAsg _ (gSub (tVar _) _ rSetL)) _ _ _ _ _); first | refine ws_setItem rfl ?_ | refine ws_setWl rfl ?_) | ((with_reducible show WS _ (tAugS (tVar _) _ _ _ _ _) _ _ _ _ _); refine ws_augItem rfl ?_) | ((with_reducible show WS _ (sDPut (tVar _) _ _) _ _ _ _ _); first | refine ws_dput rfl ?_ | refine ws_dputT rfl ?_) | ((with_reducible show WS _ (tDrop (tBM _ "dict" rUpd (tVar _) _)) _ _ _ _ _); refine ws_upd rfl ?_) | ((with_reducible show WS _ (tAsg (tCall (spDS _ _ _) _ _ _) (gName _)) _ _ _ _ _); refine ws_asgS ?_) | with_reducible refine ws_asg ?_ | with_reducible refine ws_drop ?_ | ((with_reducible show WS _ (tAug _ _ _) _ _ _ _ _); refine ws_aug rfl ?_) | with_reducible refine ws_par ?_ | with_reducible refine ws_break ?_ | with_reducible refine ws_cont ?_); walk_at "ds"))
local macro_rules | `(tactic| walk_at "d1") => `(tactic| ((with_reducible show WE ..); (first | ((with_reducible show WE _ (tVar _) _ _); refine we_var rfl ?_) | with_reducible refine we_op ?_ | with_reducible refine we_call ?_ | with_reducible refine we_int ?_ | with_reducible refine we_str ?_ | with_reducible refine we_bl ?_ | with_reducible refine we_non ?_ | with_reducible refine we_isi ?_ | with_reducible refine we_notV ?_ | with_reducible refine we_andV ?_ | with_reducible refine we_orV ?_ | with_reducible refine we_if ?_ | with_reducible refine we_chain ?_ | with_reducible refine we_un ?_ | with_reducible refine we_meth (by decide) ?_ | with_reducible refine we_tupK2 ?_ | with_reducible refine we_tup ?_ | with_reducible refine WO.we (wo_lst ?_) | with_reducible refine we_cb ?_ | ((with_reducible show WE _ (tFld _ _ "hard") _ _); refine we_hard (by assumption) ?_) | ((with_reducible show WE _ (tFld _ _ "heavy") _ _); refine we_heavy (by assumption) ?_) | ((with_reducible show WE _ (tFld _ _ "places") _ _); refine we_places (by assumption) ?_) | ((with_reducible show WE _ (tFld _ _ "told") _ _); refine we_told (by assumption) ?_) | ((with_reducible show WE _ (tFld _ _ "meets") _ _); refine we_meets (by assumption) ?_) | with_reducible refine we_din ?_ | with_reducible refine we_dnotin ?_ | ((with_reducible show WE _ (tDGet (tVar _) _) _ _); refine we_dgetL (by assumption) rfl ?_) | with_reducible refine we_dget ?_ | with_reducible refine we_idx ?_ | with_reducible refine WO.we (wo_rev ?_))))
local macro_rules | `(tactic| walk_at "dz") => `(tactic| skip)
local macro_rules | `(tactic| walk_at "dz") => `(tactic| (dsimp only [List.set, wipeR, snd_cons, snd_nil]; repeat walk_at "d1"))
local macro_rules | `(tactic| walk_at "dw") => `(tactic| (walk_at "ds"; (repeat walk_at "d1"); walk_at "dz"))
local macro_rules | `(tactic| walk_at "c1") => `(tactic| (first | ((with_reducible show Wl _ _ → _); intro _) | ((with_reducible show ∀ _ : HO, Wl _ _ → _); intro _ _)))
local macro_rules | `(tactic| walk_at "c1") => `(tactic| ((with_reducible show CI ..); (with_reducible refine c_rng1 ?_)))
local macro_rules | `(tactic| walk_at "c1") => `(tactic| ((with_reducible show CT ..); (with_reducible refine c_test ?_)))
local macro_rules | `(tactic| walk_at "c1") => `(tactic| ((with_reducible show CA ..); (first | with_reducible refine ca_cons ?_ | with_reducible refine ca_nil rfl (by assumption) ?_)))
local macro_rules | `(tactic| walk_at "c1") => `(tactic| ((with_reducible show CE ..); (first | with_reducible refine c_call rfl ?_ | with_reducible refine c_op ?_ | ((with_reducible show CE _ _ _ (tVar _) _ _); refine CE.of rfl (by assumption) ?_) | ((with_reducible show CE _ _ _ (tC _) _ _); refine CE.of rfl (by assumption) ?_) | with_reducible refine c_lst ?_ | with_reducible refine c_tup ?_)))
local macro_rules | `(tactic| walk_at "cd") => `(tactic| (walk_at "d1"))
local macro_rules | `(tactic| walk_at "cd") => `(tactic| (walk_at "c1"; walk_at "ds"))
local macro_rules | `(tactic| walk_at "cz") => `(tactic| skip)
local macro_rules | `(tactic| walk_at "cz") => `(tactic| (dsimp only [List.set, wipeR, snd_cons, snd_nil]; repeat walk_at "cd"))
local macro_rules | `(tactic| walk_at "cw") => `(tactic| (walk_at "ds"; (repeat walk_at "cd"); walk_at "cz"))

theorem bb_str : bootBuiltins "str" = some (.type "str") := by decide +kernel
theorem bb_ValueError : bootBuiltins "ValueError" = some (.type "ValueError") := by decide +kernel
def rStrI : List V → Hp → VK → Prop := fun xs H Q => ∃ i, xs = [.int i] ∧ i.natAbs.log2 < 1920 ∧ Q (.str (toString i)) H
theorem cr_strI {X : Cx} : CallR X (.type "str") rStrI := call_str_int
section
variable {M : Cm} {ρ : Rho} {k : D → Prop} {ka : List D → Prop} {te : TE}
theorem cr_strD {i : Int} (h : i.natAbs.log2 < 1920) (q : k (.str (toString i))) : CR M rStrI [.int i] k := fun F H vs Q g rr f => by
  obtain ⟨a, rfl, r1⟩ := rbs1 rr
  cases r1.int
  exact ⟨i, rfl, h, f _ _ F H (XE.refl g) (.str _) q⟩
end
theorem str_okS (s : String) : PySem.PyData.strOk (Str.ofString s) = true := by
  rw [PySem.Str.ofString_eq_toList]
  show (s.toList.map Char.toNat).toArray.all (· < 0x110000) = true
  rw [Array.all_eq_true_iff_forall_mem]
  intro x hx
  obtain ⟨c, _, rfl⟩ := List.mem_map.mp (List.mem_toArray.mp hx)
  have := c.valid
  refine decide_eq_true ?_
  rcases c.valid with h | ⟨_, h⟩
  · exact Nat.lt_trans h (by decide)
  · exact h
theorem str_okI (i : Int) : PySem.PyData.strOk (toString i) = true := str_okS _
theorem cut_6 (ns : List Int) : cutD (ns.map D.int) none (some 6) = (ns.take 6).map D.int := by
  have : cutD (ns.map D.int) none (some ((6 : Nat) : Int)) = (ns.map D.int).take 6 := by
    unfold cutD
    rw [HT.sIx_none, HT.sIx_nat]
    simp
  rw [show cutD (ns.map D.int) none (some 6) = (ns.map D.int).take 6 from this, List.map_take]
theorem len8 {α : Type} {l : List α} (h : l.length = 8) : ∃ a b c d e f g i, l = [a, b, c, d, e, f, g, i] := by
  match l, h with
  | [a, b, c, d, e, f, g, i], _ => exact ⟨a, b, c, d, e, f, g, i, rfl⟩
/-- the thing that is drawn -/
theorem things {j c : Int} (h0 : 0 ≤ c) (h1 : c < 5) : ∃ d, atI [D.int j, .int (0 - j), .str (toString j), .tup [.int j, .non], .non] c = some d ∧ Pl 5 d := by
  have : c = 0 ∨ c = 1 ∨ c = 2 ∨ c = 3 ∨ c = 4 := by omega
  rcases this with rfl | rfl | rfl | rfl | rfl
  · exact ⟨_, rfl, .int⟩
  · exact ⟨_, rfl, .int⟩
  · exact ⟨_, rfl, .str (str_okI j)⟩
  · exact ⟨_, rfl, .tup (pl_cons .int (pl_cons .non pl_nil))⟩
  · exact ⟨_, rfl, .non⟩
section
variable {P : Program} {w : World} {K : PySem.W.Frag} {mg : Str → Option Value} {base : Heap} {C : Addr}
theorem law_okD {st : Stmt} {N : List Str} {m : Nat} {f : Addr} {fd : FuncData} (F : Fun K "law" "law" st f fd) (S : FnScope N ["_law_script"] (defScope st))
    (hb : ∀ (cdv : Value) (A : Around) (outer : List Env) (s : Shared) (H : Hp) (E : XK) (ns : List Int), Room m (A.deeper (envOfC "law" (defScope st) s.heap.objs.size f cdv)) → ns.length ≤ 63 →
      ∃ t, PSs (cxOf CX0 P w K mg base N "law" (defScope st) f cdv A outer s H E).nox (defBody st) t ∧ WS ⟨K, C, none, noT H, H⟩ t (startR N [lI ns]) (fun _ => D.non = .bl true) (rtD fun d => d = .bl true) (fun _ => False) (fun _ => False)) : FnOk P w K mg base CX0 (m + 1) f fd ["_law_script"] (spLaw K) := by
  refine F.ok (k := m) S (fun vs H Q E h => ?_) (fun cdv A outer s H vs Q E hr h => ?_)
  · obtain ⟨a, ns, rfl, _⟩ := h
    rfl
  · obtain ⟨a, ns, rfl, hS, hlen, hT, q⟩ := h
    obtain ⟨t, h1, h2⟩ := hb cdv A outer s H E ns hr hlen
    refine ⟨t, h1, ws_start (st := none) (k := fun d => d = .bl true) ⟨Same.refl _, fun _ z => (nomatch z), hT⟩ (.cons (.lst (sqL_noT hS) (RA.ofInts ns)) .nil) (fun v d F' H' x r z => ?_) h2⟩
    subst z
    cases r
    exact q H'
local macro_rules | `(tactic| walk_at "d1") => `(tactic| ((with_reducible show WE _ (tExcV _ _) _ _); refine we_excV ?_))
local macro_rules | `(tactic| walk_at "d1") => `(tactic| ((with_reducible show WE _ (tBM _ "list" (rCntB _) _ _) _ _); refine we_cnt ?_))
local macro_rules | `(tactic| walk_at "d1") => `(tactic| ((with_reducible show WT _ (tB (tCB (rIsV _) _)) _ _); first | refine wt_B (WE.wb (we_isV (b := true) (.own _) ?_)) | refine wt_B (WE.wb (we_isV (b := true) (.ty _) ?_))))
abbrev s_law : Stmt := topS 19
abbrev n_law : List Str := ["_law_script", "_law_cell", "_law_number", "_law_thing", "_law_some", "_law_told", "_law_made", "_law_is_right"]
theorem sc_law : FnScope ["_law_script", "_law_cell", "_law_number", "_law_thing", "_law_some", "_law_told", "_law_made", "_law_is_right"] ["_law_script"] (defScope s_law) := ⟨rfl, rfl, rfl, by decide +kernel, rfl, by decide +kernel, by decide +kernel⟩
theorem ok_law {C_GrindError C_NoStand C_NoDust C_NoForm C_NoNaming C_Nothing C_Busy C_NoBench C_NoGrinding C_NoSpot C_NoHeight C_NoPaper C_TooMany : Addr} (B0 : Blt mg) (b_str : mg "str" = none) (b_ValueError : mg "ValueError" = none) (TC : TabC K [C_NoStand, C_NoDust, C_NoForm, C_NoNaming, C_Nothing, C_Busy, C_NoBench, C_NoGrinding, C_NoSpot, C_NoHeight, C_NoPaper, C_TooMany] C_GrindError) (X_GrindError : mg "GrindError" = some (.ref C_GrindError))
    (v_NoStand : EV K mg "NoStand" C_NoStand) (v_NoDust : EV K mg "NoDust" C_NoDust) (v_NoForm : EV K mg "NoForm" C_NoForm) (v_NoNaming : EV K mg "NoNaming" C_NoNaming) (v_Nothing : EV K mg "Nothing" C_Nothing) (v_Busy : EV K mg "Busy" C_Busy)
    (d__law_with : Def P w K mg base 3 "_law_with" ["_law_thing"] (spD K C (cWith [C_NoStand, C_NoDust, C_NoForm, C_NoNaming, C_Nothing, C_Busy, C_NoBench, C_NoGrinding, C_NoSpot, C_NoHeight, C_NoPaper, C_TooMany])))
    (d__law_kinds : Def P w K mg base 1 "_law_kinds" ["_law_made"] (spD K C (cKinds [C_NoStand, C_NoDust, C_NoForm, C_NoNaming, C_Nothing, C_Busy, C_NoBench, C_NoGrinding, C_NoSpot, C_NoHeight, C_NoPaper, C_TooMany])))
    {f : Addr} {fd : FuncData} (F : Fun K "law" "law" s_law f fd) : FnOk P w K mg base CX0 4 f fd ["_law_script"] (spLaw K) := by
  refine law_okD (C := C) (m := 3) F sc_law fun cdv A outer s H E ns hr hlen => ?_
  have B := B0
  refine ⟨_, (pss_cons (ps_for PassesOwn.never rfl (k_seq (K := K) rfl (pe_op (k_addS (K := K) rfl) (pe_lst (pa_cons pe_int (pa_cons pe_int (pa_cons pe_int (pa_cons pe_int pa_nil))))) (pe_slice (k_sl (K := K) rfl) (pv 0) po_none (po_some pe_int)))) (pg_name (i := 1) sc_law.nd rfl (Or.inl rfl)) (pss_cons (ps_set (i := 2) sc_law.nd rfl (Or.inl rfl) (pe_op op_mod (pv 1) (pe_op op_pow pe_int pe_int))) (pss_cons (ps_set (i := 3) sc_law.nd rfl (Or.inl rfl) (pe_ix (k_ix (K := K) rfl) (pe_lst (pa_cons (pv 2) (pa_cons (pe_op op_sub pe_int (pv 2)) (pa_cons (pe_callTy cr_strI (by rfl) b_str bb_str (pa_cons (pv 2) pa_nil)) (pa_cons (pe_tup (pa_cons (pv 2) (pa_cons pe_non pa_nil))) (pa_cons pe_non pa_nil)))))) (pe_op op_mod (pv 1) pe_int) (fun _ _ => rfl))) (pss_cons (ps_set (i := 4) sc_law.nd rfl (Or.inl rfl) (pe_lst (pa_cons (pe_v0 v_NoStand (by rfl)) (pa_cons (pe_v1 v_NoDust (by rfl) (pa_cons pe_str pa_nil)) (pa_cons (pe_v0 v_NoForm (by rfl)) (pa_cons (pe_v1 v_NoNaming (by rfl) (pa_cons pe_str pa_nil)) (pa_cons (pe_v0 v_Nothing (by rfl)) (pa_cons (pe_v1 v_Busy (by rfl) (pa_cons pe_str pa_nil)) (pa_cons (pe_v1 v_NoStand (by rfl) (pa_cons pe_str pa_nil)) (pa_cons (pe_v0 v_NoDust (by rfl)) pa_nil)))))))))) (pss_cons (ps_set (i := 5) sc_law.nd rfl (Or.inl rfl) (pe_d d__law_with (hr.mono (by decide)) (by rfl) (pa_cons (pv 3) pa_nil))) (pss_cons (ps_if (pt_cmpR (k_ne (K := K) rfl hr.units) (pe_lc (own := [("_law_made", 6), ("_law_is_right", 7)]) rfl sc_law.nd (k_seq (K := K) rfl (pv 5)) (blkOk_by (own := [("_law_made", 6), ("_law_is_right", 7)]) (N := n_law) (sc := defScope s_law) (by decide +kernel)) (fun _ _ _ _ _ => (k_tup (K := K) (n := 2) rfl rfl (pgs_cons (pg_name (i := 6) sc_law.nd rfl (Or.inl rfl)) (pgs_cons (pg_name (i := 7) sc_law.nd rfl (Or.inl rfl)) pgs_nil)))) (fun _ _ _ _ _ => (pts_one (pt_not (pt_val (pv 7))))) (fun _ _ _ _ _ => (pv 6))) (pe_lst pa_nil) (nomark _)) (pss_one (ps_ret pe_bl)) pss_nil) (pss_one (ps_for PassesOwn.never rfl (k_seq (K := K) rfl (pe_op (k_addS (K := K) rfl) (pv 4) (pe_lc (own := [("_law_made", 6), ("_law_is_right", 7)]) rfl sc_law.nd (k_seq (K := K) rfl (pv 5)) (blkOk_by (own := [("_law_made", 6), ("_law_is_right", 7)]) (N := n_law) (sc := defScope s_law) (by decide +kernel)) (fun _ _ _ _ _ => (k_tup (K := K) (n := 2) rfl rfl (pgs_cons (pg_name (i := 6) sc_law.nd rfl (Or.inl rfl)) (pgs_cons (pg_name (i := 7) sc_law.nd rfl (Or.inl rfl)) pgs_nil)))) (fun _ _ _ _ _ => pts_nil) (fun _ _ _ _ _ => (pv 6))))) (pg_name (i := 6) sc_law.nd rfl (Or.inl rfl)) (pss_cons (ps_if (PW.pt (pw_or (pt_not (pt_val (pe_callB (k_isV (K := K) rfl) (by rfl) B.isinstance bb_isinstance (pa_cons (pv 6) (pa_cons (pe_glob (v := .ref C_GrindError) (by rfl) X_GrindError rfl) pa_nil))))) (pw_or1 (pt_not (pt_val (pe_callB (k_isV (K := K) rfl) (by rfl) B.isinstance bb_isinstance (pa_cons (pv 6) (pa_cons (pe_bltn (v := .ty "ValueError") (by rfl) b_ValueError bb_ValueError rfl) pa_nil)))))))) (pss_one (ps_ret pe_bl)) pss_nil) (pss_one (ps_if (pt_cmpR (k_ne (K := K) rfl hr.units) (k_bm (K := K) rfl PySem.F.plainAttrs_list PySem.F.slot_list_count PySem.F.type_list_count (mt_cntB (K := K) rfl) (pe_d d__law_kinds (hr.mono (by decide)) (by rfl) (pa_cons (pv 6) pa_nil)) (pa_cons pe_bl pa_nil)) pe_int (nomark _)) (pss_one (ps_ret pe_bl)) pss_nil))))))))))) (pss_one (ps_ret pe_bl))), ?_⟩; refine start_eqR (ρ' := [some (.d (lI ns)), none, none, none, none, none, none, none]) rfl ?_
  refine ws_seq ?_
  refine ws_for (wi_seqL ?_)
  walk_at "dw"
  refine WO.we (wo_slL ?_)
  walk_at "dw"
  rw [cut_6]
  refine op_cat (by simp; omega) ?_
  walk_at "dw"
  refine ⟨fun i ρ => ρ.length = 8, rfl, ?_, ?_⟩
  · rintro i d ρ hd hρ
    obtain ⟨c, rfl⟩ : ∃ c : Int, d = .int c := by
      have := List.mem_of_getElem? hd
      rcases List.mem_append.mp this with h | h
      · simp only [List.mem_cons, List.not_mem_nil, or_false] at h
        rcases h with rfl | rfl | rfl | rfl <;> exact ⟨_, rfl⟩
      · obtain ⟨n, _, rfl⟩ := List.mem_map.mp h
        exact ⟨n, rfl⟩
    obtain ⟨a0, a1, a2, a3, a4, a5, a6, a7, rfl⟩ := len8 hρ
    walk_at "dw"
    refine op_Ii ⟨by decide, by decide, by decide⟩ ?_
    walk_at "dw"
    refine op_Ii (by decide) ?_
    walk_at "dw"
    have hj0 : 0 ≤ c % 10 ^ Int.toNat 30 := Int.emod_nonneg _ (by decide)
    have hj1 : c % 10 ^ Int.toNat 30 < 10 ^ 30 := Int.emod_lt_of_pos _ (by decide)
    revert hj0 hj1
    generalize c % 10 ^ Int.toNat 30 = j
    intro hj0 hj1
    refine cr_strD ?_ ?_
    · have : j.natAbs < 2 ^ 100 := by
        have : (10 : Int) ^ 30 < 2 ^ 100 := by decide
        omega
      have h2 := (Nat.log2_lt (n := j.natAbs) (k := 1920))
      by_cases z : j.natAbs = 0
      · rw [z]; decide
      · exact (Nat.log2_lt z).mpr (Nat.lt_of_lt_of_le this (Nat.pow_le_pow_right (by decide) (by decide)))
    walk_at "dw"
    refine op_Ii (by decide) ?_
    obtain ⟨d, hd, pd⟩ := things (j := j) (c := c % 5) (Int.emod_nonneg _ (by decide)) (Int.emod_lt_of_pos _ (by decide))
    refine op_ixL hd ?_
    walk_at "dw"
    refine ⟨d, rfl, pd, fun xs hx hl => ?_⟩
    walk_at "dw"
    refine WO.we (wo_lcf (α := Addr × List Str × List D) (WI.wv (wi_seqL ?_)))
    walk_at "dw"
    refine ⟨by rw [List.length_map]; omega, xs, _, fun x => .exv x.1 x.2.1 x.2.2, fun _ => false, rfl, fun x hx => ?_, ?_⟩
    · walk_at "dw"
      exact ⟨rfl, fun z => nomatch z⟩
    rw [show xs.filter (fun _ => false) = [] from List.filter_eq_nil_iff.mpr fun _ _ z => nomatch z]
    walk_at "dw"
    refine op_neDD (.lst fun _ z => nomatch z) (.lst fun _ z => nomatch z) ?_
    rw [show eqD (D.lst (List.map (fun x : Addr × List Str × List D => D.exv x.1 x.2.1 x.2.2) [])) (D.lst []) = true from rfl]
    walk_at "dw"
    refine ws_for (wi_seqL ?_)
    walk_at "dw"
    refine WO.we (wo_lc (α := Addr × List Str × List D) (WI.wv (wi_seqL ?_)))
    walk_at "dw"
    refine ⟨by rw [List.length_map]; omega, xs, _, fun x => .exv x.1 x.2.1 x.2.2, rfl, fun x hx => ?_, ?_⟩
    · walk_at "dw"
      done
    walk_at "dw"
    refine op_cat (by rw [List.length_map]; show 8 + _ ≤ 100000; omega) ?_
    walk_at "dw"
    refine ⟨fun i ρ => ∃ b6 b7, ρ = [a0, some (.d (.int c)), some (.d (.int j)), some (.d d), some (.d (.lst [.exv C_NoStand [] [], .exv C_NoDust [] [], .exv C_NoForm [] [], .exv C_NoNaming [] [], .exv C_Nothing [] [], .exv C_Busy [] [], .exv C_NoStand [] [], .exv C_NoDust [] []])), some (.d (.lst (xs.map fun x => .tup [.exv x.1 x.2.1 x.2.2, .bl true]))), b6, b7], ⟨_, _, rfl⟩, ?_, ?_⟩
    · rintro i y ρ hy ⟨b6, b7, rfl⟩
      obtain ⟨yc, yn, yl, rfl, ym⟩ : ∃ yc yn yl, y = .exv yc yn yl ∧ yc ∈ [C_NoStand, C_NoDust, C_NoForm, C_NoNaming, C_Nothing, C_Busy, C_NoBench, C_NoGrinding, C_NoSpot, C_NoHeight, C_NoPaper, C_TooMany] := by
        rcases List.mem_append.mp (List.mem_of_getElem? hy) with h | h
        · simp only [List.mem_cons, List.not_mem_nil, or_false] at h
          rcases h with h | h | h | h | h | h | h | h <;> exact ⟨_, _, _, h, by simp⟩
        · obtain ⟨x, hx2, rfl⟩ := List.mem_map.mp h
          exact ⟨_, _, _, rfl, hx x hx2⟩
      walk_at "dw"
      refine ⟨_, _, _, rfl, TC.xk yc ym, TC.up yc ym, ?_⟩
      walk_at "dw"
      refine ⟨_, _, _, rfl, TC.xk yc ym, TC.ve yc ym, ?_⟩
      walk_at "dw"
      refine ⟨yc, yn, yl, rfl, ym, fun bs hbs => ?_⟩
      walk_at "dw"
      rw [hbs, if_neg (by decide)]
      walk_at "dw"
      exact ⟨_, _, rfl⟩
    · rintro ρ ⟨b6, b7, rfl⟩
      rfl
  · intro ρ hρ
    have hρ : ρ.length = 8 := hρ
    obtain ⟨a, b, c, d, e, f, g, h, rfl⟩ := len8 hρ
    walk_at "dw"
    rfl
end
end G.Q

namespace G.Q
open PySem PySem.Spec PyProof.Rows L2
theorem all_mk {l : PySem.W.OpenLaw} {w : World} {K : PySem.W.Frag} {h : Heap} {mg : Str → Option Value} {fa : Addr} (X : K.In h) (G0 : h.Ns mainGlobals mg) (hfa : mg "law" = some (.ref fa))
    {f1 : Addr} {od1 an1 : Option Addr} {sl1 : Array (Option Value)} {oc1 kV1 dc1 pm1 cd1 ct1 : Value} (a1 : PySem.W.nsIn K mainGlobals "_law_kinds" = some (some (.ref f1))) (l1 : K.lookup f1 = some ⟨oc1, od1, .func (PySem.W.fnOf "_law_kinds" "_law_kinds" (defArgs s__law_kinds) (defBody s__law_kinds) (defScope s__law_kinds) .none kV1 dc1 pm1 an1 cd1 ct1), sl1⟩) (c1 : PySem.W.codeIn K cd1 "_law_kinds" = true) (k1 : PySem.W.keepIn K (.ref f1) = true)
    {f2 : Addr} {od2 an2 : Option Addr} {sl2 : Array (Option Value)} {oc2 kV2 dc2 pm2 cd2 ct2 : Value} (a2 : PySem.W.nsIn K mainGlobals "_law_with" = some (some (.ref f2))) (l2 : K.lookup f2 = some ⟨oc2, od2, .func (PySem.W.fnOf "_law_with" "_law_with" (defArgs s__law_with) (defBody s__law_with) (defScope s__law_with) .none kV2 dc2 pm2 an2 cd2 ct2), sl2⟩) (c2 : PySem.W.codeIn K cd2 "_law_with" = true) (k2 : PySem.W.keepIn K (.ref f2) = true)
    {f3 : Addr} {od3 an3 : Option Addr} {sl3 : Array (Option Value)} {oc3 kV3 dc3 pm3 cd3 ct3 : Value} (a3 : PySem.W.nsIn K mainGlobals "law" = some (some (.ref f3))) (l3 : K.lookup f3 = some ⟨oc3, od3, .func (PySem.W.fnOf "law" "law" (defArgs s_law) (defBody s_law) (defScope s_law) .none kV3 dc3 pm3 an3 cd3 ct3), sl3⟩) (c3 : PySem.W.codeIn K cd3 "law" = true) (k3 : PySem.W.keepIn K (.ref f3) = true)
    
    
    (b_len : PySem.W.nsIn K mainGlobals "len" = some none) (b_sum : PySem.W.nsIn K mainGlobals "sum" = some none) (b_sorted : PySem.W.nsIn K mainGlobals "sorted" = some none) (b_all : PySem.W.nsIn K mainGlobals "all" = some none) (b_any : PySem.W.nsIn K mainGlobals "any" = some none) (b_abs : PySem.W.nsIn K mainGlobals "abs" = some none) (b_isinstance : PySem.W.nsIn K mainGlobals "isinstance" = some none) (b_list : PySem.W.nsIn K mainGlobals "list" = some none) (b_tuple : PySem.W.nsIn K mainGlobals "tuple" = some none) (b_int : PySem.W.nsIn K mainGlobals "int" = some none) (b_bool : PySem.W.nsIn K mainGlobals "bool" = some none) (b_range : PySem.W.nsIn K mainGlobals "range" = some none) (b_zip : PySem.W.nsIn K mainGlobals "zip" = some none) (b_enumerate : PySem.W.nsIn K mainGlobals "enumerate" = some none)
    {C_NoStand C_NoDust C_NoForm C_NoNaming C_Nothing C_Busy C_NoBench C_NoGrinding C_NoSpot C_NoHeight C_NoPaper C_TooMany C_GrindError : Addr}
    (x_NoStand : PySem.W.nsIn K mainGlobals "NoStand" = some (some (.ref C_NoStand)))
    (x_NoDust : PySem.W.nsIn K mainGlobals "NoDust" = some (some (.ref C_NoDust)))
    (x_NoForm : PySem.W.nsIn K mainGlobals "NoForm" = some (some (.ref C_NoForm)))
    (x_NoNaming : PySem.W.nsIn K mainGlobals "NoNaming" = some (some (.ref C_NoNaming)))
    (x_Nothing : PySem.W.nsIn K mainGlobals "Nothing" = some (some (.ref C_Nothing)))
    (x_Busy : PySem.W.nsIn K mainGlobals "Busy" = some (some (.ref C_Busy)))
    (x_NoBench : PySem.W.nsIn K mainGlobals "NoBench" = some (some (.ref C_NoBench)))
    (x_NoGrinding : PySem.W.nsIn K mainGlobals "NoGrinding" = some (some (.ref C_NoGrinding)))
    (x_NoSpot : PySem.W.nsIn K mainGlobals "NoSpot" = some (some (.ref C_NoSpot)))
    (x_NoHeight : PySem.W.nsIn K mainGlobals "NoHeight" = some (some (.ref C_NoHeight)))
    (x_NoPaper : PySem.W.nsIn K mainGlobals "NoPaper" = some (some (.ref C_NoPaper)))
    (x_TooMany : PySem.W.nsIn K mainGlobals "TooMany" = some (some (.ref C_TooMany)))
    (x_GrindError : PySem.W.nsIn K mainGlobals "GrindError" = some (some (.ref C_GrindError)))
    (tb : tabB K [C_NoStand, C_NoDust, C_NoForm, C_NoNaming, C_Nothing, C_Busy, C_NoBench, C_NoGrinding, C_NoSpot, C_NoHeight, C_NoPaper, C_TooMany] C_GrindError = true)
    (s2 : PySem.W.specialIn K (.builtin "object.__class__") "__get__" = some (some (.builtin "getset_descriptor.__get__")))
    (s3 : PySem.W.takesIn K (.builtin "object.__class__") = some true)
    (p_NoStand : PySem.W.excIn K C_NoStand [.type "ValueError", .type "Exception", .type "BaseException", .type "object"] "ValueError.__new__" = true)
    (k_NoStand : PySem.W.keepIn K (.ref C_NoStand) = true)
    (p_NoDust : PySem.W.excIn K C_NoDust [.type "ValueError", .type "Exception", .type "BaseException", .type "object"] "ValueError.__new__" = true)
    (k_NoDust : PySem.W.keepIn K (.ref C_NoDust) = true)
    (p_NoForm : PySem.W.excIn K C_NoForm [.type "ValueError", .type "Exception", .type "BaseException", .type "object"] "ValueError.__new__" = true)
    (k_NoForm : PySem.W.keepIn K (.ref C_NoForm) = true)
    (p_NoNaming : PySem.W.excIn K C_NoNaming [.type "ValueError", .type "Exception", .type "BaseException", .type "object"] "ValueError.__new__" = true)
    (k_NoNaming : PySem.W.keepIn K (.ref C_NoNaming) = true)
    (p_Nothing : PySem.W.excIn K C_Nothing [.type "ValueError", .type "Exception", .type "BaseException", .type "object"] "ValueError.__new__" = true)
    (k_Nothing : PySem.W.keepIn K (.ref C_Nothing) = true)
    (p_Busy : PySem.W.excIn K C_Busy [.type "ValueError", .type "Exception", .type "BaseException", .type "object"] "ValueError.__new__" = true)
    (k_Busy : PySem.W.keepIn K (.ref C_Busy) = true)
    (o_NoBench : oexIn K C_NoBench = true)
    (sa_NoBench : PySem.W.findIn K (.ref C_NoBench) "__setattr__" = some (some (.builtin "object.__setattr__")))
    (bx_NoBench : PySem.W.subIn K (.ref C_NoBench) (.type "BaseException") = some true)
    (ty_NoBench : PySem.W.typeIn K (.ref C_NoBench) = some (.type "type"))
    (ke_NoBench : PySem.W.keepIn K (.ref C_NoBench) = true)
    {f_NoBench : Addr} {od_NoBench an_NoBench : Option Addr} {sl_NoBench : Array (Option Value)} {oc_NoBench kV_NoBench dc_NoBench pm_NoBench cd_NoBench ct_NoBench : Value}
    (i_NoBench : PySem.W.findIn K (.ref C_NoBench) "__init__" = some (some (.ref f_NoBench)))
    (tf_NoBench : PySem.W.typeIn K (.ref f_NoBench) = some (.type "function"))
    {dT : Addr} {odT : Option Addr} {slT : Array (Option Value)} {ocT : Value} {nT : Nat}
    (l_NoBench : K.lookup f_NoBench = some ⟨oc_NoBench, od_NoBench, .func (PySem.W.fnOf "__init__" "NoBench.__init__" (defArgs s_NoBench___init__) (defBody s_NoBench___init__) (defScope s_NoBench___init__) (.ref dT) kV_NoBench dc_NoBench pm_NoBench an_NoBench cd_NoBench ct_NoBench), sl_NoBench⟩)
    (dt : K.lookup dT = some ⟨ocT, odT, .seq #[.none] nT, slT⟩)
    (c_NoBench : PySem.W.codeIn K cd_NoBench "NoBench.__init__" = true)
    (kf_NoBench : PySem.W.keepIn K (.ref f_NoBench) = true)
    (o_NoGrinding : oexIn K C_NoGrinding = true)
    (sa_NoGrinding : PySem.W.findIn K (.ref C_NoGrinding) "__setattr__" = some (some (.builtin "object.__setattr__")))
    (bx_NoGrinding : PySem.W.subIn K (.ref C_NoGrinding) (.type "BaseException") = some true)
    (ty_NoGrinding : PySem.W.typeIn K (.ref C_NoGrinding) = some (.type "type"))
    (ke_NoGrinding : PySem.W.keepIn K (.ref C_NoGrinding) = true)
    {f_NoGrinding : Addr} {od_NoGrinding an_NoGrinding : Option Addr} {sl_NoGrinding : Array (Option Value)} {oc_NoGrinding kV_NoGrinding dc_NoGrinding pm_NoGrinding cd_NoGrinding ct_NoGrinding : Value}
    (i_NoGrinding : PySem.W.findIn K (.ref C_NoGrinding) "__init__" = some (some (.ref f_NoGrinding)))
    (tf_NoGrinding : PySem.W.typeIn K (.ref f_NoGrinding) = some (.type "function"))
    (l_NoGrinding : K.lookup f_NoGrinding = some ⟨oc_NoGrinding, od_NoGrinding, .func (PySem.W.fnOf "__init__" "NoGrinding.__init__" (defArgs s_NoGrinding___init__) (defBody s_NoGrinding___init__) (defScope s_NoGrinding___init__) .none kV_NoGrinding dc_NoGrinding pm_NoGrinding an_NoGrinding cd_NoGrinding ct_NoGrinding), sl_NoGrinding⟩)
    (c_NoGrinding : PySem.W.codeIn K cd_NoGrinding "NoGrinding.__init__" = true)
    (kf_NoGrinding : PySem.W.keepIn K (.ref f_NoGrinding) = true)
    (o_NoSpot : oexIn K C_NoSpot = true)
    (sa_NoSpot : PySem.W.findIn K (.ref C_NoSpot) "__setattr__" = some (some (.builtin "object.__setattr__")))
    (bx_NoSpot : PySem.W.subIn K (.ref C_NoSpot) (.type "BaseException") = some true)
    (ty_NoSpot : PySem.W.typeIn K (.ref C_NoSpot) = some (.type "type"))
    (ke_NoSpot : PySem.W.keepIn K (.ref C_NoSpot) = true)
    {f_NoSpot : Addr} {od_NoSpot an_NoSpot : Option Addr} {sl_NoSpot : Array (Option Value)} {oc_NoSpot kV_NoSpot dc_NoSpot pm_NoSpot cd_NoSpot ct_NoSpot : Value}
    (i_NoSpot : PySem.W.findIn K (.ref C_NoSpot) "__init__" = some (some (.ref f_NoSpot)))
    (tf_NoSpot : PySem.W.typeIn K (.ref f_NoSpot) = some (.type "function"))
    (l_NoSpot : K.lookup f_NoSpot = some ⟨oc_NoSpot, od_NoSpot, .func (PySem.W.fnOf "__init__" "NoSpot.__init__" (defArgs s_NoSpot___init__) (defBody s_NoSpot___init__) (defScope s_NoSpot___init__) .none kV_NoSpot dc_NoSpot pm_NoSpot an_NoSpot cd_NoSpot ct_NoSpot), sl_NoSpot⟩)
    (c_NoSpot : PySem.W.codeIn K cd_NoSpot "NoSpot.__init__" = true)
    (kf_NoSpot : PySem.W.keepIn K (.ref f_NoSpot) = true)
    (o_NoHeight : oexIn K C_NoHeight = true)
    (sa_NoHeight : PySem.W.findIn K (.ref C_NoHeight) "__setattr__" = some (some (.builtin "object.__setattr__")))
    (bx_NoHeight : PySem.W.subIn K (.ref C_NoHeight) (.type "BaseException") = some true)
    (ty_NoHeight : PySem.W.typeIn K (.ref C_NoHeight) = some (.type "type"))
    (ke_NoHeight : PySem.W.keepIn K (.ref C_NoHeight) = true)
    {f_NoHeight : Addr} {od_NoHeight an_NoHeight : Option Addr} {sl_NoHeight : Array (Option Value)} {oc_NoHeight kV_NoHeight dc_NoHeight pm_NoHeight cd_NoHeight ct_NoHeight : Value}
    (i_NoHeight : PySem.W.findIn K (.ref C_NoHeight) "__init__" = some (some (.ref f_NoHeight)))
    (tf_NoHeight : PySem.W.typeIn K (.ref f_NoHeight) = some (.type "function"))
    (l_NoHeight : K.lookup f_NoHeight = some ⟨oc_NoHeight, od_NoHeight, .func (PySem.W.fnOf "__init__" "NoHeight.__init__" (defArgs s_NoHeight___init__) (defBody s_NoHeight___init__) (defScope s_NoHeight___init__) .none kV_NoHeight dc_NoHeight pm_NoHeight an_NoHeight cd_NoHeight ct_NoHeight), sl_NoHeight⟩)
    (c_NoHeight : PySem.W.codeIn K cd_NoHeight "NoHeight.__init__" = true)
    (kf_NoHeight : PySem.W.keepIn K (.ref f_NoHeight) = true)
    (o_NoPaper : oexIn K C_NoPaper = true)
    (sa_NoPaper : PySem.W.findIn K (.ref C_NoPaper) "__setattr__" = some (some (.builtin "object.__setattr__")))
    (bx_NoPaper : PySem.W.subIn K (.ref C_NoPaper) (.type "BaseException") = some true)
    (ty_NoPaper : PySem.W.typeIn K (.ref C_NoPaper) = some (.type "type"))
    (ke_NoPaper : PySem.W.keepIn K (.ref C_NoPaper) = true)
    {f_NoPaper : Addr} {od_NoPaper an_NoPaper : Option Addr} {sl_NoPaper : Array (Option Value)} {oc_NoPaper kV_NoPaper dc_NoPaper pm_NoPaper cd_NoPaper ct_NoPaper : Value}
    (i_NoPaper : PySem.W.findIn K (.ref C_NoPaper) "__init__" = some (some (.ref f_NoPaper)))
    (tf_NoPaper : PySem.W.typeIn K (.ref f_NoPaper) = some (.type "function"))
    (l_NoPaper : K.lookup f_NoPaper = some ⟨oc_NoPaper, od_NoPaper, .func (PySem.W.fnOf "__init__" "NoPaper.__init__" (defArgs s_NoPaper___init__) (defBody s_NoPaper___init__) (defScope s_NoPaper___init__) .none kV_NoPaper dc_NoPaper pm_NoPaper an_NoPaper cd_NoPaper ct_NoPaper), sl_NoPaper⟩)
    (c_NoPaper : PySem.W.codeIn K cd_NoPaper "NoPaper.__init__" = true)
    (kf_NoPaper : PySem.W.keepIn K (.ref f_NoPaper) = true)
    (o_TooMany : oexIn K C_TooMany = true)
    (sa_TooMany : PySem.W.findIn K (.ref C_TooMany) "__setattr__" = some (some (.builtin "object.__setattr__")))
    (bx_TooMany : PySem.W.subIn K (.ref C_TooMany) (.type "BaseException") = some true)
    (ty_TooMany : PySem.W.typeIn K (.ref C_TooMany) = some (.type "type"))
    (ke_TooMany : PySem.W.keepIn K (.ref C_TooMany) = true)
    {f_TooMany : Addr} {od_TooMany an_TooMany : Option Addr} {sl_TooMany : Array (Option Value)} {oc_TooMany kV_TooMany dc_TooMany pm_TooMany cd_TooMany ct_TooMany : Value}
    (i_TooMany : PySem.W.findIn K (.ref C_TooMany) "__init__" = some (some (.ref f_TooMany)))
    (tf_TooMany : PySem.W.typeIn K (.ref f_TooMany) = some (.type "function"))
    (l_TooMany : K.lookup f_TooMany = some ⟨oc_TooMany, od_TooMany, .func (PySem.W.fnOf "__init__" "TooMany.__init__" (defArgs s_TooMany___init__) (defBody s_TooMany___init__) (defScope s_TooMany___init__) .none kV_TooMany dc_TooMany pm_TooMany an_TooMany cd_TooMany ct_TooMany), sl_TooMany⟩)
    (c_TooMany : PySem.W.codeIn K cd_TooMany "TooMany.__init__" = true)
    (kf_TooMany : PySem.W.keepIn K (.ref f_TooMany) = true)
    (n_NoGrinding : PySem.W.findIn K (.ref C_NoGrinding) "at" = some none)
    (n_NoSpot : PySem.W.findIn K (.ref C_NoSpot) "thing" = some none)
    (n_NoHeight : PySem.W.findIn K (.ref C_NoHeight) "thing" = some none)
    (n_NoPaper : PySem.W.findIn K (.ref C_NoPaper) "at" = some none)
    (n_TooMany : PySem.W.findIn K (.ref C_TooMany) "many" = some none)
    (n_what : PySem.W.findIn K (.ref C_NoBench) "what" = some none)
    (n_at : PySem.W.findIn K (.ref C_NoBench) "at" = some none)
    (z1 : PySem.W.keepIn K (.ref C_GrindError) = true)
    (z2 : PySem.W.specialIn K (.ref C_GrindError) "__getattribute__" = some (some (.builtin "type.__getattribute__")))
    (z3 : PySem.W.readsIn K C_GrindError (.type "type") = true)
    (z4 : PySem.W.findCls K (.ref C_GrindError) (.type "type") "__init__" = some (.val (.builtin "ValueError.__init__")))
    (b_str : PySem.W.nsIn K mainGlobals "str" = some none)
    (b_ValueError : PySem.W.nsIn K mainGlobals "ValueError" = some none) :
    ∃ fd : FuncData, (∀ (s : Shared) (v : Value), BindsTo s fd ⟨[v], []⟩ [("_law_script", v)]) ∧ ∀ base : Heap, K.In base → base.Ns mainGlobals mg → FnOk l.prog w K mg base CX0 4 fa fd ["_law_script"] (spLaw K) := by
  have e := hfa.symm.trans (PySem.W.mg_of X G0 a3)
  cases e
  have B : Blt mg := ⟨PySem.W.mg_none_of X G0 b_len, PySem.W.mg_none_of X G0 b_sum, PySem.W.mg_none_of X G0 b_sorted, PySem.W.mg_none_of X G0 b_all, PySem.W.mg_none_of X G0 b_any, PySem.W.mg_none_of X G0 b_abs, PySem.W.mg_none_of X G0 b_isinstance, PySem.W.mg_none_of X G0 b_list, PySem.W.mg_none_of X G0 b_tuple, PySem.W.mg_none_of X G0 b_int, PySem.W.mg_none_of X G0 b_bool, PySem.W.mg_none_of X G0 b_range, PySem.W.mg_none_of X G0 b_zip, PySem.W.mg_none_of X G0 b_enumerate⟩
  have F__law_kinds : FunAt K mg "_law_kinds" s__law_kinds ["_law_made"] := ⟨f1, _, fun_mk (st := s__law_kinds) l1 c1 k1, PySem.W.mg_of X G0 a1, (fun_mk (st := s__law_kinds) l1 c1 k1).binds (ps := ["_law_made"]) fun _ _ _ _ _ _ us hl => match us, hl with | [_], _ => rfl⟩
  have F__law_with : FunAt K mg "_law_with" s__law_with ["_law_thing"] := ⟨f2, _, fun_mk (st := s__law_with) l2 c2 k2, PySem.W.mg_of X G0 a2, (fun_mk (st := s__law_with) l2 c2 k2).binds (ps := ["_law_thing"]) fun _ _ _ _ _ _ us hl => match us, hl with | [_], _ => rfl⟩
  have FL := fun_mk (st := s_law) l3 c3 k3
  refine ⟨_, fun s v => .of_eq (rfl : bindArgs (PySem.W.fnOf "law" "law" (defArgs s_law) (defBody s_law) (defScope s_law) .none kV3 dc3 pm3 an3 cd3 ct3) ⟨[v], []⟩ = _), fun base _ _ => ?_⟩
  have TC := tabB_ok s2 s3 tb
  have GE : GeC K mg "GrindError" C_GrindError := ⟨(PySem.W.mg_of X G0 x_GrindError), z1, z2, z3, z4⟩
  have v_NoStand : EV K mg "NoStand" C_NoStand := ⟨(PySem.W.mg_of X G0 x_NoStand), p_NoStand, k_NoStand⟩
  have v_NoDust : EV K mg "NoDust" C_NoDust := ⟨(PySem.W.mg_of X G0 x_NoDust), p_NoDust, k_NoDust⟩
  have v_NoForm : EV K mg "NoForm" C_NoForm := ⟨(PySem.W.mg_of X G0 x_NoForm), p_NoForm, k_NoForm⟩
  have v_NoNaming : EV K mg "NoNaming" C_NoNaming := ⟨(PySem.W.mg_of X G0 x_NoNaming), p_NoNaming, k_NoNaming⟩
  have v_Nothing : EV K mg "Nothing" C_Nothing := ⟨(PySem.W.mg_of X G0 x_Nothing), p_Nothing, k_Nothing⟩
  have v_Busy : EV K mg "Busy" C_Busy := ⟨(PySem.W.mg_of X G0 x_Busy), p_Busy, k_Busy⟩
  have OX_NoGrinding : OexC K C_NoGrinding := ⟨oex_cls o_NoGrinding, sa_NoGrinding, bx_NoGrinding, ty_NoGrinding, ke_NoGrinding⟩
  have FN_NoGrinding := fun_mk (st := s_NoGrinding___init__) l_NoGrinding c_NoGrinding kf_NoGrinding
  have bN_NoGrinding := FN_NoGrinding.binds (ps := ["self", "at"]) fun _ _ _ _ _ _ us hl => match us, hl with | [_, _], _ => rfl
  have EI_NoGrinding : EI l.prog w K mg base 1 C_NoGrinding "NoGrinding" ["self", "at"] (spXI K "at") [] := ⟨⟨_, _, [], ok_NoGrinding_init GE FN_NoGrinding, .nil, bN_NoGrinding, i_NoGrinding, tf_NoGrinding, OX_NoGrinding⟩, (PySem.W.mg_of X G0 x_NoGrinding)⟩
  have C1_NoGrinding : C1 K C_NoGrinding "at" := ⟨OX_NoGrinding, n_NoGrinding⟩
  have OX_NoSpot : OexC K C_NoSpot := ⟨oex_cls o_NoSpot, sa_NoSpot, bx_NoSpot, ty_NoSpot, ke_NoSpot⟩
  have FN_NoSpot := fun_mk (st := s_NoSpot___init__) l_NoSpot c_NoSpot kf_NoSpot
  have bN_NoSpot := FN_NoSpot.binds (ps := ["self", "thing"]) fun _ _ _ _ _ _ us hl => match us, hl with | [_, _], _ => rfl
  have EI_NoSpot : EI l.prog w K mg base 1 C_NoSpot "NoSpot" ["self", "thing"] (spXI K "thing") [] := ⟨⟨_, _, [], ok_NoSpot_init GE FN_NoSpot, .nil, bN_NoSpot, i_NoSpot, tf_NoSpot, OX_NoSpot⟩, (PySem.W.mg_of X G0 x_NoSpot)⟩
  have C1_NoSpot : C1 K C_NoSpot "thing" := ⟨OX_NoSpot, n_NoSpot⟩
  have OX_NoHeight : OexC K C_NoHeight := ⟨oex_cls o_NoHeight, sa_NoHeight, bx_NoHeight, ty_NoHeight, ke_NoHeight⟩
  have FN_NoHeight := fun_mk (st := s_NoHeight___init__) l_NoHeight c_NoHeight kf_NoHeight
  have bN_NoHeight := FN_NoHeight.binds (ps := ["self", "thing"]) fun _ _ _ _ _ _ us hl => match us, hl with | [_, _], _ => rfl
  have EI_NoHeight : EI l.prog w K mg base 1 C_NoHeight "NoHeight" ["self", "thing"] (spXI K "thing") [] := ⟨⟨_, _, [], ok_NoHeight_init GE FN_NoHeight, .nil, bN_NoHeight, i_NoHeight, tf_NoHeight, OX_NoHeight⟩, (PySem.W.mg_of X G0 x_NoHeight)⟩
  have C1_NoHeight : C1 K C_NoHeight "thing" := ⟨OX_NoHeight, n_NoHeight⟩
  have OX_NoPaper : OexC K C_NoPaper := ⟨oex_cls o_NoPaper, sa_NoPaper, bx_NoPaper, ty_NoPaper, ke_NoPaper⟩
  have FN_NoPaper := fun_mk (st := s_NoPaper___init__) l_NoPaper c_NoPaper kf_NoPaper
  have bN_NoPaper := FN_NoPaper.binds (ps := ["self", "at"]) fun _ _ _ _ _ _ us hl => match us, hl with | [_, _], _ => rfl
  have EI_NoPaper : EI l.prog w K mg base 1 C_NoPaper "NoPaper" ["self", "at"] (spXI K "at") [] := ⟨⟨_, _, [], ok_NoPaper_init GE FN_NoPaper, .nil, bN_NoPaper, i_NoPaper, tf_NoPaper, OX_NoPaper⟩, (PySem.W.mg_of X G0 x_NoPaper)⟩
  have C1_NoPaper : C1 K C_NoPaper "at" := ⟨OX_NoPaper, n_NoPaper⟩
  have OX_TooMany : OexC K C_TooMany := ⟨oex_cls o_TooMany, sa_TooMany, bx_TooMany, ty_TooMany, ke_TooMany⟩
  have FN_TooMany := fun_mk (st := s_TooMany___init__) l_TooMany c_TooMany kf_TooMany
  have bN_TooMany := FN_TooMany.binds (ps := ["self", "many"]) fun _ _ _ _ _ _ us hl => match us, hl with | [_, _], _ => rfl
  have EI_TooMany : EI l.prog w K mg base 1 C_TooMany "TooMany" ["self", "many"] (spXI K "many") [] := ⟨⟨_, _, [], ok_TooMany_init GE FN_TooMany, .nil, bN_TooMany, i_TooMany, tf_TooMany, OX_TooMany⟩, (PySem.W.mg_of X G0 x_TooMany)⟩
  have C1_TooMany : C1 K C_TooMany "many" := ⟨OX_TooMany, n_TooMany⟩
  have OX_NoBench : OexC K C_NoBench := ⟨oex_cls o_NoBench, sa_NoBench, bx_NoBench, ty_NoBench, ke_NoBench⟩
  have FN : FunD K "__init__" "NoBench.__init__" (defArgs s_NoBench___init__) (defBody s_NoBench___init__) (defScope s_NoBench___init__) [V.non] [] f_NoBench _ := ⟨⟨_, _, _, _, _, _, _, _, _, _, rfl, l_NoBench, c_NoBench, .inr ⟨by simp, dT, _, [.none], nT, rfl, dt, rfl, .cons rfl .nil⟩, .inl rfl⟩, kf_NoBench⟩
  obtain ⟨d3, w3, b3⟩ := FN.binds1 (ps := ["self", "what", "at"]) 3 1 (by simp) rfl (fun T kV doc pm an cdv ct us its h1 h2 => match us, h1, its, h2 with | [_, _, _], _, [_], _ => ⟨_, rfl, rfl⟩)
  obtain ⟨d2, w2, b2⟩ := FN.binds1 (ps := ["self", "what", "at"]) 2 0 (by simp) rfl (fun T kV doc pm an cdv ct us its h1 h2 => match us, h1, its, h2 with | [_, _], _, [_], _ => ⟨_, rfl, rfl⟩)
  have e3 : d3 = [] := by cases w3; rfl
  subst e3
  have EN : EI l.prog w K mg base 1 C_NoBench "NoBench" ["self", "what", "at"] (spNB K) [] := ⟨⟨_, _, [], ok_NoBench_init GE FN, .nil, b3, i_NoBench, tf_NoBench, OX_NoBench⟩, (PySem.W.mg_of X G0 x_NoBench)⟩
  have EN1 : EI l.prog w K mg base 1 C_NoBench "NoBench" ["self", "what", "at"] (spNB K) [.non] := ⟨⟨_, _, d2, ok_NoBench_init GE FN, w2, b2, i_NoBench, tf_NoBench, OX_NoBench⟩, (PySem.W.mg_of X G0 x_NoBench)⟩
  have e1 := ok_kinds (P := l.prog) (w := w) (K := K) (mg := mg) (base := base) (C := 0) B TC (PySem.W.mg_of X G0 x_NoStand) (PySem.W.mg_of X G0 x_NoDust) (PySem.W.mg_of X G0 x_NoForm) (PySem.W.mg_of X G0 x_NoNaming) (PySem.W.mg_of X G0 x_Nothing) (PySem.W.mg_of X G0 x_Busy) (PySem.W.mg_of X G0 x_NoBench) (PySem.W.mg_of X G0 x_NoGrinding) (PySem.W.mg_of X G0 x_NoSpot) (PySem.W.mg_of X G0 x_NoHeight) (PySem.W.mg_of X G0 x_NoPaper) (PySem.W.mg_of X G0 x_TooMany) F__law_kinds
  have e2 := ok_with (P := l.prog) (w := w) (K := K) (mg := mg) (base := base) (C := 0) B TC OX_NoBench n_what n_at EN EN1 EI_NoGrinding EI_NoPaper EI_NoSpot EI_NoHeight EI_TooMany C1_NoGrinding C1_NoPaper C1_NoSpot C1_NoHeight C1_TooMany F__law_with
  exact ok_law (C := 0) B (PySem.W.mg_none_of X G0 b_str) (PySem.W.mg_none_of X G0 b_ValueError) TC (PySem.W.mg_of X G0 x_GrindError) v_NoStand v_NoDust v_NoForm v_NoNaming v_Nothing v_Busy e2 e1 FL
end G.Q
open PySem PySem.W PyProof.Rows
set_option maxRecDepth 100000 in
set_option maxHeartbeats 0 in
theorem PySem.Challenge.cw_groundmatch_k59_refusals_by_hand_holds : PySem.Challenge.rw_groundmatch_k59_refusals_by_hand.Holds := by
  w_on; o_law; k_head; (case hw => w_witness2)
  k_fill
  refine L2.walk_of (l := PySem.Challenge.rw_groundmatch_k59_refusals_by_hand) (n := 63) (k := 4) (x := "_law_script") (CX := fun _ => L2.CX0) (sp := fun w => G.spLaw _) rfl (by decide) rfl ⟨rfl, by decide, by decide⟩ (fun w h Y => PySem.W.kIn_of Y) ?F (fun _ H a ns hl _ hS => ⟨a, ns, rfl, hS, hl, fun p hp => (by cases hp), fun _ => rfl⟩) (fun _ _ _ _ _ h => h)
  case F =>
    intro w mg fa h KX G0 hmg
    refine' G.Q.all_mk KX G0 hmg ?a1 ?l1 ?c1 ?k1 ?a2 ?l2 ?c2 ?k2 ?a3 ?l3 ?c3 ?k3 ?b_len ?b_sum ?b_sorted ?b_all ?b_any ?b_abs ?b_isinstance ?b_list ?b_tuple ?b_int ?b_bool ?b_range ?b_zip ?b_enumerate ?x_NoStand ?x_NoDust ?x_NoForm ?x_NoNaming ?x_Nothing ?x_Busy ?x_NoBench ?x_NoGrinding ?x_NoSpot ?x_NoHeight ?x_NoPaper ?x_TooMany ?x_GrindError ?tb ?s2 ?s3 ?p_NoStand ?k_NoStand ?p_NoDust ?k_NoDust ?p_NoForm ?k_NoForm ?p_NoNaming ?k_NoNaming ?p_Nothing ?k_Nothing ?p_Busy ?k_Busy ?o_NoBench ?sa_NoBench ?bx_NoBench ?ty_NoBench ?ke_NoBench ?i_NoBench ?tf_NoBench ?l_NoBench ?dt ?c_NoBench ?kf_NoBench ?o_NoGrinding ?sa_NoGrinding ?bx_NoGrinding ?ty_NoGrinding ?ke_NoGrinding ?i_NoGrinding ?tf_NoGrinding ?l_NoGrinding ?c_NoGrinding ?kf_NoGrinding ?o_NoSpot ?sa_NoSpot ?bx_NoSpot ?ty_NoSpot ?ke_NoSpot ?i_NoSpot ?tf_NoSpot ?l_NoSpot ?c_NoSpot ?kf_NoSpot ?o_NoHeight ?sa_NoHeight ?bx_NoHeight ?ty_NoHeight ?ke_NoHeight ?i_NoHeight ?tf_NoHeight ?l_NoHeight ?c_NoHeight ?kf_NoHeight ?o_NoPaper ?sa_NoPaper ?bx_NoPaper ?ty_NoPaper ?ke_NoPaper ?i_NoPaper ?tf_NoPaper ?l_NoPaper ?c_NoPaper ?kf_NoPaper ?o_TooMany ?sa_TooMany ?bx_TooMany ?ty_TooMany ?ke_TooMany ?i_TooMany ?tf_TooMany ?l_TooMany ?c_TooMany ?kf_TooMany ?n_NoGrinding ?n_NoSpot ?n_NoHeight ?n_NoPaper ?n_TooMany ?n_what ?n_at ?z1 ?z2 ?z3 ?z4 ?b_str ?b_ValueError
    (case a1 => k_is); (case l1 => k_is); (case c1 => k_is); (case k1 => k_is); (case a2 => k_is); (case l2 => k_is); (case c2 => k_is); (case k2 => k_is)
    (case a3 => k_is); (case l3 => k_is); (case c3 => k_is); (case k3 => k_is); (case b_len => k_is); (case b_sum => k_is); (case b_sorted => k_is); (case b_all => k_is)
    (case b_any => k_is); (case b_abs => k_is); (case b_isinstance => k_is); (case b_list => k_is); (case b_tuple => k_is); (case b_int => k_is); (case b_bool => k_is); (case b_range => k_is)
    (case b_zip => k_is); (case b_enumerate => k_is); (case x_NoStand => first | k_is | rfl | decide +kernel); (case x_NoDust => first | k_is | rfl | decide +kernel); (case x_NoForm => first | k_is | rfl | decide +kernel); (case x_NoNaming => first | k_is | rfl | decide +kernel); (case x_Nothing => first | k_is | rfl | decide +kernel); (case x_Busy => first | k_is | rfl | decide +kernel)
    (case x_NoBench => first | k_is | rfl | decide +kernel); (case x_NoGrinding => first | k_is | rfl | decide +kernel); (case x_NoSpot => first | k_is | rfl | decide +kernel); (case x_NoHeight => first | k_is | rfl | decide +kernel); (case x_NoPaper => first | k_is | rfl | decide +kernel); (case x_TooMany => first | k_is | rfl | decide +kernel); (case x_GrindError => first | k_is | rfl | decide +kernel); (case tb => first | rfl | decide +kernel)
    (case s2 => first | k_is | rfl | decide +kernel); (case s3 => first | k_is | rfl | decide +kernel); (case p_NoStand => k_exc); (case k_NoStand => first | k_is | rfl | decide +kernel); (case p_NoDust => k_exc); (case k_NoDust => first | k_is | rfl | decide +kernel); (case p_NoForm => k_exc); (case k_NoForm => first | k_is | rfl | decide +kernel)
    (case p_NoNaming => k_exc); (case k_NoNaming => first | k_is | rfl | decide +kernel); (case p_Nothing => k_exc); (case k_Nothing => first | k_is | rfl | decide +kernel); (case p_Busy => k_exc); (case k_Busy => first | k_is | rfl | decide +kernel); (case o_NoBench => first | rfl | decide +kernel); (case sa_NoBench => first | k_is | rfl | decide +kernel)
    (case bx_NoBench => first | k_is | rfl | decide +kernel); (case ty_NoBench => first | k_is | rfl | decide +kernel); (case ke_NoBench => first | k_is | rfl | decide +kernel); (case i_NoBench => first | k_is | rfl | decide +kernel); (case tf_NoBench => first | k_is | rfl | decide +kernel); (case l_NoBench => first | k_is | rfl | decide +kernel); (case dt => first | k_is | rfl | decide +kernel); (case c_NoBench => first | k_is | rfl | decide +kernel)
    (case kf_NoBench => first | k_is | rfl | decide +kernel); (case o_NoGrinding => first | rfl | decide +kernel); (case sa_NoGrinding => first | k_is | rfl | decide +kernel); (case bx_NoGrinding => first | k_is | rfl | decide +kernel); (case ty_NoGrinding => first | k_is | rfl | decide +kernel); (case ke_NoGrinding => first | k_is | rfl | decide +kernel); (case i_NoGrinding => first | k_is | rfl | decide +kernel); (case tf_NoGrinding => first | k_is | rfl | decide +kernel)
    (case l_NoGrinding => first | k_is | rfl | decide +kernel); (case c_NoGrinding => first | k_is | rfl | decide +kernel); (case kf_NoGrinding => first | k_is | rfl | decide +kernel); (case o_NoSpot => first | rfl | decide +kernel); (case sa_NoSpot => first | k_is | rfl | decide +kernel); (case bx_NoSpot => first | k_is | rfl | decide +kernel); (case ty_NoSpot => first | k_is | rfl | decide +kernel); (case ke_NoSpot => first | k_is | rfl | decide +kernel)
    (case i_NoSpot => first | k_is | rfl | decide +kernel); (case tf_NoSpot => first | k_is | rfl | decide +kernel); (case l_NoSpot => first | k_is | rfl | decide +kernel); (case c_NoSpot => first | k_is | rfl | decide +kernel); (case kf_NoSpot => first | k_is | rfl | decide +kernel); (case o_NoHeight => first | rfl | decide +kernel); (case sa_NoHeight => first | k_is | rfl | decide +kernel); (case bx_NoHeight => first | k_is | rfl | decide +kernel)
    (case ty_NoHeight => first | k_is | rfl | decide +kernel); (case ke_NoHeight => first | k_is | rfl | decide +kernel); (case i_NoHeight => first | k_is | rfl | decide +kernel); (case tf_NoHeight => first | k_is | rfl | decide +kernel); (case l_NoHeight => first | k_is | rfl | decide +kernel); (case c_NoHeight => first | k_is | rfl | decide +kernel); (case kf_NoHeight => first | k_is | rfl | decide +kernel); (case o_NoPaper => first | rfl | decide +kernel)
    (case sa_NoPaper => first | k_is | rfl | decide +kernel); (case bx_NoPaper => first | k_is | rfl | decide +kernel); (case ty_NoPaper => first | k_is | rfl | decide +kernel); (case ke_NoPaper => first | k_is | rfl | decide +kernel); (case i_NoPaper => first | k_is | rfl | decide +kernel); (case tf_NoPaper => first | k_is | rfl | decide +kernel); (case l_NoPaper => first | k_is | rfl | decide +kernel); (case c_NoPaper => first | k_is | rfl | decide +kernel)
    (case kf_NoPaper => first | k_is | rfl | decide +kernel); (case o_TooMany => first | rfl | decide +kernel); (case sa_TooMany => first | k_is | rfl | decide +kernel); (case bx_TooMany => first | k_is | rfl | decide +kernel); (case ty_TooMany => first | k_is | rfl | decide +kernel); (case ke_TooMany => first | k_is | rfl | decide +kernel); (case i_TooMany => first | k_is | rfl | decide +kernel); (case tf_TooMany => first | k_is | rfl | decide +kernel)
    (case l_TooMany => first | k_is | rfl | decide +kernel); (case c_TooMany => first | k_is | rfl | decide +kernel); (case kf_TooMany => first | k_is | rfl | decide +kernel); (case n_NoGrinding => first | k_is | rfl | decide +kernel); (case n_NoSpot => first | k_is | rfl | decide +kernel); (case n_NoHeight => first | k_is | rfl | decide +kernel); (case n_NoPaper => first | k_is | rfl | decide +kernel); (case n_TooMany => first | k_is | rfl | decide +kernel)
    (case n_what => first | k_is | rfl | decide +kernel); (case n_at => first | k_is | rfl | decide +kernel); (case z1 => first | k_is | rfl | decide +kernel); (case z2 => first | k_is | rfl | decide +kernel); (case z3 => first | k_is | rfl | decide +kernel); (case z4 => first | k_is | rfl | decide +kernel); (case b_str => first | k_is | rfl | decide +kernel); (case b_ValueError => first | k_is | rfl | decide +kernel)

