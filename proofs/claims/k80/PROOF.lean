import PyProof.Rows.All
import Wide.All
import OpenK.AllK
import Wide.FinOn
import HandS.ForMost
import HandS.ForExc
import HandS.Walk
import HandS.IsInst
import HandS.TupAny
import HandS.SortInts
import HandS.SortRule
import HandS.Wide
import HandS.CallSlots
import HandS.Style
import HandS.Evl
import HandS.Zip
import KE.GoesZip
import KE.GoesMore
import KE.KDictZip
import KE.KItemsList
import HandS.Keys
import HandS.ListItems
import HandS.Deep
import HandS.TupMul
import KE.GoesEnum
import HandS.More
import HandS.Dict
import HandS.Iter
import KE.KDictCopyH
import HandS.DictTup
import HandS.SetFor
import HandS.Strs
import HandS.Conv
import PySem.Challenge.RW_exacttests_k80_whole_rules_and_quotients
set_option Elab.async false
set_option linter.all false
set_option maxRecDepth 100000
set_option maxHeartbeats 2000000
/-! DC0: the makers of tuples once more, with the object known to have no dict where that is wanted. -/
namespace DC
open PySem PySem.Spec PyProof.Rows L2
/-- what a maker of a tuple promises: the tuple, or the tuple with its object, which has no dict -/
def NewT (H : Hp) (xs : List V) (Q : VK) : Prop := (∀ p, H p = none → Q (.ref p) (upd H p (.tup xs))) ∨ (∀ p (o : Obj), o.dict = none → H p = none → Q (.ref p) (upd H p (.frz o (.tup xs))))
theorem NewT.ep {X : Cx} {pins : List (Addr × Obj)} {σ : L2.St} {H : Hp} {s : Shared} {xs : List V} {its : List Value} {Q : VK} {t' : Nat} (I : Inv X pins σ H s) (z : xs.length ≤ sizeLine) (r : Vals xs its) (q : NewT H xs Q) :
    EP X pins σ Q (.ref s.heap.objs.size) { s with heap := s.heap.push { cls := .type "tuple", data := .seq its.toArray }, toks := t' } := by
  have hf : H s.heap.objs.size = none := I.hok.fresh (Nat.le_refl _)
  rcases q with q | q
  · exact ⟨.ref s.heap.objs.size, upd H s.heap.objs.size (.tup xs), I.laid (t' := t') (fun b u e => Heap.get?_push_of_some _ e) (Nat.le_refl _) ⟨z, its, r, IsTup.new _ _⟩, rfl, q _ hf⟩
  · exact ⟨.ref s.heap.objs.size, upd H s.heap.objs.size (.frz { cls := .type "tuple", data := .seq its.toArray } (.tup xs)), I.laid (t' := t') (fun b u e => Heap.get?_push_of_some _ e) (Nat.le_refl _) ⟨Heap.get?_push_size _ rfl, z, its, r, IsTup.new _ _⟩, rfl, q _ _ rfl hf⟩
theorem NewT.mono {H : Hp} {xs : List V} {Q Q' : VK} (q : NewT H xs Q) (h : ∀ v H', Q v H' → Q' v H') : NewT H xs Q' := by
  rcases q with q | q
  · exact .inl fun p n => h _ _ (q p n)
  · exact .inr fun p o d n => h _ _ (q p o d n)
section
variable {X : Cx} {es : List Expr} {t : TA} {pos : Pos}
def tTupN (t : TA) : TE := fun σ H Q => t σ H fun xs H1 => xs.length ≤ sizeLine ∧ NewT H1 xs Q
theorem pe_tupN {x1} (h : PA X es t) : PE X (.Tuple es x1 pos) (tTupN t) := by
  refine ⟨fun pins s σ H Q I hq => ?_⟩
  refine wpAny_Tuple_spliced (thn (h.run pos pins s σ H _ I hq) fun us s1 ⟨xs, H1, I1, r, z, q⟩ => ⟨by rw [← r.length]; exact z, ?_⟩)
  exact NewT.ep (t' := s1.toks) I1 z r q
/-- t + u -/
def rCatN (K : PySem.W.Frag) : R2 := fun x y H Q => ∃ a b xs ys, x = .ref a ∧ y = .ref b ∧ SqT K H a xs ∧ SqT K H b ys ∧ xs.length + ys.length ≤ sizeLine ∧
  (xs = [] → Q (.ref b) H) ∧ (xs ≠ [] → ys = [] → Q (.ref a) H) ∧ (xs ≠ [] → ys ≠ [] → NewT H (xs ++ ys) Q)
theorem op_catN : OpR X (binaryOp .Add) (rCatN X.K) := by
  intro pins s σ H x y v u Q I rx ry h
  obtain ⟨a, b, xs, ys, rfl, rfl, ha, hb, hz, q0, q1, q2⟩ := h
  cases rx
  cases ry
  obtain ⟨its, r1, p1, _⟩ := I.tuple ha
  obtain ⟨its2, r2, p2, _⟩ := I.tuple hb
  by_cases hx : xs = []
  · subst hx
    cases r1
    exact cat_tup0 p1 p2 ⟨.ref b, H, I, rfl, q0 rfl⟩
  · refine HT.cat_tup p1 p2 (fun z => hx (r1.nil_iff.mp z)) (fun z => ⟨.ref a, H, I, rfl, q1 hx (r2.nil_iff.mp z)⟩) (fun z => ?_) (by rw [← r1.length, ← r2.length]; exact hz)
    exact NewT.ep (t' := s.toks) I (by rw [List.length_append]; exact hz) (r1.append r2) (q2 hx fun w => z (r2.nil_iff.mpr w))
/-- t[lo:hi] -/
def rSlN (K : PySem.W.Frag) : V → Option Int → Option Int → Hp → VK → Prop := fun x lo hi H Q => ∃ a xs, x = .ref a ∧ SqT K H a xs ∧
  (HT.sIx xs.length 0 lo = 0 ∧ HT.sIx xs.length xs.length hi = xs.length → Q (.ref a) H) ∧ (¬ (HT.sIx xs.length 0 lo = 0 ∧ HT.sIx xs.length xs.length hi = xs.length) → NewT H (cutV xs lo hi) Q)
theorem sl_tupN : SlR X (rSlN X.K) := by
  intro pins s σ H x v vl vu lo hi sl Q I rx hs pl pu h
  obtain ⟨a, xs, rfl, hx, q1, q2⟩ := h
  by_cases hw : HT.sIx xs.length 0 lo = 0 ∧ HT.sIx xs.length xs.length hi = xs.length
  · exact sl_tupA pins s σ H _ v vl vu lo hi sl Q I rx hs pl pu ⟨a, xs, rfl, hx, q1, fun z => absurd hw z⟩
  · cases rx
    obtain ⟨its, r, ht, hz⟩ := I.tuple hx
    have hlen : its.toArray.size = xs.length := by rw [List.size_toArray]; exact r.length.symm
    refine ⟨"tuple", _, PyProof.Rows.slot_tuple_getitem.lookup, ht.typeIs, ?_⟩
    refine HT.getItem_tuple_cut ht hs pl pu (by rw [hlen]; exact hw) ?_ (by rw [hlen]; exact hz)
    rw [hlen]
    exact NewT.ep (t' := s.toks) I (Nat.le_trans (cutV_length xs lo hi) hz) ((r.drop (HT.sIx xs.length 0 lo)).take (HT.sIx xs.length xs.length hi - HT.sIx xs.length 0 lo)) (q2 hw)
/-- tuple(xs) -/
theorem call_tuple_ofN : CallR X (.type "tuple") (fun xs H Q => ∃ p ys, xs = [.ref p] ∧ ((SqL X.K H p ys ∧ NewT H ys Q) ∨ (SqT X.K H p ys ∧ Q (.ref p) H))) := by
  intro pins s σ H xs us Q I r h
  obtain ⟨p, ys, rfl, h⟩ := h
  obtain ⟨u, rfl, rx⟩ := vals1 r
  cases rx
  rcases h with ⟨hq, q⟩ | ⟨hq, q⟩
  · obtain ⟨its, r', pl, hz⟩ := I.list hq
    have hlen := r'.length
    refine call_tuple_list pl.isList (fun h' kp => ?_) (by simp only [List.size_toArray] <;> omega)
    have I1 : Inv X pins σ H { s with heap := h' } := I.kept (t' := s.toks) kp
    exact NewT.ep (t' := s.toks) I1 hz r' q
  · obtain ⟨its, r', pl, hz⟩ := I.tuple hq
    exact call_tuple_same pl ⟨.ref p, H, I, rfl, q⟩
end
end DC
set_option Elab.async false
set_option linter.all false
set_option maxRecDepth 100000
set_option maxHeartbeats 2000000
/-! DC1: zip of two sequences, each a list or a tuple; its pairs with their objects. -/
namespace DC
open PySem PySem.Spec PyProof.Rows L2 RZ
/-- a sequence: a tuple, or a list -/
def SqK (K : PySem.W.Frag) (k : Bool) (H : Hp) (a : Addr) (xs : List V) : Prop := match k with
  | true => SqT K H a xs
  | false => SqL K H a xs
def IsK (k : Bool) (h : Heap) (a : Addr) (its : Array Value) : Prop := match k with
  | true => h.IsTuple a its
  | false => h.IsList a its
def ItK (k : Bool) (h : Heap) (i a : Addr) (n : Nat) : Prop := match k with
  | true => h.IsTupleIter i a n
  | false => h.IsListIter i a n
def itO (k : Bool) (a : Addr) : Obj := match k with
  | true => { cls := .type "tuple_iterator", data := .fields #[.ref a, .int 0 0] }
  | false => { cls := .type "list_iterator", data := .fields #[.ref a, .int 0 0] }
theorem ItK.new {k : Bool} {h : Heap} {i a : Addr} (e : h.get? i = some (itO k a)) : ItK k h i a 0 := by
  cases k
  · exact ⟨_, e, rfl, rfl⟩
  · exact ⟨_, e, rfl, rfl⟩
theorem ItK.at {k : Bool} {h h' : Heap} {i a : Addr} {n : Nat} (x : ItK k h i a n) (e : ∀ o, h.get? i = some o → h'.get? i = some o) : ItK k h' i a n := by
  cases k
  · exact Heap.IsListIter.at x e
  · exact Heap.IsTupleIter.at x e
theorem ItK.there {k : Bool} {h : Heap} {i a : Addr} {n : Nat} (x : ItK k h i a n) : ∃ o, h.get? i = some o ∧ ∀ v, o.data ≠ .cell v := by
  cases k
  · obtain ⟨o, e, _, d⟩ := x
    exact ⟨o, e, fun v q => by rw [d] at q; cases q⟩
  · obtain ⟨o, e, _, d⟩ := x
    exact ⟨o, e, fun v q => by rw [d] at q; cases q⟩
theorem Inv.seqK {X : Cx} {pins : List (Addr × Obj)} {σ : L2.St} {H : Hp} {s : Shared} (I : Inv X pins σ H s) {k : Bool} {a : Addr} {xs : List V} (h : SqK X.K k H a xs) : ∃ its, Vals xs its ∧ IsK k s.heap a its.toArray ∧ xs.length ≤ sizeLine := by
  cases k
  · obtain ⟨its, r, p, z⟩ := I.list h
    exact ⟨its, r, p.isList, z⟩
  · obtain ⟨its, r, p, z⟩ := I.tuple h
    exact ⟨its, r, p, z⟩
theorem Inv.seqK_inj {X : Cx} {pins : List (Addr × Obj)} {σ : L2.St} {H : Hp} {s : Shared} (I : Inv X pins σ H s) {k : Bool} {a : Addr} {xs ys : List V} (h : SqK X.K k H a xs) (h' : SqK X.K k H a ys) : xs = ys := by
  cases k
  · exact I.list_inj h h'
  · exact I.tuple_inj h h'
theorem IsK.lt {k : Bool} {h : Heap} {a : Addr} {its : Array Value} (x : IsK k h a its) : a < h.objs.size := by
  cases k
  · obtain ⟨o, e, _⟩ := x; exact Heap.lt_size e
  · obtain ⟨o, e, _⟩ := x; exact Heap.lt_size e
theorem drawsK {prog : Program} {w : World} {A : Around} (k : Bool) (hh : A.handled = none) (it t : Addr) (hne : t ≠ it) (items : Array Value) :
    Draws prog w A it [it, t] items.size (fun i v => items[i]? = some v) (fun i h => ItK k h it t i ∧ IsK k h t items) := by
  cases k
  · exact Draws.list hh it t hne items
  · exact Draws.tuple hh it t hne items
theorem begK (k : Bool) (a : Addr) (items : Array Value) : Begins (.ref a) (itO k a) fun h => IsK k h a items := by
  cases k
  · exact begins_list a items
  · exact begins_tuple a items
/-- two sequences as they stand at each turn -/
def ItzK (K : PySem.W.Frag) (k1 k2 : Bool) (a b : Addr) : It :=
  ⟨fun i H => ∃ (xs ys : List V) (x y : V), SqK K k1 H a xs ∧ SqK K k2 H b ys ∧ xs[i]? = some x ∧ ys[i]? = some y,
    fun i H v H' => ∃ T x y o, v = .ref T ∧ H T = none ∧ H' = upd H T (.frz o (.tup [x, y])) ∧ o.dict = none ∧ (∀ xs, SqK K k1 H a xs → xs[i]? = some x) ∧ ∀ ys, SqK K k2 H b ys → ys[i]? = some y,
    fun i H => ∃ xs ys : List V, SqK K k1 H a xs ∧ SqK K k2 H b ys ∧ (i = xs.length ∨ i = ys.length) ∧ i ≤ xs.length ∧ i ≤ ys.length⟩
theorem sep_of {z TI TO i1 i2 a b : Addr} (D : ZipApart z TI TO i1 i2 a b) : ZipSep2 z TI TO i1 i2 [i1, a] [i2, b] where
  TIz := D.TIz
  TOz := D.TOz
  TITO := D.TITO
  TIi1 := D.TIi1
  mem1 := by simp
  zf1 := by simp; exact ⟨D.i1z.symm, D.l1z.symm⟩
  Tf1 := by simp; exact ⟨D.TOi1, D.l1TO.symm⟩
  TIi2 := D.TIi2
  mem2 := by simp
  zf2 := by simp; exact ⟨D.i2z.symm, D.l2z.symm⟩
  Tf2 := by simp; exact ⟨D.TOi2, D.l2TO.symm⟩
  sep1_2 := by simp; exact ⟨D.i12, D.l2i1.symm⟩
  sep2_1 := by simp; exact ⟨D.i12.symm, D.l1i2.symm⟩
theorem turn_zipK {P : Program} {w : World} {K : PySem.W.Frag} {elts : List Expr} {kk : Nat} {tpos : Pos} {k1 k2 : Bool} {a b z TI TO i1 i2 : Addr} (D : ZipApart z TI TO i1 i2 a b) :
    Turn P w K (.Tuple elts kk tpos) (ItzK K k1 k2 a b) [z, TI, TO, i1, i2] z (fun i h => IsZip h z TI TO .none ∧ IsPair h TI (.ref i1) (.ref i2) ∧ (∃ x y, IsPair h TO x y) ∧ ItK k1 h i1 a i ∧ ItK k2 h i2 b i) where
  mem := by simp
  obj := fun i h st c hc => by
    obtain ⟨hz, hTI, ⟨x, y, hTO⟩, h1, h2⟩ := st
    have e' : c = z ∨ c = TI ∨ c = TO ∨ c = i1 ∨ c = i2 := by simpa using hc
    rcases e' with q | q | q | q | q
    · rw [q]; exact ⟨_, hz, fun v q => nomatch q⟩
    · rw [q]; exact ⟨_, hTI, fun v q => nomatch q⟩
    · rw [q]; exact ⟨_, hTO, fun v q => nomatch q⟩
    · rw [q]; exact h1.there
    · rw [q]; exact h2.there
  keep := fun i h h' st k => by
    obtain ⟨hz, hTI, ⟨x, y, hTO⟩, h1, h2⟩ := st
    exact ⟨k z (by simp) _ hz, k TI (by simp) _ hTI, ⟨x, y, k TO (by simp) _ hTO⟩, h1.at fun o q => k i1 (by simp) o q, h2.at fun o q => k i2 (by simp) o q⟩
  item := by
    intro X hP hw hK hc i pins s σ H E I hf st hg
    subst hP hw hK
    obtain ⟨hz, hTI, ⟨x0, y0, hTO⟩, h1, h2⟩ := st
    obtain ⟨xs, ys, x, y, hqx, hqy, hx, hy⟩ := hg
    obtain ⟨its, rv, p, _⟩ := Inv.seqK I hqx
    obtain ⟨its2, rv2, p2, _⟩ := Inv.seqK I hqy
    obtain ⟨u, hu, ru⟩ := rv.get hx
    obtain ⟨u2, hu2, ru2⟩ := rv2.get hy
    have hzl : z < s.heap.objs.size := Heap.lt_size hz
    have hl1 : i < its.length := (List.getElem?_eq_some_iff.mp hu).1
    have hl2 : i < its2.length := (List.getElem?_eq_some_iff.mp hu2).1
    have hh : X.A.in1.handled = none := I.ok.hd hc
    have D1 := drawsK (prog := X.prog) (w := X.w) k1 hh i1 a D.l1i1 its.toArray
    have D2 := drawsK (prog := X.prog) (w := X.w) k2 hh i2 b D.l2i2 its2.toArray
    refine wpAny_pyNext_zipD2_item (sep_of D) D1 D2 hz hTI hTO ⟨h1, p⟩ ⟨h2, p2⟩ (by simpa using hl1) (by simpa using hl2) fun x1 x2 h' tk q1 q2 z' TO' h1' h2' hT hsz hk => ?_
    have ex1 : x1 = u := by
      have q1' : its.toArray[i]? = some x1 := q1
      rw [show its.toArray[i]? = some u by simpa using hu] at q1'
      exact (Option.some.inj q1').symm
    have ex2 : x2 = u2 := by
      have q2' : its2.toArray[i]? = some x2 := q2
      rw [show its2.toArray[i]? = some u2 by simpa using hu2] at q2'
      exact (Option.some.inj q2').symm
    subst ex1 ex2
    refine ⟨_, rfl, wpAny_letOwnedTupleGo_zip (s := { s with heap := h', toks := tk }) z' fun h'' z'' sb => ?_⟩
    have hT2 : h''.get? s.heap.objs.size = some { cls := .type "tuple", data := .seq #[x1, x2] } := (sb.2 _ (Nat.ne_of_gt hzl)).trans hT
    have new : ObjOk X.prog X.w (upd H s.heap.objs.size (.frz { cls := .type "tuple", data := .seq #[x1, x2] } (.tup [x, y]))) h'' s.heap.objs.size (.frz { cls := .type "tuple", data := .seq #[x1, x2] } (.tup [x, y])) :=
      ⟨hT2, by show 2 ≤ sizeLine; decide, [x1, x2], .cons ru (.cons ru2 .nil), ⟨_, hT2, rfl, _, rfl⟩⟩
    have I1 : Inv X pins σ (upd H s.heap.objs.size (.frz { cls := .type "tuple", data := .seq #[x1, x2] } (.tup [x, y]))) { s with heap := h'', toks := tk } :=
      I.turnedNew (t' := tk) (ch := [z, TI, TO, i1, i2]) (fun c o hb q => (sb.2 c (fun q' => hb (by simp [q']))).trans (hk c o (fun q' => hb (by simp [q'])) (fun q' => hb (by simp [q'])) (fun q' => hb (by simp [q'])) (fun q' => hb (by simp [q'])) q)) hf (Nat.le_refl _) new
    refine ⟨.ref s.heap.objs.size, _, I1, rfl, ⟨_, x, y, _, rfl, I.hok.fresh (Nat.le_refl _), rfl, rfl, fun l hl => by rw [Inv.seqK_inj I hl hqx]; exact hx, fun l hl => by rw [Inv.seqK_inj I hl hqy]; exact hy⟩, ⟨z'', ?_, ⟨x1, x2, ?_⟩, ?_, ?_⟩, fun c hcm => ?_⟩
    · exact (sb.2 _ D.TIz).trans (hk _ _ D.TIz D.TITO D.TIi1 D.TIi2 hTI)
    · exact (sb.2 _ D.TOz).trans TO'
    · exact h1'.1.at fun o q => (sb.2 _ D.i1z).trans q
    · exact h2'.1.at fun o q => (sb.2 _ D.i2z).trans q
    · have hlt : c < s.heap.objs.size := by
        have e' : c = z ∨ c = TI ∨ c = TO ∨ c = i1 ∨ c = i2 := by simpa using hcm
        rcases e' with q | q | q | q | q
        · rw [q]; exact hzl
        · rw [q]; exact Heap.lt_size hTI
        · rw [q]; exact Heap.lt_size hTO
        · rw [q]; obtain ⟨_, e1, _⟩ := h1.there; exact Heap.lt_size e1
        · rw [q]; obtain ⟨_, e2, _⟩ := h2.there; exact Heap.lt_size e2
      rw [upd_ne (Nat.ne_of_lt hlt)]
      exact (hf c hcm).1
  done := by
    intro X hP hw hK hc i pins s σ H E I hf st hg
    subst hP hw hK
    obtain ⟨hz, hTI, ⟨x0, y0, hTO⟩, h1, h2⟩ := st
    obtain ⟨xs, ys, hqx, hqy, hend, g1, g2⟩ := hg
    obtain ⟨its, rv, p, _⟩ := Inv.seqK I hqx
    obtain ⟨its2, rv2, p2, _⟩ := Inv.seqK I hqy
    have l1 := rv.length
    have l2 := rv2.length
    have hh : X.A.in1.handled = none := I.ok.hd hc
    have D1 := drawsK (prog := X.prog) (w := X.w) k1 hh i1 a D.l1i1 its.toArray
    have D2 := drawsK (prog := X.prog) (w := X.w) k2 hh i2 b D.l2i2 its2.toArray
    exact wpAny_pyNext_zipD2_end (sep_of D) D1 D2 hz hTI hTO ⟨h1, p⟩ ⟨h2, p2⟩ (by simp; omega) (by simp; omega) (by simp; omega) fun h' tk hk => ⟨rfl, I.turnedL (t' := tk) (ch := [z, TI, TO, i1, i2]) (fun c o hb q =>
      hk c o (fun q' => hb (by simp [q'])) (fun q' => hb (by simp [q'])) (fun q' => hb (by simp [q'])) (fun q' => hb (by simp [q'])) q) hf⟩
  self := fun A i s Q E st h => wpAny_pyIter_zip st.1 h
def iZipK (K : PySem.W.Frag) (ta : TA) : TI := fun σ H R => ta σ H fun vs H1 => ∃ k1 k2 a b xs ys, vs = [.ref a, .ref b] ∧ SqK K k1 H1 a xs ∧ SqK K k2 H1 b ys ∧ R (ItzK K k1 k2 a b) H1
theorem pi_zipK {X : Cx} {e e2 : Expr} {ta : TA} {p pos tpos : Pos} {elts : List Expr} {kk : Nat} (hg : Gl X "zip") (hm : X.mg "zip" = none) (ha : PA X [e, e2] ta)
    (hs : starEach [e, e2] X.env = (false, eval e X.env) :: starEach [e2] X.env := by rfl) (hpl : (backTo pos (starEach [e2] X.env)).any (·.1) = false := by rfl) :
    PI X (.Tuple elts kk tpos) (.Call (.Name "zip" p) [e, e2] [] pos) (iZipK X.K ta) := by
  refine ⟨fun pins s σ H R I h => ?_⟩
  refine Call_ (ld_blt I hg hm PyProof.Rows.boot_zip (PyProof.Rows.callWith_type1 (thn (ha.run pos pins s σ H _ I h) fun us s1 ⟨vs, H1, I1, r1, q1⟩ => ?_) hs hpl))
  obtain ⟨k1, k2, a, b, xs, ys, ex, hqx, hqy, q⟩ := q1
  subst ex
  cases r1 with
  | cons r rr =>
    cases rr with
    | cons r' rr =>
      cases rr
      cases r
      cases r'
      have fresh5 : ∀ c, c ∈ [s1.heap.objs.size + 4, s1.heap.objs.size + 2, s1.heap.objs.size + 3, s1.heap.objs.size, s1.heap.objs.size + 1] → FpOk X pins H1 c := fun c hcm => by
        have e' : c = s1.heap.objs.size + 4 ∨ c = s1.heap.objs.size + 2 ∨ c = s1.heap.objs.size + 3 ∨ c = s1.heap.objs.size ∨ c = s1.heap.objs.size + 1 := by simpa using hcm
        have hle : s1.heap.objs.size ≤ c := by omega
        exact I1.fpOk hle (I1.hok.fresh hle)
      obtain ⟨its, rv, p1, _⟩ := Inv.seqK I1 hqx
      obtain ⟨its2, rv2, p2, _⟩ := Inv.seqK I1 hqy
      refine zip_begins2 (begK k1 a its.toArray) (begK k2 b its2.toArray) p1 p2 fun h' hz hTI hTO h1 h2 hsz hk => wpAny_pyIter_zip hz ?_
      have I2 : Inv X pins σ H1 { s1 with heap := h' } := I1.kept (t' := s1.toks) hk
      exact ⟨s1.heap.objs.size + 4, [s1.heap.objs.size + 4, s1.heap.objs.size + 2, s1.heap.objs.size + 3, s1.heap.objs.size, s1.heap.objs.size + 1], _, _, H1, rfl, I2, turn_zipK (PySem.W.ktu_apart s1.heap.objs.size a b p1.lt p2.lt), ⟨hz, hTI, ⟨_, _, hTO⟩, ItK.new h1, ItK.new h2⟩, fresh5, q⟩
/-- a new pair, its object known -/
def YPairN (xs ys : Nat → Option V) : Nat → Hp → V → Hp → Prop := fun i H v H' => ∃ T x y o, v = .ref T ∧ H T = none ∧ H' = upd H T (.frz o (.tup [x, y])) ∧ o.dict = none ∧ xs i = some x ∧ ys i = some y
theorem walk_zipK {K : PySem.W.Frag} {k1 k2 : Bool} {a b : Addr} {xs ys : List V} {n : Nat} (hn : n = min xs.length ys.length) : Walk (ItzK K k1 k2 a b) n (fun H => SqK K k1 H a xs ∧ SqK K k2 H b ys) (YPairN (fun i => xs[i]?) (fun i => ys[i]?)) := by
  subst hn
  refine ⟨fun i _ hi q => ?_, fun _ q => ⟨xs, ys, q.1, q.2, by omega, by omega, by omega⟩, fun i H v H' _ q y => ?_⟩
  · have h1 : i < xs.length := by omega
    have h2 : i < ys.length := by omega
    exact ⟨xs, ys, xs[i], ys[i], q.1, q.2, by simp [h1], by simp [h2]⟩
  · obtain ⟨T, x, z, o, h1, h2, h3, h4, h5, h6⟩ := y
    exact ⟨T, x, z, o, h1, h2, h3, h4, h5 xs q.1, h6 ys q.2⟩
end DC
set_option Elab.async false
set_option linter.all false
set_option maxRecDepth 100000
set_option maxHeartbeats 4000000
/-! DC2: list(zip(a, b)). -/
namespace DC
open PySem PySem.Spec PyProof.Rows L2 RZ
open Sem (wp)
section
variable {prog : Program} {w : World} {A : Around} {E : Value → Shared → Prop} {s : Shared} {z TI TO T i1 i2 : Addr} {fp1 fp2 : List Addr} {n1 n2 i : Nat} {P1 P2 : Nat → Value → Prop} {St1 St2 : Nat → Heap → Prop} {f : Bool} {oT : Obj}
theorem zip_next_item_heldD {Q : Value → Shared → Prop} (S : ZipSep2 z TI TO i1 i2 fp1 fp2) (D1 : Draws prog w A i1 fp1 n1 P1 St1) (D2 : Draws prog w A i2 fp2 n2 P2 St2)
    (hz : IsZipHeld s.heap z TI TO T f) (hT : s.heap.get? T = some oT) (hTI : IsTupOf2 s.heap TI (.ref i1) (.ref i2)) (st1 : St1 i s.heap) (st2 : St2 i s.heap) (hlt1 : i < n1) (hlt2 : i < n2)
    (hQ : ∀ x1 x2 h' tk, P1 i x1 → P2 i x2 → IsZipHeld h' z TI TO T true → St1 (i + 1) h' → St2 (i + 1) h' → IsTupOf2 h' s.heap.objs.size x1 x2 → h'.objs.size = s.heap.objs.size + 1 →
      (∀ c o, c ≠ z → c ≠ i1 → c ≠ i2 → s.heap.get? c = some o → h'.get? c = some o) → Q (.ref s.heap.objs.size) { s with heap := h', toks := tk }) :
    wpAny (model prog w) A (Builtin.«zip.__next__» ⟨[.ref z], []⟩) (fun fin s' => ∃ v, fin = .done (.ret v) ∧ Q v s') E s := by
  show wpAny _ _ (field (.ref z) 2 >>= _) _ _ _
  refine wpAny_bind (wpAny_field hz rfl (x := .bool false) rfl ?_)
  show wpAny _ _ (field (.ref z) 3 >>= _) _ _ _
  refine wpAny_bind (wpAny_field hz rfl (x := .ref TI) rfl ?_)
  refine wpAny_bind (wpAny_seqItems hTI rfl ?_)
  show wpAny _ _ (Builtin.SmallTypes.ownedTupleIsFree (.ref z) >>= _) _ _ _
  refine wpAny_bind (wpAny_tupleHeld_zip hz hT fun h₁ hz₁ hs₁ => ?_)
  simp only [Bool.false_eq_true, if_false]
  refine wpAny_bind ?_
  rw [← Array.forIn_toList]
  simp only [List.forIn_cons, List.forIn_nil]
  refine wpAny_bind (wpAny_bind (wpAny_holding ?_))
  show wpAny _ _ (Builtin.SmallTypes.nextOf (.ref i1) >>= _) _ _ _
  refine wpAny_bind (D1.item i { s with heap := h₁ } _ _ hlt1 (D1.over st1 hs₁ S.zf1) fun x1 h₂ tk1 hx1 sn1 hs₂ => wpAny_pure ?_)
  refine wpAny_pure ?_
  refine wpAny_bind (wpAny_bind (wpAny_holding ?_))
  show wpAny _ _ (Builtin.SmallTypes.nextOf (.ref i2) >>= _) _ _ _
  refine wpAny_bind (D2.item i { s with heap := h₂, toks := tk1 } _ _ hlt2 (D2.over (D2.over st2 hs₁ S.zf2) hs₂ S.sep1_2) fun x2 h₃ tk2 hx2 sn2 hs₃ => wpAny_pure ?_)
  refine wpAny_pure (wpAny_pure ?_)
  show wpAny _ _ (newTuple [x1, x2] >>= _) _ _ _
  refine wpAny_bind (wpAny_newTuple ?_)
  have hs₂' : Heap.SameBut i1 h₁ h₂ := hs₂
  have hs₃' : Heap.SameBut i2 h₂ h₃ := hs₃
  have hsz : h₃.objs.size = s.heap.objs.size := by rw [hs₃'.1, hs₂'.1, hs₁.1]
  have hz₃ : IsZipHeld h₃ z TI TO T true := hs₃'.extBut _ _ S.zi2 (hs₂'.extBut _ _ S.zi1 hz₁)
  have hk : ∀ c o, c ≠ z → c ≠ i1 → c ≠ i2 → s.heap.get? c = some o → h₃.get? c = some o := fun c o c1 c2 c3 e => hs₃'.extBut _ _ c3 (hs₂'.extBut _ _ c2 (hs₁.extBut _ _ c1 e))
  have h1₃ : St1 (i + 1) h₃ := D1.over sn1 hs₃' S.sep2_1
  refine wpAny_pure ⟨_, rfl, ?_⟩
  show Q (.ref h₃.objs.size) _
  have hp : IsTupOf2 (h₃.push { cls := .type "tuple", data := .seq #[x1, x2] }) h₃.objs.size x1 x2 := Heap.get?_push_size _ rfl
  have hz4 : (h₃.push { cls := .type "tuple", data := .seq #[x1, x2] }).objs.size = h₃.objs.size + 1 := Heap.size_push ..
  rw [hsz] at hp hz4 ⊢
  exact hQ x1 x2 _ tk2 hx1 hx2 (Heap.get?_push_of_some _ hz₃) (D1.frame _ _ _ h1₃ fun b _ o e => Heap.get?_push_of_some _ e) (D2.frame _ _ _ sn2 fun b _ o e => Heap.get?_push_of_some _ e) hp hz4 fun c o c1 c2 c3 e => Heap.get?_push_of_some _ (hk c o c1 c2 c3 e)
theorem zip_next_end_heldD {Q : Fin → Shared → Prop} (S : ZipSep2 z TI TO i1 i2 fp1 fp2) (D1 : Draws prog w A i1 fp1 n1 P1 St1) (D2 : Draws prog w A i2 fp2 n2 P2 St2)
    (hz : IsZipHeld s.heap z TI TO T f) (hT : s.heap.get? T = some oT) (hTI : IsTupOf2 s.heap TI (.ref i1) (.ref i2)) (st1 : St1 i s.heap) (st2 : St2 i s.heap) (hle1 : i ≤ n1) (hle2 : i ≤ n2) (hend : i = n1 ∨ i = n2)
    (hE : ∀ h' tk e, (∀ c o, c ≠ z → c ≠ i1 → c ≠ i2 → s.heap.get? c = some o → h'.get? c = some o) → (∃ o, h'.get? e = some o ∧ o.cls = .type "StopIteration") → E (.ref e) { s with heap := h', toks := tk }) :
    wpAny (model prog w) A (Builtin.«zip.__next__» ⟨[.ref z], []⟩) Q E s := by
  show wpAny _ _ (field (.ref z) 2 >>= _) _ _ _
  refine wpAny_bind (wpAny_field hz rfl (x := .bool false) rfl ?_)
  show wpAny _ _ (field (.ref z) 3 >>= _) _ _ _
  refine wpAny_bind (wpAny_field hz rfl (x := .ref TI) rfl ?_)
  refine wpAny_bind (wpAny_seqItems hTI rfl ?_)
  show wpAny _ _ (Builtin.SmallTypes.ownedTupleIsFree (.ref z) >>= _) _ _ _
  refine wpAny_bind (wpAny_tupleHeld_zip hz hT fun h₁ hz₁ hs₁ => ?_)
  simp only [Bool.false_eq_true, if_false]
  refine wpAny_bind ?_
  rw [← Array.forIn_toList]
  simp only [List.forIn_cons, List.forIn_nil]
  refine wpAny_bind (wpAny_bind (wpAny_holding ?_))
  show wpAny _ _ (Builtin.SmallTypes.nextOf (.ref i1) >>= _) _ _ _
  by_cases hi : i = n1
  · subst hi
    refine wpAny_bind (D1.done { s with heap := h₁ } _ _ (D1.over st1 hs₁ S.zf1) fun h₂ e hs₂ he => ?_)
    exact hE h₂ s.toks e (fun c o c1 c2 _ x => hs₂ _ _ c2 (hs₁.extBut _ _ c1 x)) he
  · have hn2 : i = n2 := hend.elim (fun q => absurd q hi) id
    subst hn2
    refine wpAny_bind (D1.item i { s with heap := h₁ } _ _ (by omega) (D1.over st1 hs₁ S.zf1) fun x1 h₂ tk1 hx1 sn1 hs₂ => wpAny_pure ?_)
    refine wpAny_pure ?_
    refine wpAny_bind (wpAny_bind (wpAny_holding ?_))
    show wpAny _ _ (Builtin.SmallTypes.nextOf (.ref i2) >>= _) _ _ _
    refine wpAny_bind (D2.done { s with heap := h₂, toks := tk1 } _ _ (D2.over (D2.over st2 hs₁ S.zf2) hs₂ S.sep1_2) fun h₃ e hs₃ he => ?_)
    have hs₂' : Heap.SameBut i1 h₁ h₂ := hs₂
    exact hE h₃ tk1 e (fun c o c1 c2 c3 x => hs₃ _ _ c3 (hs₂'.extBut _ _ c2 (hs₁.extBut _ _ c1 x))) he
end
section
variable {prog : Program} {w : World} {A : Around} {E : Value → Shared → Prop} {s : Shared} {z TI TO T i1 i2 : Addr} {fp1 fp2 : List Addr} {n1 n2 i : Nat} {P1 P2 : Nat → Value → Prop} {St1 St2 : Nat → Heap → Prop} {f : Bool} {oT : Obj}
theorem pyNext_heldD {Q : Option Value → Shared → Prop} (S : ZipSep2 z TI TO i1 i2 fp1 fp2) (D1 : Draws prog w A.in1 i1 fp1 n1 P1 St1) (D2 : Draws prog w A.in1 i2 fp2 n2 P2 St2)
    (hz : IsZipHeld s.heap z TI TO T f) (hT : s.heap.get? T = some oT) (hTI : IsTupOf2 s.heap TI (.ref i1) (.ref i2)) (st1 : St1 i s.heap) (st2 : St2 i s.heap) (hlt1 : i < n1) (hlt2 : i < n2)
    (hQ : ∀ x1 x2 h' tk, P1 i x1 → P2 i x2 → IsZipHeld h' z TI TO T true → St1 (i + 1) h' → St2 (i + 1) h' → IsTupOf2 h' s.heap.objs.size x1 x2 → h'.objs.size = s.heap.objs.size + 1 →
      (∀ c o, c ≠ z → c ≠ i1 → c ≠ i2 → s.heap.get? c = some o → h'.get? c = some o) → Q (some (.ref s.heap.objs.size)) { s with heap := h', toks := tk }) :
    wpAny (model prog w) A (pyNext (.ref z)) Q E s := by
  have hTy : s.TypeIs (.ref z) "zip" := ⟨_, hz, rfl⟩
  unfold pyNext
  exact wpAny_bind (wpAny_attempt (wpAny_callSpecial?_slot (name := Str.ofString "__next__") hTy F.slot_zip_next
    (wpAny_call_entry F.slot_zip_next hTy F.entry_zip_next
      (zip_next_item_heldD S D1 D2 hz hT hTI st1 st2 hlt1 hlt2 fun x1 x2 h' tk p1 p2 a1 a3 a4 a5 a6 a7 => wpAny_pure (hQ x1 x2 h' tk p1 p2 a1 a3 a4 a5 a6 a7)) (F.args_zip_next_1 _))))
theorem pyNext_end_heldD {Q : Option Value → Shared → Prop} (S : ZipSep2 z TI TO i1 i2 fp1 fp2) (D1 : Draws prog w A.in1 i1 fp1 n1 P1 St1) (D2 : Draws prog w A.in1 i2 fp2 n2 P2 St2)
    (hz : IsZipHeld s.heap z TI TO T f) (hT : s.heap.get? T = some oT) (hTI : IsTupOf2 s.heap TI (.ref i1) (.ref i2)) (st1 : St1 i s.heap) (st2 : St2 i s.heap) (hle1 : i ≤ n1) (hle2 : i ≤ n2) (hend : i = n1 ∨ i = n2)
    (hQ : ∀ h' tk, (∀ c o, c ≠ z → c ≠ i1 → c ≠ i2 → s.heap.get? c = some o → h'.get? c = some o) → Q none { s with heap := h', toks := tk }) : wpAny (model prog w) A (pyNext (.ref z)) Q E s := by
  have hTy : s.TypeIs (.ref z) "zip" := ⟨_, hz, rfl⟩
  unfold pyNext
  refine wpAny_bind (wpAny_attempt (wpAny_callSpecial?_slot (name := Str.ofString "__next__") hTy F.slot_zip_next
    (wpAny_call_entry F.slot_zip_next hTy F.entry_zip_next (zip_next_end_heldD S D1 D2 hz hT hTI st1 st2 hle1 hle2 hend fun h' tk e hk he => ?_) (F.args_zip_next_1 _))))
  obtain ⟨o, ho, hc⟩ := he
  refine wpAny_bind (wpAny_isInstance (T := "StopIteration") (b := true) ⟨o, ho, hc⟩ isSubtype_stop ?_)
  exact wpAny_pure (hQ _ _ hk)
end
theorem zip_no_len : typeLookup (.type "zip") "__len__" = pure none := am_miss_of_fast (by decide +kernel)
theorem zip_no_hint : typeLookup (.type "zip") "__length_hint__" = pure none := am_miss_of_fast (by decide +kernel)
/-- a zip, fresh or with its tuple out -/
def ZSt (h : Heap) (z TI TO : Addr) : Prop := (IsZip h z TI TO .none ∧ ∃ x y, IsTupOf2 h TO x y) ∨ ∃ T f oT, IsZipHeld h z TI TO T f ∧ h.get? T = some oT ∧ T ≠ z ∧ T ≠ TO
/-- the pairs laid so far -/
structure ZG (its1 its2 : Array Value) (lo : Addr) (h : Heap) (as : List Addr) : Prop where
  rise : as.Pairwise (· < ·)
  above : ∀ a ∈ as, lo < a
  pairs : ∀ (j : Nat) (a : Addr), as[j]? = some a → ∃ x y, its1[j]? = some x ∧ its2[j]? = some y ∧ h.get? a = some { cls := .type "tuple", data := .seq #[x, y] }
theorem ZG.there {its1 its2 : Array Value} {lo : Addr} {h : Heap} {as : List Addr} (g : ZG its1 its2 lo h as) {a : Addr} (ha : a ∈ as) : a < h.objs.size := by
  obtain ⟨j, hj⟩ := List.mem_iff_getElem?.mp ha
  obtain ⟨_, _, _, _, e⟩ := g.pairs j a hj
  exact Heap.lt_size e
section
variable {prog : Program} {w : World} {A : Around} {s : Shared} {R : Result → Shared → Prop} {its1 its2 : Array Value}
theorem zl_loop {k1 k2 : Bool} {S z TI TO i1 i2 a b : Addr} (hh : A.handled = none) (D : ZipApart z TI TO i1 i2 a b) (hS : z < S ∧ TI < S ∧ TO < S ∧ i1 < S ∧ i2 < S ∧ a < S ∧ b < S) (hn1 : its1.size ≤ sizeLine) {N : Nat} (hN : N = min its1.size its2.size) (res : Value) {h₁ : Heap} (hb1 : ∀ c o, h₁.get? c = some o → c ≠ z ∧ c ≠ TI ∧ c ≠ TO ∧ c ≠ i1 ∧ c ≠ i2 ∧ c < S)
    (hR : ∀ h' tk acc c as, (∀ b o, h₁.get? b = some o → h'.get? b = some o) → h'.get? S = some { cls := .type "list", dict := none, data := .seq acc c, slots := #[] } → as.length = N → ZG its1 its2 S h' as →
      acc.toList = as.map Value.ref → R (.ok (.ret res)) { s with heap := h', toks := tk }) :
    ∀ (k i : Nat) (h : Heap) (tk c : Nat) (acc : Array Value) (as : List Addr), N - i = k → i ≤ N → ZSt h z TI TO → IsTupOf2 h TI (.ref i1) (.ref i2) → (ItK k1 h i1 a i ∧ IsK k1 h a its1) → (ItK k2 h i2 b i ∧ IsK k2 h b its2) → (∀ b o, h₁.get? b = some o → h.get? b = some o) →
      h.get? S = some { cls := .type "list", dict := none, data := .seq acc c, slots := #[] } → acc.toList = as.map Value.ref → as.length = i → ZG its1 its2 S h as →
      codeAny (model prog w) A (.builtin "list.extend.loop" ⟨[.ref S, .ref z, res], []⟩) R { s with heap := h, toks := tk } := by
  obtain ⟨s1, s2, s3, s4, s5, s6, s7⟩ := hS
  have D1 := drawsK (prog := prog) (w := w) (A := A.in1.in1) k1 hh i1 a D.l1i1 its1
  have D2 := drawsK (prog := prog) (w := w) (A := A.in1.in1) k2 hh i2 b D.l2i2 its2
  intro k
  induction k with
  | zero =>
    intro i h tk c acc as hk hi hz hTI st1 st2 hkeep hSl hacc hal hG
    have hin : i = N := by omega
    refine codeAny_builtin PySem.F.entry_extend_loop ?_
    rw [Around.under_plainId PySem.F.plain_extend_loop _]
    show wpAny _ A.in1 (pyNext (.ref z) >>= _) _ _ _
    have fin : ∀ h' tk', (∀ c o, c ≠ z → c ≠ TO → c ≠ i1 → c ≠ i2 → h.get? c = some o → h'.get? c = some o) → R (.ok (.ret res)) { s with heap := h', toks := tk' } := fun h' tk' kp => by
      refine hR h' tk' acc c as (fun b o e => ?_) (kp S _ (Nat.ne_of_gt s1) (Nat.ne_of_gt s3) (Nat.ne_of_gt s4) (Nat.ne_of_gt s5) hSl) (by omega) ⟨hG.rise, hG.above, fun j q hj => ?_⟩ hacc
      · obtain ⟨q1, q2, q3, q4, q5, q6⟩ := hb1 b o e
        exact kp b o q1 q3 q4 q5 (hkeep b o e)
      · obtain ⟨x, y, e1, e2, e3⟩ := hG.pairs j q hj
        have hq := hG.above q (List.mem_of_getElem? hj)
        exact ⟨x, y, e1, e2, kp q _ (Nat.ne_of_gt (Nat.lt_trans s1 hq)) (Nat.ne_of_gt (Nat.lt_trans s3 hq)) (Nat.ne_of_gt (Nat.lt_trans s4 hq)) (Nat.ne_of_gt (Nat.lt_trans s5 hq)) e3⟩
    rcases hz with ⟨hz, x, y, hTO⟩ | ⟨T, f, oT, hz, hT, _, _⟩
    · refine wpAny_bind (wpAny_pyNext_zipD2_end (s := { s with heap := h, toks := tk }) (i := i) (sep_of D) D1 D2 hz hTI hTO st1 st2 (by omega) (by omega) (by omega) fun h' tk' kp => ?_)
      exact wpAny_pure (fin h' tk' kp)
    · refine wpAny_bind (pyNext_end_heldD (s := { s with heap := h, toks := tk }) (i := i) (sep_of D) D1 D2 hz hT hTI st1 st2 (by omega) (by omega) (by omega) fun h' tk' kp => ?_)
      exact wpAny_pure (fin h' tk' fun c o c1 _ c3 c4 e => kp c o c1 c3 c4 e)
  | succ k ih =>
    intro i h tk c acc as hk hi hz hTI st1 st2 hkeep hSl hacc hal hG
    have hlt : i < N := by omega
    have hsz : acc.size = i := by rw [← Array.length_toList, hacc, List.length_map, hal]
    have hSlt : S < h.objs.size := Heap.lt_size hSl
    refine codeAny_builtin PySem.F.entry_extend_loop ?_
    rw [Around.under_plainId PySem.F.plain_extend_loop _]
    show wpAny _ A.in1 (pyNext (.ref z) >>= _) _ _ _
    have step : ∀ x1 x2 h' tk', its1[i]? = some x1 → its2[i]? = some x2 → ZSt h' z TI TO → (ItK k1 h' i1 a (i + 1) ∧ IsK k1 h' a its1) → (ItK k2 h' i2 b (i + 1) ∧ IsK k2 h' b its2) → IsTupOf2 h' h.objs.size x1 x2 →
        (∀ c o, c ≠ z → c ≠ TO → c ≠ i1 → c ≠ i2 → h.get? c = some o → h'.get? c = some o) →
        wpAny (model prog w) A.in1 (updateSeq S (·.push (Value.ref h.objs.size)) >>= fun _ => again (.builtin "list.extend.loop" ⟨[.ref S, .ref z, res], []⟩))
          (fun fin s' => match fin with | .done f => R (.ok f) s' | .again c' => c'.quiet = true ∧ codeAny (model prog w) A c' R s') (fun e s' => R (.error e) s') { s with heap := h', toks := tk' } := by
      intro x1 x2 h' tk' e1 e2 hz' st1' st2' ht hkp
      have hS' := hkp S _ (Nat.ne_of_gt s1) (Nat.ne_of_gt s3) (Nat.ne_of_gt s4) (Nat.ne_of_gt s5) hSl
      have up : ∀ b o, b ≠ S → h'.get? b = some o → (h'.update S (Obj.mapSeq (·.push (Value.ref h.objs.size)))).get? b = some o := fun b o hb e => (Heap.get?_update_other _ _ (Ne.symm hb)).trans e
      refine wpAny_bind ?_
      refine wpAny_updateSeq hS' rfl (wpAny_pure ⟨plainId_quiet PySem.F.plain_extend_loop _, ih (i + 1) _ tk' _ (acc.push (Value.ref h.objs.size)) (as ++ [h.objs.size]) (by omega) hlt ?_ (up _ _ (Nat.ne_of_lt s2) (hkp TI _ D.TIz D.TITO D.TIi1 D.TIi2 hTI)) ⟨st1'.1.at fun o e => up i1 o (Nat.ne_of_lt s4) e, ?_⟩ ⟨st2'.1.at fun o e => up i2 o (Nat.ne_of_lt s5) e, ?_⟩
        (fun b o e => ?_) (Heap.get?_update_self _ hS' rfl) (by rw [Array.toList_push, hacc, List.map_append]; rfl) (by rw [List.length_append, hal]; rfl) ⟨?_, ?_, ?_⟩⟩) (by rw [hsz]; omega) (by show (acc.push (Value.ref h.objs.size)).size ≤ sizeLine + 1; rw [Array.size_push, hsz]; omega)
      · rcases hz' with ⟨q, x, y, q2⟩ | ⟨T, f, oT, q, q2, q3, q4⟩
        · exact .inl ⟨up _ _ (Nat.ne_of_lt s1) q, x, y, up _ _ (Nat.ne_of_lt s3) q2⟩
        · by_cases hTS : T = S
          · subst hTS
            exact .inr ⟨T, f, _, up _ _ (Nat.ne_of_lt s1) q, Heap.get?_update_self _ hS' rfl, q3, q4⟩
          · exact .inr ⟨T, f, oT, up _ _ (Nat.ne_of_lt s1) q, up _ _ hTS q2, q3, q4⟩
      · have q := st1'.2
        cases k1
        · exact Heap.IsList.at q fun o e => up a o (Nat.ne_of_lt s6) e
        · exact Heap.IsTuple.at q fun o e => up a o (Nat.ne_of_lt s6) e
      · have q := st2'.2
        cases k2
        · exact Heap.IsList.at q fun o e => up b o (Nat.ne_of_lt s7) e
        · exact Heap.IsTuple.at q fun o e => up b o (Nat.ne_of_lt s7) e
      · obtain ⟨q1, q2, q3, q4, q5, q6⟩ := hb1 b o e
        exact up b o (Nat.ne_of_lt q6) (hkp b o q1 q3 q4 q5 (hkeep b o e))
      · refine List.pairwise_append.mpr ⟨hG.rise, List.pairwise_singleton _ _, fun a ha b hb => ?_⟩
        rw [List.mem_singleton.mp hb]
        exact hG.there ha
      · intro a ha
        rcases List.mem_append.mp ha with ha | ha
        · exact hG.above a ha
        · rw [List.mem_singleton.mp ha]; exact hSlt
      · intro j q hj
        rcases Nat.lt_trichotomy j as.length with h1 | h1 | h1
        · rw [List.getElem?_append_left h1] at hj
          obtain ⟨x, y, g1, g2, g3⟩ := hG.pairs j q hj
          have hb := hG.above q (List.mem_of_getElem? hj)
          exact ⟨x, y, g1, g2, up q _ (Nat.ne_of_gt hb) (hkp q _ (Nat.ne_of_gt (Nat.lt_trans s1 hb)) (Nat.ne_of_gt (Nat.lt_trans s3 hb)) (Nat.ne_of_gt (Nat.lt_trans s4 hb)) (Nat.ne_of_gt (Nat.lt_trans s5 hb)) g3)⟩
        · subst h1
          have hb : h.objs.size = q := by simpa using hj
          subst hb
          rw [hal]
          exact ⟨x1, x2, e1, e2, up _ _ (Nat.ne_of_gt hSlt) ht⟩
        · have hnone : (as ++ [h.objs.size])[j]? = none := List.getElem?_eq_none (by rw [List.length_append, List.length_singleton]; omega)
          rw [hnone] at hj; cases hj
    rcases hz with ⟨hz, x, y, hTO⟩ | ⟨T, f, oT, hz, hT, hTz, hTTO⟩
    · refine wpAny_bind (wpAny_pyNext_zipD2_item (s := { s with heap := h, toks := tk }) (i := i) (sep_of D) D1 D2 hz hTI hTO st1 st2 (by omega) (by omega) fun x1 x2 h' tk' q1 q2 z' TO' h1' h2' hT hsz' hkp => ?_)
      have hzl : z < h.objs.size := Heap.lt_size hz
      have hTl : TO < h.objs.size := Heap.lt_size hTO
      exact step x1 x2 h' tk' q1 q2 (.inr ⟨h.objs.size, false, _, z', hT, Nat.ne_of_gt hzl, Nat.ne_of_gt hTl⟩) h1' h2' hT hkp
    · refine wpAny_bind (pyNext_heldD (s := { s with heap := h, toks := tk }) (i := i) (sep_of D) D1 D2 hz hT hTI st1 st2 (by omega) (by omega) fun x1 x2 h' tk' q1 q2 z' h1' h2' hT' hsz' hkp => ?_)
      have hT2 : ∃ o, h'.get? T = some o := by
        by_cases e1 : T = i1
        · subst e1; obtain ⟨o, q, _⟩ := h1'.1.there; exact ⟨o, q⟩
        · by_cases e2 : T = i2
          · subst e2; obtain ⟨o, q, _⟩ := h2'.1.there; exact ⟨o, q⟩
          · exact ⟨oT, hkp T oT hTz e1 e2 hT⟩
      obtain ⟨o2, hT2⟩ := hT2
      exact step x1 x2 h' tk' q1 q2 (.inr ⟨T, true, o2, z', hT2, hTz, hTTO⟩) h1' h2' hT' fun c o c1 _ c3 c4 e => hkp c o c1 c3 c4 e
end
end DC
namespace DC
open PySem PySem.Spec PyProof.Rows L2 RZ
open Sem (wp)
section
variable {prog : Program} {w : World} {A : Around} {E : Value → Shared → Prop} {s : Shared} {its1 its2 : Array Value}
theorem zl_call {Q : Value → Shared → Prop} {k1 k2 : Bool} {z TI TO i1 i2 a b : Addr} (hh : A.handled = none) (D : ZipApart z TI TO i1 i2 a b) (hn1 : its1.size ≤ sizeLine) {N : Nat} (hN : N = min its1.size its2.size) {h₁ : Heap}
    (hb1 : ∀ c o, h₁.get? c = some o → c ≠ z ∧ c ≠ TI ∧ c ≠ TO ∧ c ≠ i1 ∧ c ≠ i2 ∧ s.heap.get? c = some o) (hz : IsZip s.heap z TI TO .none) (hTI : IsTupOf2 s.heap TI (.ref i1) (.ref i2)) (hTO : IsTupOf2 s.heap TO .none .none)
    (st1 : ItK k1 s.heap i1 a 0 ∧ IsK k1 s.heap a its1) (st2 : ItK k2 s.heap i2 b 0 ∧ IsK k2 s.heap b its2)
    (hQ : ∀ h' tk acc c as, (∀ b o, h₁.get? b = some o → h'.get? b = some o) → h'.get? s.heap.objs.size = some { cls := .type "list", dict := none, data := .seq acc c, slots := #[] } → as.length = N → ZG its1 its2 s.heap.objs.size h' as →
      acc.toList = as.map Value.ref → Q (.ref s.heap.objs.size) { s with heap := h', toks := tk }) :
    wpAny (model prog w) A (call (.type "list") [.ref z]) Q E s := by
  obtain ⟨o1, g1, _⟩ := st1.1.there
  obtain ⟨o2, g2, _⟩ := st2.1.there
  have lts : z < s.heap.objs.size ∧ TI < s.heap.objs.size ∧ TO < s.heap.objs.size ∧ i1 < s.heap.objs.size ∧ i2 < s.heap.objs.size ∧ a < s.heap.objs.size ∧ b < s.heap.objs.size :=
    ⟨Heap.lt_size hz, Heap.lt_size hTI, Heap.lt_size hTO, Heap.lt_size g1, Heap.lt_size g2, st1.2.lt, st2.2.lt⟩
  refine callType_codes (Q₁ := fun obj s₁ => obj = .ref s.heap.objs.size ∧ s₁ = { s with heap := s.heap.push { cls := .type "list", data := .seq #[] } }) PySem.F.called_list (PySem.F.typeCall_list_1 _) PySem.F.entry_list_init
    (code_list_new _ ⟨rfl, rfl⟩) fun obj s₁ h₁' => ?_
  obtain ⟨rfl, rfl⟩ := h₁'
  have hS : (s.heap.push { cls := .type "list", data := .seq #[] }).get? s.heap.objs.size = some { cls := .type "list", data := .seq #[] } := Heap.get?_push_size _ rfl
  refine ⟨⟨_, hS, rfl⟩, PySem.F.args_list_init_2 _ _, ?_⟩
  show wpAny _ _ (do let old ← Builtin.List.listItems (.ref s.heap.objs.size); Builtin.List.listUpdate (.ref s.heap.objs.size) (fun _ => #[]); letGo old.toList.reverse; Builtin.List.listExtendWith (.ref s.heap.objs.size) (.ref z) .none) _ _ _
  refine wpAny_bind ?_
  unfold Builtin.List.listItems
  refine wpAny_bind (wpAny_seqItems hS rfl (wpAny_pure ?_))
  show wpAny _ _ (updateSeq s.heap.objs.size (fun _ => #[]) >>= fun _ => letGo (#[] : Array Value).toList.reverse >>= fun _ => Builtin.List.listExtendWith (.ref s.heap.objs.size) (.ref z) .none) _ _ _
  refine wpAny_bind (wpAny_updateSeq hS rfl ?_)
  have hS₂ := Heap.get?_update_self (Obj.mapSeq (fun _ => (#[] : Array Value))) hS rfl
  have oth : ∀ b o, s.heap.get? b = some o → ((s.heap.push { cls := .type "list", data := .seq #[] }).update s.heap.objs.size (Obj.mapSeq (fun _ => (#[] : Array Value)))).get? b = some o :=
    fun b o e => (Heap.get?_update_other _ _ (Ne.symm (Nat.ne_of_lt (Heap.lt_size e)))).trans (Heap.get?_push_of_some _ e)
  refine wpAny_bind (wpAny_letGo ?_)
  have key : ∀ (h : Heap) (c₁ tk : Nat), (∀ b o, s.heap.get? b = some o → h.get? b = some o) → h.get? s.heap.objs.size = some { cls := .type "list", data := .seq #[] c₁ } →
      codeAny (model prog w) A.in1 (.builtin "list.extend.loop" ⟨[.ref s.heap.objs.size, .ref z, .none], []⟩) (wants (fun r s₂ => r = .none ∧ Q (.ref s.heap.objs.size) s₂) E) { s with heap := h, toks := tk } := by
    intro h c₁ tk hk hS₁
    have ik : ∀ {k : Bool} {i a : Addr} {its : Array Value}, (ItK k s.heap i a 0 ∧ IsK k s.heap a its) → (ItK k h i a 0 ∧ IsK k h a its) := fun {k i a its} q => by
      refine ⟨q.1.at fun o e => hk _ _ e, ?_⟩
      have q2 := q.2
      cases k
      · exact Heap.IsList.at q2 fun o e => hk _ _ e
      · exact Heap.IsTuple.at q2 fun o e => hk _ _ e
    refine zl_loop (A := A.in1) (s := s) (S := s.heap.objs.size) (h₁ := h₁) (its1 := its1) (its2 := its2) hh D lts hn1 hN .none (fun c o e => ?_) (fun h' tk' acc c as k1 k2 k3 k4 k5 => ⟨rfl, hQ h' tk' acc c as k1 k2 k3 k4 k5⟩) N 0 h tk c₁ #[] [] (Nat.sub_zero _) (Nat.zero_le _)
      (.inl ⟨hk _ _ hz, _, _, hk _ _ hTO⟩) (hk _ _ hTI) (ik st1) (ik st2) (fun c o e => hk c o (hb1 c o e).2.2.2.2.2) hS₁ rfl rfl ⟨List.Pairwise.nil, (fun _ ha => nomatch ha), (fun j a hj => by simp at hj)⟩
    obtain ⟨q1, q2, q3, q4, q5, q6⟩ := hb1 c o e
    exact ⟨q1, q2, q3, q4, q5, Heap.lt_size q6⟩
  unfold Builtin.List.listExtendWith
  have hzT : ∀ {h : Heap} {tk : Tok}, (∀ b o, s.heap.get? b = some o → h.get? b = some o) → Shared.TypeIs { s with heap := h, toks := tk } (.ref z) "zip" := fun hk => ⟨_, hk _ _ hz, rfl⟩
  refine wpAny_bind (wpAny_typeOf (T := "zip") (hzT oth) ?_)
  have h1 : Builtin.List.listSameRef (.ref s.heap.objs.size) (.ref z) = false := by simp [Builtin.List.listSameRef, Nat.ne_of_gt lts.1]
  have h2 : (Value.type "zip" == Value.type "list") = false := by decide
  have h3 : (Value.type "zip" == Value.type "tuple") = false := by decide
  simp only [h1, h2, h3, Bool.or_false, Bool.false_eq_true, if_false]
  refine wpAny_bind (wpAny_pyIter_zip (oth _ _ hz) ?_)
  refine wpAny_bind (wpAny_holding ?_)
  unfold Builtin.List.listLengthHint
  refine wpAny_bind (wpAny_specialOf (hzT oth) zip_no_len ?_)
  show wpAny _ _ (specialOf (Value.ref z) (Str.ofString "__length_hint__") >>= _) _ _ _
  refine wpAny_bind (wpAny_specialOf (hzT oth) zip_no_hint ?_)
  refine wpAny_pure ?_
  show wpAny _ _ (rule "list.extend.makes-room" >>= fun _ => Builtin.List.listTouch (.ref s.heap.objs.size) >>= fun _ =>
    again (.builtin "list.extend.loop" ⟨[.ref s.heap.objs.size, .ref z, .none], []⟩)) _ _ _
  refine wpAny_bind (wpAny_rule ?_)
  refine wpAny_bind ?_
  show wpAny _ _ (updateSeq s.heap.objs.size (·.push .none) >>= fun _ => updateSeq s.heap.objs.size (·.pop)) _ _ _
  refine wpAny_bind (wpAny_updateSeq hS₂ rfl ?_)
  have hS₃ := Heap.get?_update_self (Obj.mapSeq (·.push Value.none)) hS₂ rfl
  refine wpAny_updateSeq (hz := by seq_fits) hS₃ rfl ?_
  have hS₄ := Heap.get?_update_self (Obj.mapSeq (·.pop)) hS₃ rfl
  refine wpAny_pure ⟨plainId_quiet PySem.F.plain_extend_loop _, key _ _ _ (fun b o e => ?_) hS₄⟩
  have nb : s.heap.objs.size ≠ b := Ne.symm (Nat.ne_of_lt (Heap.lt_size e))
  exact (Heap.get?_update_other _ _ nb).trans ((Heap.get?_update_other _ _ nb).trans (oth b o e))
end
/-- tuples already laid are tracked, with their objects -/
theorem takeF {X : Cx} {pins : List (Addr × Obj)} {σ : L2.St} {H0 : Hp} {s : Shared} {h' : Heap} {tk : Nat} {P : Addr → List V → Prop} (I0 : Inv X pins σ H0 s) : ∀ (L : List Addr) (H1 : Hp), Inv X pins σ H1 { s with heap := h', toks := tk } → L.Nodup →
    (∀ a ∈ L, s.heap.objs.size ≤ a ∧ H1 a = none ∧ ∃ vs o, o.dict = none ∧ P a vs ∧ ∀ H2, ObjOk X.prog X.w H2 h' a (.frz o (.tup vs))) →
    ∃ H2, Inv X pins σ H2 { s with heap := h', toks := tk } ∧ (∀ b o, H1 b = some o → H2 b = some o) ∧ ∀ a ∈ L, ∃ vs o, o.dict = none ∧ P a vs ∧ H2 a = some (.frz o (.tup vs))
  | [], H1, I1, _, _ => ⟨H1, I1, fun _ _ e => e, fun _ h => nomatch h⟩
  | a :: L, H1, I1, hn, h => by
    obtain ⟨hb, hnone, vs, o, hd, hP, ok⟩ := h a (List.mem_cons_self ..)
    have I2 : Inv X pins σ (upd H1 a (.frz o (.tup vs))) { s with heap := h', toks := tk } := I1.take (h' := h') (t' := tk) (fun b ob _ e => e) (I0.fpOk hb hnone) (ok _)
    rw [List.nodup_cons] at hn
    obtain ⟨H2, I3, g, q⟩ := takeF I0 L (upd H1 a (.frz o (.tup vs))) I2 hn.2 fun c hc => by
      obtain ⟨c1, c2, c3⟩ := h c (List.mem_cons_of_mem _ hc)
      exact ⟨c1, by rw [upd_ne (fun z => hn.1 (by rw [← z]; exact hc))]; exact c2, c3⟩
    refine ⟨H2, I3, fun b o e => g b o (by rw [upd_ne (ne_of_none e hnone)]; exact e), fun c hc => ?_⟩
    rcases List.mem_cons.mp hc with rfl | hc
    · exact ⟨vs, o, hd, hP, g _ _ upd_same⟩
    · exact q c hc
theorem valsR {xs : List V} {us : List Value} {i : Nat} {u : Value} (r : Vals xs us) (e : us[i]? = some u) : ∃ x, xs[i]? = some x ∧ RelV x u := by
  have hl : i < xs.length := by rw [r.length]; exact (List.getElem?_eq_some_iff.mp e).1
  obtain ⟨u', e1, e2⟩ := r.get (List.getElem?_eq_getElem hl)
  rw [e] at e1
  cases e1
  exact ⟨_, List.getElem?_eq_getElem hl, e2⟩
/-- list(zip(..)): a new list of new pairs -/
def tListZip (K : PySem.W.Frag) (ta : TA) : TE := fun σ H Q => ta σ H fun vs H1 => ∃ k1 k2 a b xs ys, vs = [.ref a, .ref b] ∧ SqK K k1 H1 a xs ∧ SqK K k2 H1 b ys ∧
  ∀ (H' : Hp) (p : Addr) (ts : List Addr), (∀ b o, H1 b = some o → H' b = some o) → H1 p = none → ts.length = min xs.length ys.length → H' p = some (.lst (ts.map V.ref)) →
    (∀ (j : Nat) (t : Addr), ts[j]? = some t → ∃ x y o, o.dict = none ∧ xs[j]? = some x ∧ ys[j]? = some y ∧ H' t = some (.frz o (.tup [x, y])) ∧ t ≠ p ∧ H1 t = none) → Q (.ref p) H'
theorem pe_listZip {X : Cx} {e e2 : Expr} {ta : TA} {p p2 pos2 pos : Pos} (hc : X.calm = true) (hg : Gl X "list") (hm : X.mg "list" = none) (hg2 : Gl X "zip") (hm2 : X.mg "zip" = none) (ha : PA X [e, e2] ta)
    (hs : starEach [e, e2] X.env = (false, eval e X.env) :: starEach [e2] X.env := by rfl) (hpl : (backTo pos2 (starEach [e2] X.env)).any (·.1) = false := by rfl)
    (na : starEach [.Call (.Name "zip" p2) [e, e2] [] pos2] X.env = (false, eval (.Call (.Name "zip" p2) [e, e2] [] pos2) X.env) :: starEach [] X.env := by rfl) :
    PE X (.Call (.Name "list" p) [.Call (.Name "zip" p2) [e, e2] [] pos2] [] pos) (tListZip X.K ta) := by
  refine ⟨fun pins s σ H Q I h => ?_⟩
  refine Call_ (ld_blt I hg hm boot_list (PyProof.Rows.callWith_type1 (args_cons ?_ na) na))
  refine Call_ (ld_blt I hg2 hm2 PyProof.Rows.boot_zip (PyProof.Rows.callWith_type1 (thn (ha.run pos2 pins s σ H _ I h) fun us s1 ⟨vs, H1, I1, r1, q1⟩ => ?_) hs hpl))
  obtain ⟨k1, k2, a, b, xs, ys, ex, hqx, hqy, q⟩ := q1
  subst ex
  cases r1 with
  | cons r rr =>
    cases rr with
    | cons r' rr =>
      cases rr
      cases r
      cases r'
      obtain ⟨its, rv, p1, hz1⟩ := Inv.seqK I1 hqx
      obtain ⟨its2, rv2, p2, _⟩ := Inv.seqK I1 hqy
      have l1 := rv.length
      have l2 := rv2.length
      refine zip_begins2 (begK k1 a its.toArray) (begK k2 b its2.toArray) p1 p2 fun h' hz hTI hTO h1 h2 hsz hk => args_nil ?_
      have D := PySem.W.ktu_apart s1.heap.objs.size a b p1.lt p2.lt
      have ikp : ∀ {k : Bool} {a : Addr} {its : Array Value}, IsK k s1.heap a its → IsK k h' a its := fun {k a its} q => by
        cases k
        · exact Heap.IsList.at q fun o e => hk _ _ e
        · exact Heap.IsTuple.at q fun o e => hk _ _ e
      refine zl_call (s := { s1 with heap := h' }) (h₁ := s1.heap) (its1 := its.toArray) (its2 := its2.toArray) (N := min xs.length ys.length) (I1.ok.hd hc) D (by rw [List.size_toArray, ← l1]; exact hz1) (by rw [List.size_toArray, List.size_toArray, l1, l2]) (fun c o e => ?_) hz hTI hTO ⟨ItK.new h1, ikp p1⟩ ⟨ItK.new h2, ikp p2⟩ fun h3 tk acc c as hk3 hS hl hG hacc => ?_
      · have hlt : c < s1.heap.objs.size := Heap.lt_size e
        exact ⟨Nat.ne_of_lt (Nat.lt_of_lt_of_le hlt (Nat.le_add_right _ _)), Nat.ne_of_lt (Nat.lt_of_lt_of_le hlt (Nat.le_add_right _ _)), Nat.ne_of_lt (Nat.lt_of_lt_of_le hlt (Nat.le_add_right _ _)), Nat.ne_of_lt hlt, Nat.ne_of_lt (Nat.lt_of_lt_of_le hlt (Nat.le_add_right _ _)), hk _ _ e⟩
      · have I3 : Inv X pins σ H1 { s1 with heap := h3, toks := tk } := I1.kept (t' := tk) hk3
        have hS0 : s1.heap.objs.size ≤ h'.objs.size := by rw [hsz]; exact Nat.le_add_right _ _
        have nS : H1 h'.objs.size = none := I1.hok.fresh hS0
        have hlen : as.length = min xs.length ys.length := hl
        have I4 : Inv X pins σ (upd H1 h'.objs.size (.lst (as.map V.ref))) { s1 with heap := h3, toks := tk } := I3.take (h' := h3) (t' := tk) (fun b ob _ e => e) (I1.fpOk hS0 nS)
          ⟨by rw [List.length_map, hlen]; omega, acc.toList, c, by rw [hacc]; exact LiI.vals_refs as, by rw [Array.toArray_toList]; exact hS⟩
        have nd : as.Nodup := List.Pairwise.imp (fun {a b} (h : a < b) => Nat.ne_of_lt h) hG.rise
        obtain ⟨H2, I5, g, qq⟩ := takeF (P := fun t vs => ∃ j x y, as[j]? = some t ∧ xs[j]? = some x ∧ ys[j]? = some y ∧ vs = [x, y]) I1 as _ I4 nd fun t ht => by
          have hgt : h'.objs.size < t := hG.above t ht
          have hle : s1.heap.objs.size ≤ t := Nat.le_trans hS0 (Nat.le_of_lt hgt)
          obtain ⟨j, hj⟩ := List.mem_iff_getElem?.mp ht
          obtain ⟨u, u2, f1, f2, f3⟩ := hG.pairs j t hj
          obtain ⟨x, g1, g2⟩ := valsR rv (show its[j]? = some u by simpa using f1)
          obtain ⟨y, g3, g4⟩ := valsR rv2 (show its2[j]? = some u2 by simpa using f2)
          refine ⟨hle, by rw [upd_ne (Nat.ne_of_gt hgt)]; exact I1.hok.fresh hle, [x, y], { cls := .type "tuple", data := .seq #[u, u2] }, rfl, ⟨j, x, y, hj, g1, g3, rfl⟩, fun H2 => ?_⟩
          exact ⟨f3, by show 2 ≤ sizeLine; decide, [u, u2], .cons g2 (.cons g4 .nil), ⟨_, f3, rfl, _, rfl⟩⟩
        refine ⟨.ref h'.objs.size, H2, I5, rfl, q H2 h'.objs.size as (fun b o e => g b o (by rw [upd_ne (ne_of_none e nS)]; exact e)) nS hlen (g _ _ upd_same) fun j t hj => ?_⟩
        obtain ⟨vs, o, hd, ⟨j', x, y, e1, e2, e3, e4⟩, e5⟩ := qq t (List.mem_of_getElem? hj)
        have ej : j' = j := by
          have a1 := List.getElem?_eq_some_iff.mp e1
          have a2 := List.getElem?_eq_some_iff.mp hj
          obtain ⟨b1, c1⟩ := a1
          obtain ⟨b2, c2⟩ := a2
          exact (List.getElem_inj nd).mp (c1.trans c2.symm)
        subst ej e4
        have hgt : h'.objs.size < t := hG.above t (List.mem_of_getElem? hj)
        exact ⟨x, y, o, hd, e2, e3, e5, Nat.ne_of_gt hgt, I1.hok.fresh (Nat.le_trans hS0 (Nat.le_of_lt hgt))⟩
end DC
set_option Elab.async false
set_option linter.all false
set_option maxRecDepth 100000
set_option maxHeartbeats 2000000
/-! DC: deep values D, their representation in the abstract heap, slots, cells; the state relation Rl. -/
namespace DC
open PySem PySem.Spec PyProof.Rows L2
/-- a deep value -/
inductive D where
  | non
  | bl (b : Bool)
  | int (i : Int)
  | str (x : Str)
  | tup (xs : List D)
  | lst (xs : List D)
  | scr (ns : List Int)
  | dk (ks : List Key) (vs : List D)
  | dt (ks : List (List Key)) (vs : List D)
  | own (n : Nat)
  deriving Inhabited
/-- a slot: nothing known, a value that stands, an own container -/
inductive Sl where
  | no
  | fz (d : D)
  | ow (d : D)
  deriving Inhabited
abbrev Env := List Sl
abbrev Store := List (List Int)
def Exts (H H' : Hp) : Prop := ∀ a o, H a = some o → H' a = some o
theorem Exts.refl (H : Hp) : Exts H H := fun _ _ h => h
theorem Exts.trans {H H1 H2 : Hp} (a : Exts H H1) (b : Exts H1 H2) : Exts H H2 := fun x o h => b x o (a x o h)
theorem Exts.new {H : Hp} {p : Addr} {o : HO} (h : H p = none) : Exts H (upd H p o) := fun a u e => by
  rw [upd_ne (ne_of_none e h)]; exact e
theorem Exts.rd {H H' : Hp} {a : Addr} {u : HO} (e : Exts H H') (h : Rd H a u) : Rd H' a u := by
  rcases h with h | ⟨o, h⟩
  · exact .inl (e _ _ h)
  · exact .inr ⟨o, e _ _ h⟩
theorem Exts.sqL {K : PySem.W.Frag} {H H' : Hp} {a : Addr} {xs : List V} (e : Exts H H') (h : SqL K H a xs) : SqL K H' a xs := by
  rcases h with h | h
  · exact .inl (e.rd h)
  · exact .inr h
theorem Exts.sqT {K : PySem.W.Frag} {H H' : Hp} {a : Addr} {xs : List V} (e : Exts H H') (h : SqT K H a xs) : SqT K H' a xs := by
  rcases h with h | h
  · exact .inl (e.rd h)
  · exact .inr h
def strOk (x : Str) : Bool := x.cps.all (· < 0x110000)
/-- the key of a pair of a value and a fraction -/
def prK : D → Option Int
  | .tup [.int v, .tup [.int _, .int _]] => some v
  | _ => none
def prKs : List D → Option (List Int)
  | [] => some []
  | d :: ds => match prK d with
    | none => none
    | some k => match prKs ds with
      | none => none
      | some ks => some (k :: ks)
def rises : List Int → Bool
  | a :: b :: r => decide (a < b) && rises (b :: r)
  | _ => true
/-- chances: pairs of a value and a fraction, the values rising -/
def isCh : List D → Bool
  | [] => false
  | d :: ds => match prKs (d :: ds) with
    | none => false
    | some ks => rises ks
/-- chances are tuples whose object is known to have no dict -/
def Nd (H : Hp) (a : Addr) (xs : List V) (ds : List D) : Prop := isCh ds = true → ∃ o : Obj, H a = some (.frz o (.tup xs)) ∧ o.dict = none
theorem Nd.mono {H H' : Hp} {a : Addr} {xs : List V} {ds : List D} (e : Exts H H') (h : Nd H a xs ds) : Nd H' a xs ds := fun c => let ⟨o, q, d⟩ := h c; ⟨o, e _ _ q, d⟩
theorem Nd.no {H : Hp} {a : Addr} {xs : List V} {ds : List D} (h : isCh ds = false) : Nd H a xs ds := fun c => by rw [h] at c; cases c
mutual
inductive Rp (K : PySem.W.Frag) (T : List Addr) (H : Hp) : V → D → Prop
  | non : Rp K T H .non .non
  | bl (b : Bool) : Rp K T H (.bl b) (.bl b)
  | int (i : Int) : Rp K T H (.int i) (.int i)
  | str {x : Str} (h : strOk x = true) : Rp K T H (.str x) (.str x)
  | tup {a : Addr} {xs : List V} {ds : List D} : SqT K H a xs → RpA K T H xs ds → Nd H a xs ds → Rp K T H (.ref a) (.tup ds)
  | lst {a : Addr} {xs : List V} {ds : List D} : H a = some (.lst xs) → RpA K T H xs ds → Rp K T H (.ref a) (.lst ds)
  | scr {a : Addr} {ns : List Int} : SqL K H a (ns.map V.int) → Rp K T H (.ref a) (.scr ns)
  | dk {a : Addr} {kvs : List (Key × V)} {ks : List Key} {ds : List D} : Rd H a (.dK kvs) → kvs.map Prod.fst = ks → RpA K T H (kvs.map Prod.snd) ds → Rp K T H (.ref a) (.dk ks ds)
  | dt {a : Addr} {kvs : List (List Key × V)} {ks : List (List Key)} {ds : List D} : Rd H a (.dT kvs) → kvs.map Prod.fst = ks → RpA K T H (kvs.map Prod.snd) ds → Rp K T H (.ref a) (.dt ks ds)
  | own {a : Addr} {n : Nat} : T[n]? = some a → Rp K T H (.ref a) (.own n)
inductive RpA (K : PySem.W.Frag) (T : List Addr) (H : Hp) : List V → List D → Prop
  | nil : RpA K T H [] []
  | cons {v : V} {vs : List V} {d : D} {ds : List D} : Rp K T H v d → RpA K T H vs ds → RpA K T H (v :: vs) (d :: ds)
end
section
variable {K : PySem.W.Frag} {T : List Addr} {H H' : Hp}
mutual
theorem Rp.mono (e : Exts H H') : ∀ {d : D} {v : V}, Rp K T H v d → Rp K T H' v d
  | .non, _, h => by cases h; exact .non
  | .bl _, _, h => by cases h; exact .bl _
  | .int _, _, h => by cases h; exact .int _
  | .str _, _, h => by cases h with | str q => exact .str q
  | .tup ds, _, h => by cases h with | tup q r z => exact .tup (e.sqT q) (RpA.mono e r) (z.mono e)
  | .lst ds, _, h => by cases h with | lst q r => exact .lst (e _ _ q) (RpA.mono e r)
  | .scr ns, _, h => by cases h with | scr q => exact .scr (e.sqL q)
  | .dk ks ds, _, h => by cases h with | dk q z r => exact .dk (e.rd q) z (RpA.mono e r)
  | .dt ks ds, _, h => by cases h with | dt q z r => exact .dt (e.rd q) z (RpA.mono e r)
  | .own n, _, h => by cases h with | own q => exact .own q
theorem RpA.mono (e : Exts H H') : ∀ {ds : List D} {vs : List V}, RpA K T H vs ds → RpA K T H' vs ds
  | [], _, h => by cases h; exact .nil
  | d :: ds, _, h => by cases h with | cons q r => exact .cons (Rp.mono e q) (RpA.mono e r)
end
theorem RpA.length : ∀ {ds : List D} {vs : List V}, RpA K T H vs ds → vs.length = ds.length
  | [], _, h => by cases h; rfl
  | d :: ds, _, h => by cases h with | cons q r => rw [List.length_cons, List.length_cons, r.length]
theorem RpA.get : ∀ {ds : List D} {vs : List V} {i : Nat} {d : D}, RpA K T H vs ds → ds[i]? = some d → ∃ v, vs[i]? = some v ∧ Rp K T H v d
  | [], _, _, _, _, e => by simp at e
  | d :: ds, _, 0, _, h, e => by
    cases h with
    | cons q r =>
      have e' := Option.some.inj (by simpa using e)
      subst e'
      exact ⟨_, rfl, q⟩
  | d :: ds, _, i + 1, _, h, e => by
    cases h with
    | cons q r =>
      obtain ⟨v, e1, e2⟩ := RpA.get (i := i) r (by simpa using e)
      exact ⟨v, by simpa using e1, e2⟩
theorem RpA.getV : ∀ {ds : List D} {vs : List V} {i : Nat} {v : V}, RpA K T H vs ds → vs[i]? = some v → ∃ d, ds[i]? = some d ∧ Rp K T H v d
  | [], _, i, v, h, e => by cases h; simp at e
  | d :: ds, _, 0, _, h, e => by
    cases h with
    | cons q r =>
      have e' := Option.some.inj (by simpa using e)
      subst e'
      exact ⟨_, rfl, q⟩
  | d :: ds, _, i + 1, _, h, e => by
    cases h with
    | cons q r =>
      obtain ⟨v, e1, e2⟩ := RpA.getV (i := i) r (by simpa using e)
      exact ⟨v, by simpa using e1, e2⟩
theorem RpA.append : ∀ {ds es : List D} {vs ws : List V}, RpA K T H vs ds → RpA K T H ws es → RpA K T H (vs ++ ws) (ds ++ es)
  | [], _, _, _, h, h' => by cases h; exact h'
  | d :: ds, _, _, _, h, h' => by cases h with | cons q r => exact .cons q (r.append h')
theorem RpA.take : ∀ {ds : List D} {vs : List V} (n : Nat), RpA K T H vs ds → RpA K T H (vs.take n) (ds.take n)
  | _, _, 0, _ => by simp only [List.take_zero]; exact .nil
  | [], _, n + 1, h => by cases h; exact .nil
  | d :: ds, _, n + 1, h => by cases h with | cons q r => exact .cons q (r.take n)
theorem RpA.drop : ∀ {ds : List D} {vs : List V} (n : Nat), RpA K T H vs ds → RpA K T H (vs.drop n) (ds.drop n)
  | _, _, 0, h => h
  | [], _, n + 1, h => by cases h; exact .nil
  | d :: ds, _, n + 1, h => by cases h with | cons q r => exact r.drop n
theorem RpA.set {d : D} {v : V} (r : Rp K T H v d) : ∀ {ds : List D} {vs : List V} (n : Nat), RpA K T H vs ds → RpA K T H (vs.set n v) (ds.set n d)
  | [], _, n, h => by cases h; exact .nil
  | _ :: ds, _, 0, h => by cases h with | cons q t => exact .cons r t
  | _ :: ds, _, n + 1, h => by cases h with | cons q t => exact .cons q (RpA.set r n t)
theorem RpA.reverse : ∀ {ds : List D} {vs : List V}, RpA K T H vs ds → RpA K T H vs.reverse ds.reverse
  | [], _, h => by cases h; exact .nil
  | d :: ds, _, h => by
    cases h with
    | cons q r =>
      rw [List.reverse_cons, List.reverse_cons]
      exact r.reverse.append (.cons q .nil)
theorem RpA.ints : ∀ {ns : List Int} {vs : List V}, RpA K T H vs (ns.map D.int) → vs = ns.map V.int
  | [], _, h => by cases h; rfl
  | n :: ns, _, h => by
    cases h with
    | cons q r =>
      cases q
      rw [RpA.ints r]
      rfl
theorem RpA.of_ints : ∀ (ns : List Int), RpA K T H (ns.map V.int) (ns.map D.int)
  | [] => .nil
  | n :: ns => .cons (.int n) (RpA.of_ints ns)
theorem RpA.bls : ∀ {ns : List Bool} {vs : List V}, RpA K T H vs (ns.map D.bl) → vs = ns.map V.bl
  | [], _, h => by cases h; rfl
  | n :: ns, _, h => by
    cases h with
    | cons q r =>
      cases q
      rw [RpA.bls r]
      rfl
end
def NoT (o : HO) : Prop := ∀ xs, o ≠ .tup xs
/-- what a body runs over: addresses that are not its own (A), the cells (T), the heap at its entry (He) -/
structure Ct where
  A : Addr → Prop
  T : List Addr
  He : Hp
/-- the heap as the slots' values may lean on it -/
noncomputable def vw (c : Ct) (os : List (Option Addr)) (H : Hp) : Hp := fun b => open Classical in if (c.A b ∨ b ∈ c.T ∨ some b ∈ os) then none else H b
theorem vw_some {c : Ct} {os : List (Option Addr)} {H : Hp} {b : Addr} {o : HO} : vw c os H b = some o ↔ (H b = some o ∧ ¬ c.A b ∧ b ∉ c.T ∧ some b ∉ os) := by
  unfold vw
  by_cases h : (c.A b ∨ b ∈ c.T ∨ some b ∈ os)
  · rw [if_pos h]
    constructor
    · intro z; cases z
    · rintro ⟨_, h1, h2, h3⟩
      rcases h with h | h | h
      · exact absurd h h1
      · exact absurd h h2
      · exact absurd h h3
  · rw [if_neg h]
    constructor
    · intro z
      exact ⟨z, fun q => h (.inl q), fun q => h (.inr (.inl q)), fun q => h (.inr (.inr q))⟩
    · exact fun z => z.1
theorem vw_le {c : Ct} {os : List (Option Addr)} {H : Hp} : Exts (vw c os H) H := fun _ _ h => (vw_some.mp h).1
theorem vw_mono {c : Ct} {os : List (Option Addr)} {H H' : Hp} (e : Exts H H') : Exts (vw c os H) (vw c os H') := fun _ _ h => by
  obtain ⟨h1, h2⟩ := vw_some.mp h
  exact vw_some.mpr ⟨e _ _ h1, h2⟩
theorem vw_os {c : Ct} {os os' : List (Option Addr)} {H : Hp} (e : ∀ a, some a ∈ os' → some a ∈ os) : Exts (vw c os H) (vw c os' H) := fun _ _ h => by
  obtain ⟨h1, h2, h3, h4⟩ := vw_some.mp h
  exact vw_some.mpr ⟨h1, h2, h3, fun q => h4 (e _ q)⟩
/-- an own container at a -/
inductive OwAt (K : PySem.W.Frag) (T : List Addr) (Hv H : Hp) (a : Addr) : D → Prop
  | lst {xs : List V} {ds : List D} : H a = some (.lst xs) → RpA K T Hv xs ds → OwAt K T Hv H a (.lst ds)
  | dk {kvs : List (Key × V)} {ks : List Key} {ds : List D} : H a = some (.dK kvs) → kvs.map Prod.fst = ks → RpA K T Hv (kvs.map Prod.snd) ds → OwAt K T Hv H a (.dk ks ds)
  | dt {kvs : List (List Key × V)} {ks : List (List Key)} {ds : List D} : H a = some (.dT kvs) → kvs.map Prod.fst = ks → RpA K T Hv (kvs.map Prod.snd) ds → OwAt K T Hv H a (.dt ks ds)
theorem OwAt.mono {K : PySem.W.Frag} {T : List Addr} {Hv Hv' H H' : Hp} {a : Addr} {d : D} (e : Exts Hv Hv') (k : ∀ o, H a = some o → H' a = some o) : OwAt K T Hv H a d → OwAt K T Hv' H' a d
  | .lst h r => .lst (k _ h) (r.mono e)
  | .dk h z r => .dk (k _ h) z (r.mono e)
  | .dt h z r => .dt (k _ h) z (r.mono e)
theorem OwAt.there {K : PySem.W.Frag} {T : List Addr} {Hv H : Hp} {a : Addr} {d : D} : OwAt K T Hv H a d → ∃ o, H a = some o
  | .lst h _ => ⟨_, h⟩
  | .dk h _ _ => ⟨_, h⟩
  | .dt h _ _ => ⟨_, h⟩
theorem OwAt.thereN {K : PySem.W.Frag} {T : List Addr} {Hv H : Hp} {a : Addr} {d : D} : OwAt K T Hv H a d → ∃ o, H a = some o ∧ NoT o
  | .lst h _ => ⟨_, h, fun _ q => by cases q⟩
  | .dk h _ _ => ⟨_, h, fun _ q => by cases q⟩
  | .dt h _ _ => ⟨_, h, fun _ q => by cases q⟩
/-- it stands as a value where it may be seen -/
theorem OwAt.rp {K : PySem.W.Frag} {T : List Addr} {Hv Hv' H : Hp} {a : Addr} {d : D} (e : Exts Hv Hv') (k : ∀ o, H a = some o → Hv' a = some o) : OwAt K T Hv H a d → Rp K T Hv' (.ref a) d
  | .lst h r => .lst (k _ h) (r.mono e)
  | .dk h z r => .dk (.inl (k _ h)) z (r.mono e)
  | .dt h z r => .dt (.inl (k _ h)) z (r.mono e)
/-- a slot's word -/
def SlAt (K : PySem.W.Frag) (T : List Addr) (Hv H : Hp) : Option Addr → Sl → Option V → Prop
  | none, .no, _ => True
  | none, .fz d, some v => Rp K T Hv v d
  | some a, .ow d, some v => v = .ref a ∧ OwAt K T Hv H a d
  | _, _, _ => False
structure Rl (K : PySem.W.Frag) (c : Ct) (os : List (Option Addr)) (ρ : Env) (μ : Store) (σ : L2.St) (H : Hp) : Prop where
  lo : os.length = σ.length
  lr : ρ.length = σ.length
  sl : ∀ (i : Nat) (o : Option Addr) (s : Sl) (x : Option V), os[i]? = some o → ρ[i]? = some s → σ[i]? = some x → SlAt K c.T (vw c os H) H o s x
  inj : ∀ (i j : Nat) (a : Addr), os[i]? = some (some a) → os[j]? = some (some a) → i = j
  own : ∀ a, some a ∈ os → a ∉ c.T ∧ ¬ c.A a ∧ c.He a = none
  tA : ∀ a, a ∈ c.T → ¬ c.A a
  tn : c.T.Nodup
  sm : μ.length = c.T.length
  st : ∀ (n : Nat) (a : Addr) (ns : List Int), c.T[n]? = some a → μ[n]? = some ns → H a = some (.lst (ns.map V.int))
  keep : ∀ b o, c.He b = some o → b ∉ c.T → H b = some o
  dom : ∀ b, c.A b → ∃ o, H b = some o ∧ NoT o
section
variable {K : PySem.W.Frag} {c : Ct} {os : List (Option Addr)} {ρ : Env} {μ : Store} {σ : L2.St} {H H' : Hp}
theorem Rl.ownSomeN (r : Rl K c os ρ μ σ H) {a : Addr} (h : some a ∈ os) : ∃ o, H a = some o ∧ NoT o := by
  obtain ⟨i, hi⟩ := List.getElem?_of_mem h
  have hlt : i < os.length := (List.getElem?_eq_some_iff.mp hi).1
  have h1 : i < ρ.length := by rw [r.lr, ← r.lo]; exact hlt
  have h2 : i < σ.length := by rw [← r.lo]; exact hlt
  have q := r.sl i _ _ _ hi (List.getElem?_eq_getElem h1) (List.getElem?_eq_getElem h2)
  cases e1 : ρ[i] with
  | no => rw [e1] at q; simp [SlAt] at q
  | fz d => rw [e1] at q; simp [SlAt] at q
  | ow d =>
    cases e2 : σ[i] with
    | none => rw [e1, e2] at q; simp [SlAt] at q
    | some v => rw [e1, e2] at q; exact q.2.thereN
theorem Rl.ownSome (r : Rl K c os ρ μ σ H) {a : Addr} (h : some a ∈ os) : ∃ o, H a = some o := let ⟨o, e, _⟩ := r.ownSomeN h; ⟨o, e⟩
theorem Rl.cellSome (r : Rl K c os ρ μ σ H) {a : Addr} (h : a ∈ c.T) : ∃ o, H a = some o := by
  obtain ⟨i, hi⟩ := List.getElem?_of_mem h
  have hlt : i < c.T.length := (List.getElem?_eq_some_iff.mp hi).1
  have h1 : i < μ.length := by rw [r.sm]; exact hlt
  exact ⟨_, r.st i a _ hi (List.getElem?_eq_getElem h1)⟩
/-- a new address is none of ours -/
theorem Rl.fresh (r : Rl K c os ρ μ σ H) {p : Addr} (h : H p = none) : ¬ c.A p ∧ p ∉ c.T ∧ some p ∉ os ∧ (c.He p = none) := by
  refine ⟨fun q => ?_, fun q => ?_, fun q => ?_, ?_⟩
  · obtain ⟨o, e, _⟩ := r.dom p q; rw [h] at e; cases e
  · obtain ⟨o, e⟩ := r.cellSome q; rw [h] at e; cases e
  · obtain ⟨o, e⟩ := r.ownSome q; rw [h] at e; cases e
  · cases e : c.He p with
    | none => rfl
    | some o =>
      have nt : p ∉ c.T := fun q => by obtain ⟨o, e⟩ := r.cellSome q; rw [h] at e; cases e
      have := r.keep p o e nt
      rw [h] at this; cases this
/-- all that was stands -/
theorem Rl.grow (r : Rl K c os ρ μ σ H) (e : Exts H H') : Rl K c os ρ μ σ H' where
  lo := r.lo
  lr := r.lr
  sl := fun i o s x h1 h2 h3 => by
    have q := r.sl i o s x h1 h2 h3
    unfold SlAt at q ⊢
    split at q
    · trivial
    · exact q.mono (vw_mono e)
    · exact ⟨q.1, q.2.mono (vw_mono e) (fun o h => e _ _ h)⟩
    · exact q.elim
  inj := r.inj
  own := r.own
  tA := r.tA
  tn := r.tn
  sm := r.sm
  st := fun n a ds h1 h2 => e _ _ (r.st n a ds h1 h2)
  keep := fun b o h1 h2 => e _ _ (r.keep b o h1 h2)
  dom := fun b h => by
    obtain ⟨o, q, n⟩ := r.dom b h
    exact ⟨o, e _ _ q, n⟩
theorem Rl.new (r : Rl K c os ρ μ σ H) {p : Addr} {o : HO} (h : H p = none) : Rl K c os ρ μ σ (upd H p o) := r.grow (Exts.new h)
theorem Rl.seen (r : Rl K c os ρ μ σ H) {p : Addr} {o : HO} (h : H p = none) : vw c os (upd H p o) p = some o := by
  obtain ⟨h1, h2, h3, _⟩ := r.fresh h
  exact vw_some.mpr ⟨upd_same, h1, h2, h3⟩
theorem Rl.newX (r : Rl K c os ρ μ σ H) {p : Addr} {o : HO} (h : H p = none) : Exts (vw c os H) (vw c os (upd H p o)) := vw_mono (Exts.new h)
/-- what stood at the entry, or when the loop began, is seen -/
theorem Rl.seesOld (r : Rl K c os ρ μ σ H) {G : Hp} (h : Exts G c.He) (nT : ∀ b o, G b = some o → b ∉ c.T ∧ ¬ c.A b) : Exts G (vw c os H) := fun b o e => by
  have h1 := h b o e
  obtain ⟨n1, n2⟩ := nT b o e
  refine vw_some.mpr ⟨r.keep b o h1 n1, n2, n1, fun q => ?_⟩
  have := (r.own b q).2.2
  rw [h1] at this; cases this
/-- a value that stands, read -/
theorem Rl.get (r : Rl K c os ρ μ σ H) {i : Nat} {d : D} (h : ρ[i]? = some (.fz d)) : ∃ v, σ[i]? = some (some v) ∧ Rp K c.T (vw c os H) v d ∧ os[i]? = some none := by
  have h0 : i < ρ.length := (List.getElem?_eq_some_iff.mp h).1
  have h1 : i < os.length := by rw [r.lo, ← r.lr]; exact h0
  have h2 : i < σ.length := by rw [← r.lr]; exact h0
  have q := r.sl i _ _ _ (List.getElem?_eq_getElem h1) h (List.getElem?_eq_getElem h2)
  cases e1 : os[i] with
  | some a => rw [e1] at q; simp [SlAt] at q
  | none =>
    cases e2 : σ[i] with
    | none => rw [e1, e2] at q; simp [SlAt] at q
    | some v =>
      rw [e1, e2] at q
      exact ⟨v, by rw [List.getElem?_eq_getElem h2, e2], q, by rw [List.getElem?_eq_getElem h1, e1]⟩
theorem Rl.getOw (r : Rl K c os ρ μ σ H) {i : Nat} {d : D} (h : ρ[i]? = some (.ow d)) : ∃ a, σ[i]? = some (some (.ref a)) ∧ os[i]? = some (some a) ∧ OwAt K c.T (vw c os H) H a d := by
  have h0 : i < ρ.length := (List.getElem?_eq_some_iff.mp h).1
  have h1 : i < os.length := by rw [r.lo, ← r.lr]; exact h0
  have h2 : i < σ.length := by rw [← r.lr]; exact h0
  have q := r.sl i _ _ _ (List.getElem?_eq_getElem h1) h (List.getElem?_eq_getElem h2)
  cases e1 : os[i] with
  | none => rw [e1] at q; cases e2 : σ[i] <;> rw [e2] at q <;> simp [SlAt] at q
  | some a =>
    cases e2 : σ[i] with
    | none => rw [e1, e2] at q; simp [SlAt] at q
    | some v =>
      rw [e1, e2] at q
      obtain ⟨q1, q2⟩ := q
      subst q1
      exact ⟨a, by rw [List.getElem?_eq_getElem h2, e2], by rw [List.getElem?_eq_getElem h1, e1], q2⟩
theorem mem_set_none {os : List (Option Addr)} {i : Nat} {a : Addr} (h : some a ∈ os.set i none) : some a ∈ os := by
  rcases List.mem_or_eq_of_mem_set h with h | h
  · exact h
  · cases h
/-- slot i takes a value that stands -/
theorem Rl.set (r : Rl K c os ρ μ σ H) {i : Nat} {d : D} {v : V} (hv : Rp K c.T (vw c os H) v d) : Rl K c (os.set i none) (ρ.set i (.fz d)) μ (σ.set i (some v)) H := by
  have up : Exts (vw c os H) (vw c (os.set i none) H) := vw_os fun a h => mem_set_none h
  refine ⟨by simp [r.lo], by simp [r.lr], fun j o s x h1 h2 h3 => ?_, fun j k a h1 h2 => ?_, fun a h => r.own a (mem_set_none h), r.tA, r.tn, r.sm, r.st, r.keep, r.dom⟩
  · by_cases hj : i = j
    · subst hj
      have l1 : i < os.length := by have := (List.getElem?_eq_some_iff.mp h1).1; simpa using this
      have l2 : i < ρ.length := by have := (List.getElem?_eq_some_iff.mp h2).1; simpa using this
      have l3 : i < σ.length := by have := (List.getElem?_eq_some_iff.mp h3).1; simpa using this
      rw [List.getElem?_set_self l1] at h1
      rw [List.getElem?_set_self l2] at h2
      rw [List.getElem?_set_self l3] at h3
      cases h1; cases h2; cases h3
      exact hv.mono up
    · rw [List.getElem?_set_ne hj] at h1 h2 h3
      have q := r.sl j o s x h1 h2 h3
      unfold SlAt at q ⊢
      split at q
      · trivial
      · exact q.mono up
      · exact ⟨q.1, q.2.mono up (fun o h => h)⟩
      · exact q.elim
  · have g : ∀ m, (os.set i none)[m]? = some (some a) → os[m]? = some (some a) := fun m hm => by
      by_cases e : i = m
      · subst e
        have l1 : i < os.length := by have := (List.getElem?_eq_some_iff.mp hm).1; simpa using this
        rw [List.getElem?_set_self l1] at hm; cases hm
      · rw [List.getElem?_set_ne e] at hm; exact hm
    exact r.inj j k a (g j h1) (g k h2)
/-- slot i is forgotten -/
theorem Rl.drop (r : Rl K c os ρ μ σ H) {i : Nat} (v : Option V) : Rl K c (os.set i none) (ρ.set i .no) μ (σ.set i v) H := by
  have up : Exts (vw c os H) (vw c (os.set i none) H) := vw_os fun a h => mem_set_none h
  refine ⟨by simp [r.lo], by simp [r.lr], fun j o s x h1 h2 h3 => ?_, fun j k a h1 h2 => ?_, fun a h => r.own a (mem_set_none h), r.tA, r.tn, r.sm, r.st, r.keep, r.dom⟩
  · by_cases hj : i = j
    · subst hj
      have l1 : i < os.length := by have := (List.getElem?_eq_some_iff.mp h1).1; simpa using this
      have l2 : i < ρ.length := by have := (List.getElem?_eq_some_iff.mp h2).1; simpa using this
      rw [List.getElem?_set_self l1] at h1
      rw [List.getElem?_set_self l2] at h2
      cases h1; cases h2
      trivial
    · rw [List.getElem?_set_ne hj] at h1 h2 h3
      have q := r.sl j o s x h1 h2 h3
      unfold SlAt at q ⊢
      split at q
      · trivial
      · exact q.mono up
      · exact ⟨q.1, q.2.mono up (fun o h => h)⟩
      · exact q.elim
  · have g : ∀ m, (os.set i none)[m]? = some (some a) → os[m]? = some (some a) := fun m hm => by
      by_cases e : i = m
      · subst e
        have l1 : i < os.length := by have := (List.getElem?_eq_some_iff.mp hm).1; simpa using this
        rw [List.getElem?_set_self l1] at hm; cases hm
      · rw [List.getElem?_set_ne e] at hm; exact hm
    exact r.inj j k a (g j h1) (g k h2)
end
end DC
set_option Elab.async false
set_option linter.all false
set_option maxRecDepth 100000
set_option maxHeartbeats 2000000
/-! DC: outcomes, readings by denotations, the base rules. -/
namespace DC
open PySem PySem.Spec PyProof.Rows L2
structure Exn where
  k : Nat
  pay : Option (Str × D)
inductive Res (α : Type) where
  | ok (a : α) (μ : Store)
  | exc (x : Exn) (μ : Store)
  | fail
abbrev XD := Env → Store → Res D
abbrev XB := Env → Store → Res Bool
abbrev XL := Env → Store → Res (List D)
def Res.bind {α β : Type} (r : Res α) (k : α → Store → Res β) : Res β := match r with
  | .ok a μ => k a μ
  | .exc x μ => .exc x μ
  | .fail => .fail
def Res.ofO {α : Type} (o : Option α) (μ : Store) : Res α := match o with
  | some a => .ok a μ
  | none => .fail
def Out {α : Type} (r : Res α) (ok : α → Store → Prop) (ex : Exn → Store → Prop) : Prop := match r with
  | .ok a μ => ok a μ
  | .exc x μ => ex x μ
  | .fail => False
theorem Out.bind {α β : Type} {r : Res α} {k : α → Store → Res β} {ok : β → Store → Prop} {ex : Exn → Store → Prop} (h : Out (r.bind k) ok ex) : Out r (fun a μ => Out (k a μ) ok ex) ex := by
  cases r with
  | ok a μ => exact h
  | exc x μ => exact h
  | fail => exact h
theorem Out.imp {α : Type} {r : Res α} {ok ok' : α → Store → Prop} {ex ex' : Exn → Store → Prop} (h : Out r ok ex) (h1 : ∀ a μ, ok a μ → ok' a μ) (h2 : ∀ x μ, ex x μ → ex' x μ) : Out r ok' ex' := by
  cases r with
  | ok a μ => exact h1 _ _ h
  | exc x μ => exact h2 _ _ h
  | fail => exact h
theorem Out.ofO {α : Type} {o : Option α} {μ : Store} {ok : α → Store → Prop} {ex : Exn → Store → Prop} (h : Out (Res.ofO o μ) ok ex) : ∃ a, o = some a ∧ ok a μ := by
  cases o with
  | some a => exact ⟨a, rfl, h⟩
  | none => exact False.elim h
/-- all but the cells stands -/
def Kp (c : Ct) (H H' : Hp) : Prop := ∀ b o, H b = some o → b ∉ c.T → H' b = some o
theorem Kp.refl (c : Ct) (H : Hp) : Kp c H H := fun _ _ h _ => h
theorem Kp.trans {c : Ct} {H H1 H2 : Hp} (a : Kp c H H1) (b : Kp c H1 H2) : Kp c H H2 := fun x o h n => b x o (a x o h n) n
theorem Kp.vw {c : Ct} {os : List (Option Addr)} {H H' : Hp} (k : Kp c H H') : Exts (vw c os H) (vw c os H') := fun b o h => by
  obtain ⟨h1, h2, h3, h4⟩ := vw_some.mp h
  exact vw_some.mpr ⟨k b o h1 h3, h2, h3, h4⟩
theorem Kp.nn {c : Ct} {H H' : Hp} {a : Addr} (k : Kp c H H') (n : H' a = none) (t : a ∉ c.T) : H a = none := by
  cases e : H a with
  | none => rfl
  | some o => rw [k a o e t] at n; cases n
theorem Kp.new {c : Ct} {H : Hp} {a : Addr} {o : HO} (n : H a = none) : Kp c H (upd H a o) := fun b u h _ => by
  rw [upd_ne (ne_of_none h n)]; exact h
/-- how an exception lies: its class, its field -/
def ExAt (K : PySem.W.Frag) (cl : Nat → Addr) (c : Ct) (os : List (Option Addr)) (x : Exn) (e : Value) (dx : Option Addr) (H : Hp) : Prop :=
  e = .ref (cl x.k) ∧ match x.pay with
    | none => dx = none
    | some (f, d) => ∃ a v, dx = some a ∧ H a = some (.xd [(f, v)]) ∧ Rp K c.T (vw c os H) v d
def VOk (K : PySem.W.Frag) (c : Ct) (os : List (Option Addr)) (ρ : Env) (σ : L2.St) (H : Hp) (Q : VK) (d : D) (μ : Store) : Prop :=
  ∀ v H', Rl K c os ρ μ σ H' → Kp c H H' → Rp K c.T (vw c os H') v d → Q v H'
def EOk (K : PySem.W.Frag) (cl : Nat → Addr) (W : WX) (c : Ct) (os : List (Option Addr)) (ρ : Env) (σ : L2.St) (H : Hp) (x : Exn) (μ : Store) : Prop :=
  ∀ e dx H', Rl K c os ρ μ σ H' → Kp c H H' → ExAt K cl c os x e dx H' → W e dx σ H'
section
variable {K : PySem.W.Frag} {cl : Nat → Addr} {W : WX} {c : Ct} {os : List (Option Addr)} {ρ : Env} {μ : Store} {σ : L2.St} {H H' : Hp} {Q : VK} {d : D} {x : Exn}
theorem VOk.mono (e : Kp c H H') (h : VOk K c os ρ σ H Q d μ) : VOk K c os ρ σ H' Q d μ := fun v H2 r e2 p => h v H2 r (e.trans e2) p
theorem EOk.mono (e : Kp c H H') (h : EOk K cl W c os ρ σ H x μ) : EOk K cl W c os ρ σ H' x μ := fun v dx H2 r e2 p => h v dx H2 r (e.trans e2) p
theorem VOk.same (h : VOk K c os ρ σ H Q d μ) (r : Rl K c os ρ μ σ H) {v : V} (p : Rp K c.T (vw c os H) v d) : Q v H := h v H r (Kp.refl _ _) p
/-- a new tuple -/
theorem VOk.newT {ds : List D} {xs : List V} (h : VOk K c os ρ σ H Q (.tup ds) μ) (r : Rl K c os ρ μ σ H) (p : RpA K c.T (vw c os H) xs ds) : NewT H xs Q := by
  by_cases e : isCh ds = true
  · exact .inr fun a o d n => h _ _ (r.new n) (Kp.new n) (.tup (.inl (.inr ⟨o, r.seen n⟩)) (p.mono (r.newX n)) fun _ => ⟨o, r.seen n, d⟩)
  · exact .inl fun a n => h _ _ (r.new n) (Kp.new n) (.tup (.inl (.inl (r.seen n))) (p.mono (r.newX n)) fun q => absurd q e)
theorem VOk.newT0 {ds : List D} {xs : List V} (h : VOk K c os ρ σ H Q (.tup ds) μ) (r : Rl K c os ρ μ σ H) (p : RpA K c.T (vw c os H) xs ds) (e : isCh ds = false) {a : Addr} (n : H a = none) : Q (.ref a) (upd H a (.tup xs)) :=
  h _ _ (r.new n) (Kp.new n) (.tup (.inl (.inl (r.seen n))) (p.mono (r.newX n)) (.no e))
theorem VOk.newL {ds : List D} {xs : List V} (h : VOk K c os ρ σ H Q (.lst ds) μ) (r : Rl K c os ρ μ σ H) (p : RpA K c.T (vw c os H) xs ds) {a : Addr} (n : H a = none) : Q (.ref a) (upd H a (.lst xs)) :=
  h _ _ (r.new n) (Kp.new n) (.lst (r.seen n) (p.mono (r.newX n)))
end
/-! ### new containers -/
def Ct.av (c : Ct) (a : Addr) : Ct := { c with A := fun b => c.A b ∨ b = a }
structure Fr (K : PySem.W.Frag) (c : Ct) (os : List (Option Addr)) (ρ : Env) (μ : Store) (σ : L2.St) (H : Hp) (a : Addr) (d : D) : Prop where
  rl : Rl K (c.av a) os ρ μ σ H
  ow : OwAt K c.T (vw (c.av a) os H) H a d
  nA : ¬ c.A a
  nT : a ∉ c.T
  no : some a ∉ os
  he : c.He a = none
section
variable {K : PySem.W.Frag} {c c' : Ct} {os : List (Option Addr)} {ρ : Env} {μ : Store} {σ : L2.St} {H H' : Hp} {a : Addr} {d : D}
theorem Rl.move (r : Rl K c os ρ μ σ H) (eT : c'.T = c.T) (e : Exts (vw c os H) (vw c' os H')) (ow : ∀ b o, some b ∈ os → H b = some o → H' b = some o) (ce : ∀ b o, b ∈ c.T → H b = some o → H' b = some o)
    (own' : ∀ b, some b ∈ os → ¬ c'.A b ∧ c'.He b = none) (tA' : ∀ b, b ∈ c.T → ¬ c'.A b) (keep' : ∀ b o, c'.He b = some o → b ∉ c.T → H' b = some o) (dom' : ∀ b, c'.A b → ∃ o, H' b = some o ∧ NoT o) : Rl K c' os ρ μ σ H' where
  lo := r.lo
  lr := r.lr
  sl := fun i o s x h1 h2 h3 => by
    have q := r.sl i o s x h1 h2 h3
    have hm : ∀ b, o = some b → some b ∈ os := fun b eb => by rw [← eb]; exact List.mem_of_getElem? h1
    rw [eT]
    unfold SlAt at q ⊢
    split at q
    · trivial
    · exact q.mono e
    · exact ⟨q.1, q.2.mono e (fun o h => ow _ _ (hm _ rfl) h)⟩
    · exact q.elim
  inj := r.inj
  own := fun b h => by rw [eT]; exact ⟨(r.own b h).1, own' b h⟩
  tA := fun b h => tA' b (by rw [← eT]; exact h)
  tn := by rw [eT]; exact r.tn
  sm := by rw [eT]; exact r.sm
  st := fun n a ds h1 h2 => by
    rw [eT] at h1
    exact ce _ _ (List.mem_of_getElem? h1) (r.st n a ds h1 h2)
  keep := fun b o h1 h2 => keep' b o h1 (by rw [← eT]; exact h2)
  dom := dom'
theorem vw_av : Exts (vw (c.av a) os H) (vw c os H) := fun b o h => by
  obtain ⟨h1, h2, h3, h4⟩ := vw_some.mp h
  exact vw_some.mpr ⟨h1, fun q => h2 (.inl q), h3, h4⟩
theorem Fr.out (f : Fr K c os ρ μ σ H a d) : Rl K c os ρ μ σ H :=
  f.rl.move rfl vw_av (fun _ _ _ h => h) (fun _ _ _ h => h) (fun b h => ⟨fun q => (f.rl.own b h).2.1 (.inl q), (f.rl.own b h).2.2⟩) (fun b h q => f.rl.tA b h (.inl q)) f.rl.keep (fun b h => f.rl.dom b (.inl h))
theorem Fr.rp (f : Fr K c os ρ μ σ H a d) : Rp K c.T (vw c os H) (.ref a) d := f.ow.rp vw_av fun o h => vw_some.mpr ⟨h, f.nA, f.nT, f.no⟩
theorem Rl.av (r : Rl K c os ρ μ σ H) {o : HO} (n : H a = none) (nt : NoT o := by intro _ q; cases q) : Rl K (c.av a) os ρ μ σ (upd H a o) ∧ Exts (vw c os H) (vw (c.av a) os (upd H a o)) := by
  obtain ⟨h1, h2, h3, h4⟩ := r.fresh n
  have e : Exts (vw c os H) (vw (c.av a) os (upd H a o)) := fun b u h => by
    obtain ⟨q1, q2, q3, q4⟩ := vw_some.mp h
    have nb : b ≠ a := ne_of_none q1 n
    exact vw_some.mpr ⟨by rw [upd_ne nb]; exact q1, fun q => q.elim q2 nb, q3, q4⟩
  refine ⟨r.move rfl e (fun b u hb h => by rw [upd_ne (ne_of_none h n)]; exact h) (fun b u hb h => by rw [upd_ne (ne_of_none h n)]; exact h) (fun b hb => ⟨fun q => q.elim (r.own b hb).2.1 fun z => h3 (by rw [← z]; exact hb), (r.own b hb).2.2⟩)
    (fun b hb q => q.elim (r.tA b hb) fun z => h2 (by rw [← z]; exact hb)) (fun b u q1 q2 => ?_) (fun b q => ?_), e⟩
  · have q := r.keep b u q1 q2
    rw [upd_ne (ne_of_none q n)]; exact q
  · rcases q with q | q
    · obtain ⟨u, z, nu⟩ := r.dom b q
      exact ⟨u, by rw [upd_ne (ne_of_none z n)]; exact z, nu⟩
    · exact ⟨o, by rw [q, upd_same], nt⟩
theorem Rl.frL (r : Rl K c os ρ μ σ H) {xs : List V} {ds : List D} (p : RpA K c.T (vw c os H) xs ds) (n : H a = none) : Fr K c os ρ μ σ (upd H a (.lst xs)) a (.lst ds) ∧ Kp c H (upd H a (.lst xs)) := by
  obtain ⟨h1, h2, h3, h4⟩ := r.fresh n
  obtain ⟨q, e⟩ := r.av (o := .lst xs) n
  exact ⟨⟨q, .lst upd_same (p.mono e), h1, h2, h3, h4⟩, Kp.new n⟩
theorem mem_set_some {os : List (Option Addr)} {i : Nat} {a b : Addr} (h : some b ∈ os.set i (some a)) : some b ∈ os ∨ b = a := by
  rcases List.mem_or_eq_of_mem_set h with h | h
  · exact .inl h
  · exact .inr (Option.some.inj h)
/-- slot i takes the new container -/
theorem Fr.put (f : Fr K c os ρ μ σ H a d) (i : Nat) : Rl K c (os.set i (some a)) (ρ.set i (.ow d)) μ (σ.set i (some (.ref a))) H := by
  have r := f.rl
  have up : Exts (vw (c.av a) os H) (vw c (os.set i (some a)) H) := fun b o h => by
    obtain ⟨h1, h2, h3, h4⟩ := vw_some.mp h
    exact vw_some.mpr ⟨h1, fun q => h2 (.inl q), h3, fun q => (mem_set_some q).elim h4 fun z => h2 (.inr z)⟩
  refine ⟨by simp [r.lo], by simp [r.lr], fun j o s x h1 h2 h3 => ?_, fun j k b h1 h2 => ?_, fun b h => ?_, fun b h q => r.tA b h (.inl q), r.tn, r.sm, r.st, r.keep, fun b h => r.dom b (.inl h)⟩
  · by_cases hj : i = j
    · subst hj
      have l1 : i < os.length := by have := (List.getElem?_eq_some_iff.mp h1).1; simpa using this
      have l2 : i < ρ.length := by have := (List.getElem?_eq_some_iff.mp h2).1; simpa using this
      have l3 : i < σ.length := by have := (List.getElem?_eq_some_iff.mp h3).1; simpa using this
      rw [List.getElem?_set_self l1] at h1
      rw [List.getElem?_set_self l2] at h2
      rw [List.getElem?_set_self l3] at h3
      cases h1; cases h2; cases h3
      exact ⟨rfl, f.ow.mono up fun _ h => h⟩
    · rw [List.getElem?_set_ne hj] at h1 h2 h3
      have q := r.sl j o s x h1 h2 h3
      unfold SlAt at q ⊢
      split at q
      · trivial
      · exact q.mono up
      · exact ⟨q.1, q.2.mono up (fun o h => h)⟩
      · exact q.elim
  · have g : ∀ m, (os.set i (some a))[m]? = some (some b) → (m = i ∧ b = a) ∨ os[m]? = some (some b) := fun m hm => by
      by_cases e : i = m
      · subst e
        have l1 : i < os.length := by have := (List.getElem?_eq_some_iff.mp hm).1; simpa using this
        rw [List.getElem?_set_self l1] at hm; cases hm
        exact .inl ⟨rfl, rfl⟩
      · rw [List.getElem?_set_ne e] at hm; exact .inr hm
    have na : ∀ m, os[m]? = some (some a) → False := fun m hm => f.no (List.mem_of_getElem? hm)
    rcases g j h1 with ⟨z1, z2⟩ | z
    · rcases g k h2 with ⟨y1, y2⟩ | y
      · rw [z1, y1]
      · subst z2; exact (na k y).elim
    · rcases g k h2 with ⟨y1, y2⟩ | y
      · subst y2; exact (na j z).elim
      · exact r.inj j k b z y
  · rcases mem_set_some h with z | z
    · exact ⟨(r.own b z).1, fun q => (r.own b z).2.1 (.inl q), (r.own b z).2.2⟩
    · subst z; exact ⟨f.nT, f.nA, f.he⟩
/-- an own container stands as a value from now on -/
theorem Rl.freeze (r : Rl K c os ρ μ σ H) {i : Nat} (h : ρ[i]? = some (.ow d)) : Rl K c (os.set i none) (ρ.set i (.fz d)) μ σ H := by
  obtain ⟨a, h1, h2, h3⟩ := r.getOw h
  have l1 : i < σ.length := (List.getElem?_eq_some_iff.mp h1).1
  have nin : some a ∉ os.set i none := fun q => by
    obtain ⟨j, hj⟩ := List.getElem?_of_mem q
    by_cases e : i = j
    · subst e
      have l2 : i < os.length := by rw [r.lo]; exact l1
      rw [List.getElem?_set_self l2] at hj; cases hj
    · rw [List.getElem?_set_ne e] at hj
      exact e (r.inj i j a h2 hj)
  have hm : some a ∈ os := List.mem_of_getElem? h2
  have up : Exts (vw c os H) (vw c (os.set i none) H) := vw_os fun b hb => mem_set_none hb
  have hp : Rp K c.T (vw c (os.set i none) H) (.ref a) d := h3.rp up fun o ho => vw_some.mpr ⟨ho, (r.own a hm).2.1, (r.own a hm).1, nin⟩
  have q := (r.drop (i := i) (some (.ref a))).set (i := i) hp
  have e1 : (σ.set i (some (V.ref a))).set i (some (V.ref a)) = σ := by
    rw [List.set_set]
    apply List.ext_getElem?
    intro j
    by_cases e : i = j
    · subst e; rw [List.getElem?_set_self l1, h1]
    · rw [List.getElem?_set_ne e]
  have e2 : (ρ.set i Sl.no).set i (.fz d) = ρ.set i (.fz d) := List.set_set ..
  have e3 : (os.set i none).set i none = os.set i none := List.set_set ..
  rw [e1, e2, e3] at q
  exact q
/-- an own container is changed -/
theorem Rl.change (r : Rl K c os ρ μ σ H) {i : Nat} {d' : D} {o : HO} (h1 : σ[i]? = some (some (.ref a))) (h2 : os[i]? = some (some a)) (hn : OwAt K c.T (vw c os H) (upd H a o) a d') : Rl K c os (ρ.set i (.ow d')) μ σ (upd H a o) := by
  have hm : some a ∈ os := List.mem_of_getElem? h2
  have ev : vw c os (upd H a o) = vw c os H := by
    funext b
    unfold vw
    by_cases hb : (c.A b ∨ b ∈ c.T ∨ some b ∈ os)
    · rw [if_pos hb, if_pos hb]
    · rw [if_neg hb, if_neg hb, upd_ne]
      rintro rfl
      exact hb (.inr (.inr hm))
  refine ⟨r.lo, by simp [r.lr], fun j u s x q1 q2 q3 => ?_, r.inj, r.own, r.tA, r.tn, r.sm, fun n b ds q1 q2 => ?_, fun b u q1 q2 => ?_, fun b q => ?_⟩
  · rw [ev]
    by_cases hj : i = j
    · subst hj
      have l2 : i < ρ.length := by have := (List.getElem?_eq_some_iff.mp q2).1; simpa using this
      rw [List.getElem?_set_self l2] at q2
      rw [h2] at q1
      rw [h1] at q3
      cases q1; cases q2; cases q3
      exact ⟨rfl, hn⟩
    · rw [List.getElem?_set_ne hj] at q2
      have q := r.sl j u s x q1 q2 q3
      have hu : ∀ b, u = some b → b ≠ a := fun b eb z => by
        subst eb
        subst z
        exact hj (r.inj i j b h2 q1)
      unfold SlAt at q ⊢
      split at q
      · trivial
      · exact q
      · refine ⟨q.1, q.2.mono (Exts.refl _) (fun w hw => ?_)⟩
        rw [upd_ne (hu _ rfl)]; exact hw
      · exact q.elim
  · have nb : b ≠ a := fun z => by subst z; exact (r.own b hm).1 (List.mem_of_getElem? q1)
    rw [upd_ne nb]; exact r.st n b ds q1 q2
  · have nb : b ≠ a := fun z => by
      subst z
      have := (r.own b hm).2.2
      rw [q1] at this; cases this
    rw [upd_ne nb]
    exact r.keep b u q1 q2
  · obtain ⟨u, z, nu⟩ := r.dom b q
    have nb : b ≠ a := fun z => by subst z; exact (r.own b hm).2.1 q
    exact ⟨u, by rw [upd_ne nb]; exact z, nu⟩
/-- a cell is changed -/
theorem Rl.setCell (r : Rl K c os ρ μ σ H) {n : Nat} {ns : List Int} (h : c.T[n]? = some a) : Rl K c os ρ (μ.set n ns) σ (upd H a (.lst (ns.map V.int))) ∧ Kp c H (upd H a (.lst (ns.map V.int))) := by
  have hm : a ∈ c.T := List.mem_of_getElem? h
  have ev : vw c os (upd H a (.lst (ns.map V.int))) = vw c os H := by
    funext b
    unfold vw
    by_cases hb : (c.A b ∨ b ∈ c.T ∨ some b ∈ os)
    · rw [if_pos hb, if_pos hb]
    · rw [if_neg hb, if_neg hb, upd_ne]
      rintro rfl
      exact hb (.inr (.inl hm))
  refine ⟨⟨r.lo, r.lr, fun j u s x q1 q2 q3 => ?_, r.inj, r.own, r.tA, r.tn, by simp [r.sm], fun m b es q1 q2 => ?_, fun b u q1 q2 => ?_, fun b q => ?_⟩, fun b u h n => by rw [upd_ne (fun z => n (by rw [z]; exact hm))]; exact h⟩
  · rw [ev]
    have q := r.sl j u s x q1 q2 q3
    have hu : ∀ b, u = some b → b ≠ a := fun b eb z => by
      subst eb
      subst z
      exact (r.own b (List.mem_of_getElem? q1)).1 hm
    unfold SlAt at q ⊢
    split at q
    · trivial
    · exact q
    · refine ⟨q.1, q.2.mono (Exts.refl _) (fun w hw => ?_)⟩
      rw [upd_ne (hu _ rfl)]; exact hw
    · exact q.elim
  · by_cases hj : n = m
    · subst hj
      rw [h] at q1; cases q1
      have l2 : n < μ.length := by have := (List.getElem?_eq_some_iff.mp q2).1; simpa using this
      rw [List.getElem?_set_self l2] at q2
      cases q2
      exact upd_same
    · rw [List.getElem?_set_ne hj] at q2
      have q3 := r.st m b es q1 q2
      have nb : b ≠ a := fun z => by
        subst z
        have l1 : n < c.T.length := (List.getElem?_eq_some_iff.mp h).1
        have l2 : m < c.T.length := (List.getElem?_eq_some_iff.mp q1).1
        have e1 := (List.getElem?_eq_some_iff.mp h).2
        have e2 := (List.getElem?_eq_some_iff.mp q1).2
        exact hj ((List.getElem_inj r.tn).mp (e1.trans e2.symm))
      rw [upd_ne nb]; exact q3
  · have nb : b ≠ a := fun z => by subst z; exact q2 hm
    rw [upd_ne nb]
    exact r.keep b u q1 q2
  · obtain ⟨u, z, nu⟩ := r.dom b q
    have nb : b ≠ a := fun z => by subst z; exact r.tA b hm q
    exact ⟨u, by rw [upd_ne nb]; exact z, nu⟩
/-- an own container was lent as a value; it is own again -/
theorem Rl.reown (r : Rl K c os ρ μ σ H) {i : Nat} {μ' : Store} (q : Rl K c (os.set i none) (ρ.set i (.fz d)) μ' σ H') (k : Kp c H H') : Rl K c os ρ μ' σ H' where
  lo := r.lo
  lr := r.lr
  sl := fun j o s x h1 h2 h3 => by
    have z := r.sl j o s x h1 h2 h3
    have hm : ∀ b, o = some b → b ∉ c.T := fun b eb => (r.own b (by rw [← eb]; exact List.mem_of_getElem? h1)).1
    unfold SlAt at z ⊢
    split at z
    · trivial
    · exact z.mono k.vw
    · exact ⟨z.1, z.2.mono k.vw (fun o h => k _ _ h (hm _ rfl))⟩
    · exact z.elim
  inj := r.inj
  own := r.own
  tA := r.tA
  tn := r.tn
  sm := q.sm
  st := q.st
  keep := fun b o h1 h2 => k b o (r.keep b o h1 h2) h2
  dom := fun b h => by
    obtain ⟨o, z, nu⟩ := r.dom b h
    exact ⟨o, k b o z fun y => r.tA b y h, nu⟩
end
end DC
set_option Elab.async false
set_option linter.all false
set_option maxRecDepth 100000
set_option maxHeartbeats 2000000
/-! DC: readings of expressions, tests, arguments; calls of defs. -/
namespace DC
open PySem PySem.Spec PyProof.Rows L2
def FOk (K : PySem.W.Frag) (c : Ct) (os : List (Option Addr)) (ρ : Env) (σ : L2.St) (H : Hp) (Q : VK) (d : D) (μ : Store) : Prop :=
  ∀ a H', Fr K c os ρ μ σ H' a d → Kp c H H' → H a = none → Q (.ref a) H'
theorem FOk.mono {K : PySem.W.Frag} {c : Ct} {os : List (Option Addr)} {ρ : Env} {μ : Store} {σ : L2.St} {H H' : Hp} {Q : VK} {d : D} (e : Kp c H H') (h : FOk K c os ρ σ H Q d μ) : FOk K c os ρ σ H' Q d μ := fun a H2 f e2 n => h a H2 f (e.trans e2) (e.nn n f.nT)
theorem VOk.f {K : PySem.W.Frag} {c : Ct} {os : List (Option Addr)} {ρ : Env} {μ : Store} {σ : L2.St} {H : Hp} {Q : VK} {d : D} (h : VOk K c os ρ σ H Q d μ) : FOk K c os ρ σ H Q d μ := fun a H2 f e2 _ => h _ _ f.out e2 f.rp
theorem FOk.newL {K : PySem.W.Frag} {c : Ct} {os : List (Option Addr)} {ρ : Env} {μ : Store} {σ : L2.St} {H : Hp} {Q : VK} {ds : List D} {xs : List V} (h : FOk K c os ρ σ H Q (.lst ds) μ) (r : Rl K c os ρ μ σ H) (p : RpA K c.T (vw c os H) xs ds) {a : Addr} (n : H a = none) : Q (.ref a) (upd H a (.lst xs)) := by
  obtain ⟨f, e⟩ := r.frL p n
  exact h a _ f e n
/-- the readings -/
def tE (K : PySem.W.Frag) (cl : Nat → Addr) (W : WX) (f : XD) : TE := fun σ H Q => ∃ c os ρ μ, Rl K c os ρ μ σ H ∧ Out (f ρ μ) (VOk K c os ρ σ H Q) (EOk K cl W c os ρ σ H)
def tF (K : PySem.W.Frag) (cl : Nat → Addr) (W : WX) (f : XD) : TE := fun σ H Q => ∃ c os ρ μ, Rl K c os ρ μ σ H ∧ Out (f ρ μ) (FOk K c os ρ σ H Q) (EOk K cl W c os ρ σ H)
def tT (K : PySem.W.Frag) (cl : Nat → Addr) (W : WX) (f : XB) : TT := fun σ H Q => ∃ c os ρ μ, Rl K c os ρ μ σ H ∧ Out (f ρ μ) (fun b μ' => ∀ H', Rl K c os ρ μ' σ H' → Kp c H H' → Q b H') (EOk K cl W c os ρ σ H)
def tL (K : PySem.W.Frag) (cl : Nat → Addr) (W : WX) (f : XL) : TA := fun σ H Q => ∃ c os ρ μ, Rl K c os ρ μ σ H ∧ Out (f ρ μ) (fun ds μ' => ∀ vs H', Rl K c os ρ μ' σ H' → Kp c H H' → RpA K c.T (vw c os H') vs ds → Q vs H') (EOk K cl W c os ρ σ H)
theorem pe_imp {X : Cx} {e : Expr} {t t' : TE} (h : PE X e t) (i : ∀ σ H Q, t' σ H Q → t σ H Q) : PE X e t' := ⟨fun pins s σ H Q I q => h.run pins s σ H Q I (i σ H Q q)⟩
theorem pt_imp {X : Cx} {e : Expr} {t t' : TT} (h : PT X e t) (i : ∀ σ H Q, t' σ H Q → t σ H Q) : PT X e t' := ⟨fun pins s σ H Q I q => h.run pins s σ H Q I (i σ H Q q)⟩
theorem pw_imp {X : Cx} {e : Expr} {t t' : TT} (h : PW X e t) (i : ∀ σ H Q, t' σ H Q → t σ H Q) : PW X e t' := ⟨fun wh pins s σ H Q I q => h.run wh pins s σ H Q I (i σ H Q q)⟩
theorem pa_imp {X : Cx} {es : List Expr} {t t' : TA} (h : PA X es t) (i : ∀ σ H Q, t' σ H Q → t σ H Q) : PA X es t' := ⟨fun pos pins s σ H Q I q => h.run pos pins s σ H Q I (i σ H Q q)⟩
theorem Rp.inv_bl {K : PySem.W.Frag} {T : List Addr} {H : Hp} {v : V} {k : Bool} (h : Rp K T H v (.bl k)) : v = .bl k := by
  cases h; rfl
theorem Rp.inv_int {K : PySem.W.Frag} {T : List Addr} {H : Hp} {v : V} {k : Int} (h : Rp K T H v (.int k)) : v = .int k := by
  cases h; rfl
theorem Rp.inv_str {K : PySem.W.Frag} {T : List Addr} {H : Hp} {v : V} {x : Str} (h : Rp K T H v (.str x)) : v = .str x ∧ strOk x = true := by
  cases h with | str q => exact ⟨rfl, q⟩
theorem Rp.inv_non {K : PySem.W.Frag} {T : List Addr} {H : Hp} {v : V} (h : Rp K T H v .non) : v = .non := by
  cases h; rfl
theorem Rp.inv_tup {K : PySem.W.Frag} {T : List Addr} {H : Hp} {v : V} {ds : List D} (h : Rp K T H v (.tup ds)) : ∃ a xs, v = .ref a ∧ SqT K H a xs ∧ RpA K T H xs ds := by
  cases h with | tup q r _ => exact ⟨_, _, rfl, q, r⟩
theorem Rp.inv_tupN {K : PySem.W.Frag} {T : List Addr} {H : Hp} {v : V} {ds : List D} (h : Rp K T H v (.tup ds)) : ∃ a xs, v = .ref a ∧ SqT K H a xs ∧ RpA K T H xs ds ∧ Nd H a xs ds := by
  cases h with | tup q r z => exact ⟨_, _, rfl, q, r, z⟩
theorem Rp.inv_lst {K : PySem.W.Frag} {T : List Addr} {H : Hp} {v : V} {ds : List D} (h : Rp K T H v (.lst ds)) : ∃ a xs, v = .ref a ∧ H a = some (.lst xs) ∧ RpA K T H xs ds := by
  cases h with | lst q r => exact ⟨_, _, rfl, q, r⟩
theorem Rp.inv_scr {K : PySem.W.Frag} {T : List Addr} {H : Hp} {v : V} {ns : List Int} (h : Rp K T H v (.scr ns)) : ∃ a, v = .ref a ∧ SqL K H a (ns.map V.int) := by
  cases h with | scr q => exact ⟨_, rfl, q⟩
theorem Rp.inv_own {K : PySem.W.Frag} {T : List Addr} {H : Hp} {v : V} {n : Nat} (h : Rp K T H v (.own n)) : ∃ a, v = .ref a ∧ T[n]? = some a := by
  cases h with | own q => exact ⟨_, rfl, q⟩
theorem Rp.inv_dk {K : PySem.W.Frag} {T : List Addr} {H : Hp} {v : V} {ks : List Key} {ds : List D} (h : Rp K T H v (.dk ks ds)) : ∃ a kvs, v = .ref a ∧ Rd H a (.dK kvs) ∧ kvs.map Prod.fst = ks ∧ RpA K T H (kvs.map Prod.snd) ds := by
  cases h with | dk q z r => exact ⟨_, _, rfl, q, z, r⟩
theorem Rp.inv_dt {K : PySem.W.Frag} {T : List Addr} {H : Hp} {v : V} {ks : List (List Key)} {ds : List D} (h : Rp K T H v (.dt ks ds)) : ∃ a kvs, v = .ref a ∧ Rd H a (.dT kvs) ∧ kvs.map Prod.fst = ks ∧ RpA K T H (kvs.map Prod.snd) ds := by
  cases h with | dt q z r => exact ⟨_, _, rfl, q, z, r⟩
/-! ### denotations -/
def xVar (i : Nat) : XD := fun ρ μ => match ρ[i]? with
  | some (.fz d) => .ok d μ
  | _ => .fail
def xC (d : D) : XD := fun _ μ => .ok d μ
def xBin (g : D → D → Option D) (f1 f2 : XD) : XD := fun ρ μ => (f1 ρ μ).bind fun a μ1 => (f2 ρ μ1).bind fun b μ2 => Res.ofO (g a b) μ2
def xUn (g : D → Option D) (f : XD) : XD := fun ρ μ => (f ρ μ).bind fun a μ1 => Res.ofO (g a) μ1
def asB : D → Option Bool
  | .bl b => some b
  | _ => none
def xChain (g g' : D → D → Option D) (f1 f2 f3 : XD) : XD := fun ρ μ => (f1 ρ μ).bind fun a μ1 => (f2 ρ μ1).bind fun b μ2 => (Res.ofO ((g a b).bind asB) μ2).bind fun k μ2 =>
  if k then (f3 ρ μ2).bind fun c μ3 => Res.ofO (g' b c) μ3 else .ok (.bl false) μ2
def xAnd (f1 f2 : XD) : XD := fun ρ μ => (f1 ρ μ).bind fun a μ1 => (Res.ofO (asB a) μ1).bind fun k μ1 => if k then f2 ρ μ1 else .ok (.bl false) μ1
def xOr (f1 f2 : XD) : XD := fun ρ μ => (f1 ρ μ).bind fun a μ1 => (Res.ofO (asB a) μ1).bind fun k μ1 => if k then .ok (.bl true) μ1 else f2 ρ μ1
def xNot (f : XD) : XD := fun ρ μ => (f ρ μ).bind fun a μ1 => (Res.ofO (asB a) μ1).bind fun k μ1 => .ok (.bl (!k)) μ1
def xIf (t : XB) (f1 f2 : XD) : XD := fun ρ μ => (t ρ μ).bind fun k μ1 => if k then f1 ρ μ1 else f2 ρ μ1
def bVal (f : XD) : XB := fun ρ μ => (f ρ μ).bind fun a μ1 => Res.ofO (asB a) μ1
def bAnd (f1 f2 : XB) : XB := fun ρ μ => (f1 ρ μ).bind fun k μ1 => if k then f2 ρ μ1 else .ok false μ1
def bOr (f1 f2 : XB) : XB := fun ρ μ => (f1 ρ μ).bind fun k μ1 => if k then .ok true μ1 else f2 ρ μ1
def bNot (f : XB) : XB := fun ρ μ => (f ρ μ).bind fun k μ1 => .ok (!k) μ1
def lNil : XL := fun _ μ => .ok [] μ
def lCons (f : XD) (fs : XL) : XL := fun ρ μ => (f ρ μ).bind fun d μ1 => (fs ρ μ1).bind fun ds μ2 => .ok (d :: ds) μ2
def lenOk {α : Type} (xs : List α) : Bool := Nat.ble xs.length 1000000
theorem lenOk_le {α : Type} {xs : List α} (h : lenOk xs = true) : xs.length ≤ sizeLine := Nat.le_trans (Nat.le_of_ble_eq_true h) (by rw [sizeLine_eq]; decide)
def xTup (fs : XL) : XD := fun ρ μ => (fs ρ μ).bind fun ds μ1 => if lenOk ds then .ok (.tup ds) μ1 else .fail
def xLst (fs : XL) : XD := fun ρ μ => (fs ρ μ).bind fun ds μ1 => if lenOk ds then .ok (.lst ds) μ1 else .fail
def xCall (g : List D → Store → Res D) (fs : XL) : XD := fun ρ μ => (fs ρ μ).bind fun ds μ1 => g ds μ1
def xCb (g : List D → Option D) (fs : XL) : XD := fun ρ μ => (fs ρ μ).bind fun ds μ1 => Res.ofO (g ds) μ1
section
variable {X : Cx} {cl : Nat → Addr} {W : WX} {a b e : Expr} {f f1 f2 f3 : XD} {pos : Pos}
/-! ### names, constants -/
theorem dVar {i : Nat} {x : Str} {p : Pos} (h : PE X (.Name x p) (tVar i)) : PE X (.Name x p) (tE X.K cl W (xVar i)) := pe_imp h fun σ H Q => by
  rintro ⟨c, os, ρ, μ, r, h⟩
  unfold xVar at h
  split at h
  · rename_i d e
    obtain ⟨v, h1, h2, _⟩ := r.get e
    exact ⟨v, h1, VOk.same h r h2⟩
  · exact False.elim h
theorem dC {v : V} {d : D} (h : PE X e (tC v)) (hp : ∀ T Hv, Rp X.K T Hv v d) : PE X e (tE X.K cl W (xC d)) := pe_imp h fun σ H Q => by
  rintro ⟨c, os, ρ, μ, r, h⟩
  exact VOk.same h r (hp _ _)
theorem dInt {i : Int} {j : Nat} {p : Pos} : PE X (.Constant (.int i) j p) (tE X.K cl W (xC (.int i))) := dC pe_int fun _ _ => .int i
theorem dBl {k : Bool} {j : Nat} {p : Pos} : PE X (.Constant (.bool k) j p) (tE X.K cl W (xC (.bl k))) := dC pe_bl fun _ _ => .bl k
theorem dNon {j : Nat} {p : Pos} : PE X (.Constant .none j p) (tE X.K cl W (xC .non)) := dC pe_non fun _ _ => .non
theorem dStr {x : Str} {j : Nat} {p : Pos} (h : strOk x = true := by decide +kernel) : PE X (.Constant (.str x) j p) (tE X.K cl W (xC (.str x))) := dC pe_str fun _ _ => .str h
theorem dFE {e : Expr} (h : PE X e (tF X.K cl W f)) : PE X e (tE X.K cl W f) := pe_imp h fun σ H Q => by
  rintro ⟨c, os, ρ, μ, r, h⟩
  exact ⟨c, os, ρ, μ, r, h.imp (fun d μ' q => q.f) fun _ _ q => q⟩
/-! ### operators -/
def Op2 (K : PySem.W.Frag) (r : R2) (g : D → D → Option D) : Prop := ∀ {c : Ct} {os : List (Option Addr)} {ρ : Env} {μ : Store} {σ : L2.St} {H : Hp} {x y : V} {d1 d2 d : D} {Q : VK}, Rl K c os ρ μ σ H → Rp K c.T (vw c os H) x d1 → Rp K c.T (vw c os H) y d2 → g d1 d2 = some d → VOk K c os ρ σ H Q d μ → r x y H Q
def Op2F (K : PySem.W.Frag) (r : R2) (g : D → D → Option D) : Prop := ∀ {c : Ct} {os : List (Option Addr)} {ρ : Env} {μ : Store} {σ : L2.St} {H : Hp} {x y : V} {d1 d2 d : D} {Q : VK}, Rl K c os ρ μ σ H → Rp K c.T (vw c os H) x d1 → Rp K c.T (vw c os H) y d2 → g d1 d2 = some d → FOk K c os ρ σ H Q d μ → r x y H Q
theorem Op2F.v {K : PySem.W.Frag} {r : R2} {g : D → D → Option D} (h : Op2F K r g) : Op2 K r g := fun r' p1 p2 e q => h r' p1 p2 e q.f
def Op1 (K : PySem.W.Frag) (r : V → Hp → VK → Prop) (g : D → Option D) : Prop := ∀ {c : Ct} {os : List (Option Addr)} {ρ : Env} {μ : Store} {σ : L2.St} {H : Hp} {x : V} {d1 d : D} {Q : VK}, Rl K c os ρ μ σ H → Rp K c.T (vw c os H) x d1 → g d1 = some d → VOk K c os ρ σ H Q d μ → r x H Q
theorem bin_imp {r : R2} {g : D → D → Option D} (hs : Op2 X.K r g) (σ : L2.St) (H : Hp) (Q : VK) (h : tE X.K cl W (xBin g f1 f2) σ H Q) : tOp r (tE X.K cl W f1) (tE X.K cl W f2) σ H Q := by
  obtain ⟨c, os, ρ, μ, r, h⟩ := h
  refine ⟨c, os, ρ, μ, r, (Out.bind h).imp (fun d1 μ1 h1 => ?_) fun _ _ q => q⟩
  intro v1 H1 r1 e1 p1
  refine ⟨c, os, ρ, μ1, r1, (Out.bind h1).imp (fun d2 μ2 h2 => ?_) fun _ _ q => q.mono e1⟩
  intro v2 H2 r2 e2 p2
  obtain ⟨d, e, h3⟩ := Out.ofO h2
  exact hs r2 (p1.mono e2.vw) p2 e (VOk.mono (e1.trans e2) h3)
theorem binF_imp {r : R2} {g : D → D → Option D} (hs : Op2F X.K r g) (σ : L2.St) (H : Hp) (Q : VK) (h : tF X.K cl W (xBin g f1 f2) σ H Q) : tOp r (tE X.K cl W f1) (tE X.K cl W f2) σ H Q := by
  obtain ⟨c, os, ρ, μ, r, h⟩ := h
  refine ⟨c, os, ρ, μ, r, (Out.bind h).imp (fun d1 μ1 h1 => ?_) fun _ _ q => q⟩
  intro v1 H1 r1 e1 p1
  refine ⟨c, os, ρ, μ1, r1, (Out.bind h1).imp (fun d2 μ2 h2 => ?_) fun _ _ q => q.mono e1⟩
  intro v2 H2 r2 e2 p2
  obtain ⟨d, e, h3⟩ := Out.ofO h2
  exact hs r2 (p1.mono e2.vw) p2 e (FOk.mono (e1.trans e2) h3)
theorem dBin {op : Operator} {r : R2} {g : D → D → Option D} (ho : OpR X (binaryOp op) r) (hs : Op2 X.K r g) (ha : PE X a (tE X.K cl W f1)) (hb : PE X b (tE X.K cl W f2)) : PE X (.BinOp a op b pos) (tE X.K cl W (xBin g f1 f2)) := pe_imp (pe_op ho ha hb) (bin_imp hs)
theorem dBinF {op : Operator} {r : R2} {g : D → D → Option D} (ho : OpR X (binaryOp op) r) (hs : Op2F X.K r g) (ha : PE X a (tE X.K cl W f1)) (hb : PE X b (tE X.K cl W f2)) : PE X (.BinOp a op b pos) (tF X.K cl W (xBin g f1 f2)) := pe_imp (pe_op ho ha hb) (binF_imp hs)
theorem dUn {op : UnaryOp} {r : V → Hp → VK → Prop} {g : D → Option D} (ho : UnR X (unaryOp op) r) (hs : Op1 X.K r g) (ha : PE X a (tE X.K cl W f)) : PE X (.UnaryOp op a pos) (tE X.K cl W (xUn g f)) := pe_imp (pe_un ho ha) fun σ H Q => by
  rintro ⟨c, os, ρ, μ, r, h⟩
  refine ⟨c, os, ρ, μ, r, (Out.bind h).imp (fun d1 μ1 h1 => ?_) fun _ _ q => q⟩
  intro v1 H1 r1 e1 p1
  obtain ⟨d, e, h3⟩ := Out.ofO h1
  exact hs r1 p1 e (VOk.mono e1 h3)
theorem dCmp {op : CmpOp} {r : R2} {g : D → D → Option D} (ho : OpR X (compareOp op) r) (hs : Op2 X.K r g) (ha : PE X a (tE X.K cl W f1)) (hb : PE X b (tE X.K cl W f2)) (hm : behindInMarks op b = false) : PE X (.Compare a [op] [b] pos) (tE X.K cl W (xBin g f1 f2)) := pe_imp (pe_cmpR ho ha hb hm) (bin_imp hs)
theorem val_imp {t : TE} (hi : ∀ σ H Q, tE X.K cl W f σ H Q → t σ H Q) (σ : L2.St) (H : Hp) (Q : Bool → Hp → Prop) (h : tT X.K cl W (bVal f) σ H Q) : t σ H fun x H' => ∃ k, x = .bl k ∧ Q k H' := by
  obtain ⟨c, os, ρ, μ, r, h⟩ := h
  refine hi σ H _ ⟨c, os, ρ, μ, r, (Out.bind h).imp (fun d1 μ1 h1 => ?_) fun _ _ q => q⟩
  intro v1 H1 r1 e1 p1
  obtain ⟨k, e, h3⟩ := Out.ofO h1
  cases d1 with
  | bl kb =>
    have z := p1.inv_bl
    subst z
    cases e
    exact ⟨k, rfl, h3 H1 r1 e1⟩
  | _ => cases e
theorem bCmp {op : CmpOp} {r : R2} {g : D → D → Option D} (ho : OpR X (compareOp op) r) (hs : Op2 X.K r g) (ha : PE X a (tE X.K cl W f1)) (hb : PE X b (tE X.K cl W f2)) (hm : behindInMarks op b = false) : PT X (.Compare a [op] [b] pos) (tT X.K cl W (bVal (xBin g f1 f2))) := pt_imp (pt_cmpR ho ha hb hm) (val_imp (bin_imp hs))
theorem chain_imp {r r' : R2} {g g' : D → D → Option D} (hs : Op2 X.K r g) (hs' : Op2 X.K r' g') (σ : L2.St) (H : Hp) (Q : VK) (h : tE X.K cl W (xChain g g' f1 f2 f3) σ H Q) : tChain r r' (tE X.K cl W f1) (tE X.K cl W f2) (tE X.K cl W f3) σ H Q := by
  obtain ⟨c, os, ρ, μ, r, h⟩ := h
  refine ⟨c, os, ρ, μ, r, (Out.bind h).imp (fun d1 μ1 h1 => ?_) fun _ _ q => q⟩
  intro v1 H1 r1 e1 p1
  refine ⟨c, os, ρ, μ1, r1, (Out.bind h1).imp (fun d2 μ2 h2 => ?_) fun _ _ q => q.mono e1⟩
  intro v2 H2 r2 e2 p2
  obtain ⟨k, e, h3⟩ := Out.ofO (Out.bind h2)
  obtain ⟨dk, ek, ek'⟩ := Option.bind_eq_some_iff.mp e
  refine hs r2 (p1.mono e2.vw) p2 ek (fun v3 H3 r3 e3 p3 => ?_)
  cases dk with
  | bl kk =>
    have z := p3.inv_bl
    subst z
    cases ek'
    refine ⟨k, rfl, ?_⟩
    cases k with
    | true =>
      rw [if_pos rfl]
      rw [if_pos rfl] at h3
      refine ⟨c, os, ρ, μ2, r3, (Out.bind h3).imp (fun d4 μ4 h4 => ?_) fun _ _ q => q.mono ((e1.trans e2).trans e3)⟩
      intro v4 H4 r4 e4 p4
      obtain ⟨d, e', h5⟩ := Out.ofO h4
      exact hs' r4 (p2.mono (e3.trans e4).vw) p4 e' (VOk.mono (((e1.trans e2).trans e3).trans e4) h5)
    | false =>
      rw [if_neg Bool.false_ne_true]
      rw [if_neg Bool.false_ne_true] at h3
      exact VOk.same (VOk.mono ((e1.trans e2).trans e3) h3) r3 (.bl false)
  | _ => cases ek'
theorem dChain {op op' : CmpOp} {r r' : R2} {g g' : D → D → Option D} {c : Expr} (ho : OpR X (compareOp op) r) (hs : Op2 X.K r g) (ho' : OpR X (compareOp op') r') (hs' : Op2 X.K r' g') (ha : PE X a (tE X.K cl W f1)) (hb : PE X b (tE X.K cl W f2)) (hc : PE X c (tE X.K cl W f3))
    (hm : lastMarks [op, op'] [b, c] = false := by with_unfolding_all rfl) : PE X (.Compare a [op, op'] [b, c] pos) (tE X.K cl W (xChain g g' f1 f2 f3)) := pe_imp (pe_chain ho ho' ha hb hc hm) (chain_imp hs hs')
theorem bChain {op op' : CmpOp} {r r' : R2} {g g' : D → D → Option D} {c : Expr} (ho : OpR X (compareOp op) r) (hs : Op2 X.K r g) (ho' : OpR X (compareOp op') r') (hs' : Op2 X.K r' g') (ha : PE X a (tE X.K cl W f1)) (hb : PE X b (tE X.K cl W f2)) (hc : PE X c (tE X.K cl W f3))
    (hm : lastMarks [op, op'] [b, c] = false := by with_unfolding_all rfl) : PT X (.Compare a [op, op'] [b, c] pos) (tT X.K cl W (bVal (xChain g g' f1 f2 f3))) := pt_imp (pt_chain ho ho' ha hb hc hm) (val_imp (chain_imp hs hs'))
theorem bValE (h : PE X e (tE X.K cl W f)) (he : ∀ whole, isTrue e X.env whole = (do let v ← whole; standAt e.pos; holding [v] (truthy v)) := by intro _; rfl) : PT X e (tT X.K cl W (bVal f)) := pt_imp (pt_val h he) (val_imp fun _ _ _ q => q)
/-! ### and, or, not, if -/
variable {rest : List Expr}
theorem dOne {op : BoolOp} (h : PE X a (tE X.K cl W f)) : PE X (.BoolOp op [a] pos) (tE X.K cl W f) := pe_one h
theorem dAnd (ha : PE X a (tE X.K cl W f1)) (hb : PE X (.BoolOp .And (b :: rest) pos) (tE X.K cl W f2)) : PE X (.BoolOp .And (a :: b :: rest) pos) (tE X.K cl W (xAnd f1 f2)) := pe_imp (pe_and ha hb) fun σ H Q => by
  rintro ⟨c, os, ρ, μ, r, h⟩
  refine ⟨c, os, ρ, μ, r, (Out.bind h).imp (fun d1 μ1 h1 => ?_) fun _ _ q => q⟩
  intro v1 H1 r1 e1 p1
  obtain ⟨k, e, h3⟩ := Out.ofO (Out.bind h1)
  cases d1 with
  | bl kb =>
    have z := p1.inv_bl
    subst z
    cases e
    refine ⟨k, rfl, ?_⟩
    cases k with
    | true =>
      rw [if_pos rfl] at h3 ⊢
      exact ⟨c, os, ρ, μ1, r1, h3.imp (fun _ _ q => q.mono e1) fun _ _ q => q.mono e1⟩
    | false =>
      rw [if_neg Bool.false_ne_true] at h3 ⊢
      exact VOk.same (VOk.mono e1 h3) r1 (.bl false)
  | _ => cases e
theorem dOr (ha : PE X a (tE X.K cl W f1)) (hb : PE X (.BoolOp .Or (b :: rest) pos) (tE X.K cl W f2)) : PE X (.BoolOp .Or (a :: b :: rest) pos) (tE X.K cl W (xOr f1 f2)) := pe_imp (pe_or ha hb) fun σ H Q => by
  rintro ⟨c, os, ρ, μ, r, h⟩
  refine ⟨c, os, ρ, μ, r, (Out.bind h).imp (fun d1 μ1 h1 => ?_) fun _ _ q => q⟩
  intro v1 H1 r1 e1 p1
  obtain ⟨k, e, h3⟩ := Out.ofO (Out.bind h1)
  cases d1 with
  | bl kb =>
    have z := p1.inv_bl
    subst z
    cases e
    refine ⟨k, rfl, ?_⟩
    cases k with
    | true =>
      rw [if_pos rfl] at h3 ⊢
      exact VOk.same (VOk.mono e1 h3) r1 (.bl true)
    | false =>
      rw [if_neg Bool.false_ne_true] at h3 ⊢
      exact ⟨c, os, ρ, μ1, r1, h3.imp (fun _ _ q => q.mono e1) fun _ _ q => q.mono e1⟩
  | _ => cases e
theorem dNot (ha : PE X a (tE X.K cl W f)) : PE X (.UnaryOp .Not a pos) (tE X.K cl W (xNot f)) := pe_imp (pe_not ha) fun σ H Q => by
  rintro ⟨c, os, ρ, μ, r, h⟩
  refine ⟨c, os, ρ, μ, r, (Out.bind h).imp (fun d1 μ1 h1 => ?_) fun _ _ q => q⟩
  intro v1 H1 r1 e1 p1
  obtain ⟨k, e, h3⟩ := Out.ofO (Out.bind h1)
  cases d1 with
  | bl kb =>
    have z := p1.inv_bl
    subst z
    cases e
    exact ⟨k, rfl, VOk.same (VOk.mono e1 h3) r1 (.bl _)⟩
  | _ => cases e
variable {t t1 t2 : XB}
theorem dIf {c : Expr} (hc : PT X c (tT X.K cl W t)) (ha : PE X a (tE X.K cl W f1)) (hb : PE X b (tE X.K cl W f2)) : PE X (.IfExp c a b pos) (tE X.K cl W (xIf t f1 f2)) := pe_imp (pe_ifExp hc ha hb) fun σ H Q => by
  rintro ⟨c, os, ρ, μ, r, h⟩
  refine ⟨c, os, ρ, μ, r, (Out.bind h).imp (fun k μ1 h1 => ?_) fun _ _ q => q⟩
  intro H1 r1 e1
  cases k with
  | true =>
    rw [if_pos rfl] at h1 ⊢
    exact ⟨c, os, ρ, μ1, r1, h1.imp (fun _ _ q => q.mono e1) fun _ _ q => q.mono e1⟩
  | false =>
    rw [if_neg Bool.false_ne_true] at h1 ⊢
    exact ⟨c, os, ρ, μ1, r1, h1.imp (fun _ _ q => q.mono e1) fun _ _ q => q.mono e1⟩
theorem dIfF {c : Expr} (hc : PT X c (tT X.K cl W t)) (ha : PE X a (tF X.K cl W f1)) (hb : PE X b (tF X.K cl W f2)) : PE X (.IfExp c a b pos) (tF X.K cl W (xIf t f1 f2)) := pe_imp (pe_ifExp hc ha hb) fun σ H Q => by
  rintro ⟨c, os, ρ, μ, r, h⟩
  refine ⟨c, os, ρ, μ, r, (Out.bind h).imp (fun k μ1 h1 => ?_) fun _ _ q => q⟩
  intro H1 r1 e1
  cases k with
  | true =>
    rw [if_pos rfl] at h1 ⊢
    exact ⟨c, os, ρ, μ1, r1, h1.imp (fun _ _ q => q.mono e1) fun _ _ q => q.mono e1⟩
  | false =>
    rw [if_neg Bool.false_ne_true] at h1 ⊢
    exact ⟨c, os, ρ, μ1, r1, h1.imp (fun _ _ q => q.mono e1) fun _ _ q => q.mono e1⟩
theorem wAnd1 (ha : PT X a (tT X.K cl W t)) : PW X (.BoolOp .And [a] pos) (tT X.K cl W t) := pw_and1 ha
theorem wOr1 (ha : PT X a (tT X.K cl W t)) : PW X (.BoolOp .Or [a] pos) (tT X.K cl W t) := pw_or1 ha
theorem wAnd (ha : PT X a (tT X.K cl W t1)) (hb : PW X (.BoolOp .And (b :: rest) pos) (tT X.K cl W t2)) : PW X (.BoolOp .And (a :: b :: rest) pos) (tT X.K cl W (bAnd t1 t2)) := pw_imp (pw_and ha hb) fun σ H Q => by
  rintro ⟨c, os, ρ, μ, r, h⟩
  refine ⟨c, os, ρ, μ, r, (Out.bind h).imp (fun k μ1 h1 => ?_) fun _ _ q => q⟩
  intro H1 r1 e1
  cases k with
  | true =>
    rw [if_pos rfl] at h1 ⊢
    exact ⟨c, os, ρ, μ1, r1, h1.imp (fun _ _ q H2 r2 e2 => q H2 r2 (e1.trans e2)) fun _ _ q => q.mono e1⟩
  | false =>
    rw [if_neg Bool.false_ne_true] at h1 ⊢
    exact h1 H1 r1 e1
theorem wOr (ha : PT X a (tT X.K cl W t1)) (hb : PW X (.BoolOp .Or (b :: rest) pos) (tT X.K cl W t2)) : PW X (.BoolOp .Or (a :: b :: rest) pos) (tT X.K cl W (bOr t1 t2)) := pw_imp (pw_or ha hb) fun σ H Q => by
  rintro ⟨c, os, ρ, μ, r, h⟩
  refine ⟨c, os, ρ, μ, r, (Out.bind h).imp (fun k μ1 h1 => ?_) fun _ _ q => q⟩
  intro H1 r1 e1
  cases k with
  | true =>
    rw [if_pos rfl] at h1 ⊢
    exact h1 H1 r1 e1
  | false =>
    rw [if_neg Bool.false_ne_true] at h1 ⊢
    exact ⟨c, os, ρ, μ1, r1, h1.imp (fun _ _ q H2 r2 e2 => q H2 r2 (e1.trans e2)) fun _ _ q => q.mono e1⟩
theorem bPW {e : Expr} (h : PW X e (tT X.K cl W t)) : PT X e (tT X.K cl W t) := h.pt
theorem bNotE (ha : PT X a (tT X.K cl W t)) : PT X (.UnaryOp .Not a pos) (tT X.K cl W (bNot t)) := pt_imp (pt_not ha) fun σ H Q => by
  rintro ⟨c, os, ρ, μ, r, h⟩
  exact ⟨c, os, ρ, μ, r, (Out.bind h).imp (fun k μ1 h1 H1 r1 e1 => h1 H1 r1 e1) fun _ _ q => q⟩
/-! ### arguments, displays -/
variable {es : List Expr} {fs : XL}
theorem aNil : PA X [] (tL X.K cl W lNil) := pa_imp pa_nil fun σ H Q => by
  rintro ⟨c, os, ρ, μ, r, h⟩
  exact h [] H r (Kp.refl _ _) .nil
theorem aCons (ha : PE X e (tE X.K cl W f)) (hr : PA X es (tL X.K cl W fs)) (hs : starEach (e :: es) X.env = (false, eval e X.env) :: starEach es X.env := by rfl) : PA X (e :: es) (tL X.K cl W (lCons f fs)) := pa_imp (pa_cons ha hr hs) fun σ H Q => by
  rintro ⟨c, os, ρ, μ, r, h⟩
  refine ⟨c, os, ρ, μ, r, (Out.bind h).imp (fun d1 μ1 h1 => ?_) fun _ _ q => q⟩
  intro v1 H1 r1 e1 p1
  refine ⟨c, os, ρ, μ1, r1, (Out.bind h1).imp (fun ds μ2 h2 => ?_) fun _ _ q => q.mono e1⟩
  intro vs H2 r2 e2 p2
  exact h2 _ H2 r2 (e1.trans e2) (.cons (p1.mono e2.vw) p2)
theorem dTup {x1 : Nat} (h : PA X es (tL X.K cl W fs)) : PE X (.Tuple es x1 pos) (tE X.K cl W (xTup fs)) := pe_imp (pe_tupN h) fun σ H Q => by
  rintro ⟨c, os, ρ, μ, r, h⟩
  refine ⟨c, os, ρ, μ, r, (Out.bind h).imp (fun ds μ1 h1 => ?_) fun _ _ q => q⟩
  intro vs H1 r1 e1 p1
  by_cases hl : lenOk ds = true
  · rw [if_pos hl] at h1
    refine ⟨by rw [p1.length]; exact lenOk_le hl, VOk.newT (VOk.mono e1 h1) r1 p1⟩
  · rw [if_neg hl] at h1
    exact False.elim h1
theorem dLst (h : PA X es (tL X.K cl W fs)) : PE X (.List es pos) (tF X.K cl W (xLst fs)) := pe_imp (pe_lst h) fun σ H Q => by
  rintro ⟨c, os, ρ, μ, r, h⟩
  refine ⟨c, os, ρ, μ, r, (Out.bind h).imp (fun ds μ1 h1 => ?_) fun _ _ q => q⟩
  intro vs H1 r1 e1 p1
  by_cases hl : lenOk ds = true
  · rw [if_pos hl] at h1
    refine ⟨by rw [p1.length]; exact lenOk_le hl, fun p n => FOk.newL (FOk.mono e1 h1) r1 p1 n⟩
  · rw [if_neg hl] at h1
    exact False.elim h1
/-! ### built-ins called -/
def CbD (K : PySem.W.Frag) (r : List V → Hp → VK → Prop) (g : List D → Option D) : Prop := ∀ {c : Ct} {os : List (Option Addr)} {ρ : Env} {μ : Store} {σ : L2.St} {H : Hp} {vs : List V} {ds : List D} {d : D} {Q : VK}, Rl K c os ρ μ σ H → RpA K c.T (vw c os H) vs ds → g ds = some d → VOk K c os ρ σ H Q d μ → r vs H Q
def CbF (K : PySem.W.Frag) (r : List V → Hp → VK → Prop) (g : List D → Option D) : Prop := ∀ {c : Ct} {os : List (Option Addr)} {ρ : Env} {μ : Store} {σ : L2.St} {H : Hp} {vs : List V} {ds : List D} {d : D} {Q : VK}, Rl K c os ρ μ σ H → RpA K c.T (vw c os H) vs ds → g ds = some d → FOk K c os ρ σ H Q d μ → r vs H Q
theorem cb_imp {r : List V → Hp → VK → Prop} {g : List D → Option D} (hs : CbD X.K r g) (σ : L2.St) (H : Hp) (Q : VK) (h : tE X.K cl W (xCb g fs) σ H Q) : tCB r (tL X.K cl W fs) σ H Q := by
  obtain ⟨c, os, ρ, μ, r, h⟩ := h
  refine ⟨c, os, ρ, μ, r, (Out.bind h).imp (fun ds μ1 h1 => ?_) fun _ _ q => q⟩
  intro vs H1 r1 e1 p1
  obtain ⟨d, e, h2⟩ := Out.ofO h1
  exact hs r1 p1 e (VOk.mono e1 h2)
theorem cbF_imp {r : List V → Hp → VK → Prop} {g : List D → Option D} (hs : CbF X.K r g) (σ : L2.St) (H : Hp) (Q : VK) (h : tF X.K cl W (xCb g fs) σ H Q) : tCB r (tL X.K cl W fs) σ H Q := by
  obtain ⟨c, os, ρ, μ, r, h⟩ := h
  refine ⟨c, os, ρ, μ, r, (Out.bind h).imp (fun ds μ1 h1 => ?_) fun _ _ q => q⟩
  intro vs H1 r1 e1 p1
  obtain ⟨d, e, h2⟩ := Out.ofO h1
  exact hs r1 p1 e (FOk.mono e1 h2)
theorem dCb {r : List V → Hp → VK → Prop} {g : List D → Option D} {x : Str} {id : String} {p : Pos} (hc : CallR X (.builtin id) r) (hs : CbD X.K r g) (hg : Gl X x) (hm : X.mg x = none) (hv : bootBuiltins x = some (.builtin id)) (ha : PA X (e :: es) (tL X.K cl W fs)) (hn : x ≠ "__name__" := by decide) (hdb : (x == ("__debug__" : Str)) = false := by decide)
    (he : starEach (e :: es) X.env = (false, eval e X.env) :: starEach es X.env := by rfl) (hpl : (backTo pos (starEach es X.env)).any (·.1) = false := by rfl) : PE X (.Call (.Name x p) (e :: es) [] pos) (tE X.K cl W (xCb g fs)) := pe_imp (pe_callB hc hg hm hv ha hn hdb he hpl) (cb_imp hs)
theorem dCbF {r : List V → Hp → VK → Prop} {g : List D → Option D} {x : Str} {id : String} {p : Pos} (hc : CallR X (.builtin id) r) (hs : CbF X.K r g) (hg : Gl X x) (hm : X.mg x = none) (hv : bootBuiltins x = some (.builtin id)) (ha : PA X (e :: es) (tL X.K cl W fs)) (hn : x ≠ "__name__" := by decide) (hdb : (x == ("__debug__" : Str)) = false := by decide)
    (he : starEach (e :: es) X.env = (false, eval e X.env) :: starEach es X.env := by rfl) (hpl : (backTo pos (starEach es X.env)).any (·.1) = false := by rfl) : PE X (.Call (.Name x p) (e :: es) [] pos) (tF X.K cl W (xCb g fs)) := pe_imp (pe_callB hc hg hm hv ha hn hdb he hpl) (cbF_imp hs)
theorem dCty {r : List V → Hp → VK → Prop} {g : List D → Option D} {x : Str} {T : String} {p : Pos} (hc : CallR X (.type T) r) (hs : CbD X.K r g) (hg : Gl X x) (hm : X.mg x = none) (hv : bootBuiltins x = some (.type T)) (ha : PA X (e :: es) (tL X.K cl W fs)) (hn : x ≠ "__name__" := by decide) (hdb : (x == ("__debug__" : Str)) = false := by decide)
    (he : starEach (e :: es) X.env = (false, eval e X.env) :: starEach es X.env := by rfl) (hpl : (backTo pos (starEach es X.env)).any (·.1) = false := by rfl) : PE X (.Call (.Name x p) (e :: es) [] pos) (tE X.K cl W (xCb g fs)) := pe_imp (pe_callTy hc hg hm hv ha hn hdb he hpl) (cb_imp hs)
theorem dCtyF {r : List V → Hp → VK → Prop} {g : List D → Option D} {x : Str} {T : String} {p : Pos} (hc : CallR X (.type T) r) (hs : CbF X.K r g) (hg : Gl X x) (hm : X.mg x = none) (hv : bootBuiltins x = some (.type T)) (ha : PA X (e :: es) (tL X.K cl W fs)) (hn : x ≠ "__name__" := by decide) (hdb : (x == ("__debug__" : Str)) = false := by decide)
    (he : starEach (e :: es) X.env = (false, eval e X.env) :: starEach es X.env := by rfl) (hpl : (backTo pos (starEach es X.env)).any (·.1) = false := by rfl) : PE X (.Call (.Name x p) (e :: es) [] pos) (tF X.K cl W (xCb g fs)) := pe_imp (pe_callTy hc hg hm hv ha hn hdb he hpl) (cbF_imp hs)
end
/-! ### a def's promise by its denotation -/
def SpD (K : PySem.W.Frag) (cl : Nat → Addr) (n : Nat) (g : List D → Store → Res D) : Sp := fun vs H Q E => ∃ (A : Addr → Prop) (T : List Addr) (μ : Store) (ds : List D),
  Rl K ⟨A, T, H⟩ [] [] μ [] H ∧ RpA K T (vw ⟨A, T, H⟩ [] H) vs ds ∧ ds.length = n ∧
  Out (g ds μ) (fun d μ' => ∀ v H', Rl K ⟨A, T, H⟩ [] [] μ' [] H' → Rp K T (vw ⟨A, T, H⟩ [] H') v d → Q v H') (fun x μ' => ∀ e dx H', Rl K ⟨A, T, H⟩ [] [] μ' [] H' → ExAt K cl ⟨A, T, H⟩ [] x e dx H' → E e dx H')
def SpF (K : PySem.W.Frag) (cl : Nat → Addr) (n : Nat) (g : List D → Store → Res D) : Sp := fun vs H Q E => ∃ (A : Addr → Prop) (T : List Addr) (μ : Store) (ds : List D),
  Rl K ⟨A, T, H⟩ [] [] μ [] H ∧ RpA K T (vw ⟨A, T, H⟩ [] H) vs ds ∧ ds.length = n ∧
  Out (g ds μ) (fun d μ' => ∀ a H', Fr K ⟨A, T, H⟩ [] [] μ' [] H' a d → Q (.ref a) H') (fun x μ' => ∀ e dx H', Rl K ⟨A, T, H⟩ [] [] μ' [] H' → ExAt K cl ⟨A, T, H⟩ [] x e dx H' → E e dx H')
section
variable {K : PySem.W.Frag} {cl : Nat → Addr} {c : Ct} {os : List (Option Addr)} {ρ : Env} {μ μ' : Store} {σ : L2.St} {H H' : Hp} {a : Addr} {d : D} {x : Exn}
/-- the callee's view -/
def Ct.in (c : Ct) (os : List (Option Addr)) (H : Hp) : Ct := ⟨fun b => c.A b ∨ some b ∈ os, c.T, H⟩
theorem vw_in (c : Ct) (os : List (Option Addr)) (H H' : Hp) : vw (c.in os H) [] H' = vw c os H' := by
  funext b
  unfold vw Ct.in
  by_cases hb : (c.A b ∨ b ∈ c.T ∨ some b ∈ os)
  · rw [if_pos hb, if_pos]
    rcases hb with h | h | h
    · exact .inl (.inl h)
    · exact .inr (.inl h)
    · exact .inl (.inr h)
  · rw [if_neg hb, if_neg]
    rintro ((h | h) | h | h)
    · exact hb (.inl h)
    · exact hb (.inr (.inr h))
    · exact hb (.inr (.inl h))
    · cases h
theorem vw_inav (c : Ct) (os : List (Option Addr)) (H H' : Hp) (a : Addr) : vw ((c.in os H).av a) [] H' = vw (c.av a) os H' := by
  funext b
  unfold vw Ct.in Ct.av
  by_cases hb : ((c.A b ∨ b = a) ∨ b ∈ c.T ∨ some b ∈ os)
  · rw [if_pos hb, if_pos]
    rcases hb with (h | h) | h | h
    · exact .inl (.inl (.inl h))
    · exact .inl (.inr h)
    · exact .inr (.inl h)
    · exact .inl (.inl (.inr h))
  · rw [if_neg hb, if_neg]
    rintro (((h | h) | h) | h | h)
    · exact hb (.inl (.inl h))
    · exact hb (.inr (.inr h))
    · exact hb (.inl (.inr h))
    · exact hb (.inr (.inl h))
    · cases h
theorem Rl.callIn (r : Rl K c os ρ μ σ H) : Rl K (c.in os H) [] [] μ [] H where
  lo := rfl
  lr := rfl
  sl := fun i o s x h => by simp at h
  inj := fun i j a h => by simp at h
  own := fun a h => by cases h
  tA := fun b hb h => h.elim (r.tA b hb) fun z => (r.own b z).1 hb
  tn := r.tn
  sm := r.sm
  st := r.st
  keep := fun b o h _ => h
  dom := fun b h => h.elim (r.dom b) r.ownSomeN
/-- behind a call -/
theorem Rl.callOut (r : Rl K c os ρ μ σ H) (q : Rl K (c.in os H) [] [] μ' [] H') : Rl K c os ρ μ' σ H' ∧ Kp c H H' := by
  have e : Exts (vw c os H) (vw c os H') := fun b o h => by
    obtain ⟨h1, h2, h3, h4⟩ := vw_some.mp h
    exact vw_some.mpr ⟨q.keep b o h1 h3, h2, h3, h4⟩
  refine ⟨⟨r.lo, r.lr, fun i o s x h1 h2 h3 => ?_, r.inj, r.own, r.tA, r.tn, q.sm, q.st, fun b o h1 h2 => q.keep b o (r.keep b o h1 h2) h2, fun b h => ?_⟩, fun b o h1 h2 => q.keep b o h1 h2⟩
  · have z := r.sl i o s x h1 h2 h3
    have hm : ∀ b, o = some b → b ∉ c.T := fun b eb => (r.own b (by rw [← eb]; exact List.mem_of_getElem? h1)).1
    unfold SlAt at z ⊢
    split at z
    · trivial
    · exact z.mono e
    · exact ⟨z.1, z.2.mono e (fun o h => q.keep _ _ h (hm _ rfl))⟩
    · exact z.elim
  · obtain ⟨o, z, nu⟩ := r.dom b h
    exact ⟨o, q.keep b o z fun y => r.tA b y h, nu⟩
theorem Fr.callOut (r : Rl K c os ρ μ σ H) (q : Fr K (c.in os H) [] [] μ' [] H' a d) : Fr K c os ρ μ' σ H' a d ∧ Kp c H H' := by
  have na : ¬ c.A a := fun z => q.nA (.inl z)
  have no : some a ∉ os := fun z => q.nA (.inr z)
  have hn : H a = none := q.he
  have kp : ∀ b o, H b = some o → b ∉ c.T → H' b = some o := fun b o h1 h2 => q.rl.keep b o h1 h2
  have e : Exts (vw c os H) (vw (c.av a) os H') := fun b o h => by
    obtain ⟨h1, h2, h3, h4⟩ := vw_some.mp h
    have nb : b ≠ a := ne_of_none h1 hn
    exact vw_some.mpr ⟨kp b o h1 h3, fun z => z.elim h2 nb, h3, h4⟩
  have ow := q.ow
  rw [vw_inav] at ow
  refine ⟨⟨⟨r.lo, r.lr, fun i o s x h1 h2 h3 => ?_, r.inj, fun b h => ?_, fun b h z => ?_, r.tn, q.rl.sm, q.rl.st, fun b o h1 h2 => kp b o (r.keep b o h1 h2) h2, fun b h => ?_⟩, ow, na, q.nT, no, (r.fresh hn).2.2.2⟩, kp⟩
  · have z := r.sl i o s x h1 h2 h3
    have hm : ∀ b, o = some b → b ∉ c.T := fun b eb => (r.own b (by rw [← eb]; exact List.mem_of_getElem? h1)).1
    unfold SlAt at z ⊢
    split at z
    · trivial
    · exact z.mono e
    · exact ⟨z.1, z.2.mono e (fun o h => kp _ _ h (hm _ rfl))⟩
    · exact z.elim
  · exact ⟨(r.own b h).1, fun z => z.elim (r.own b h).2.1 fun y => no (by rw [← y]; exact h), (r.own b h).2.2⟩
  · exact z.elim (r.tA b h) fun y => q.nT (by rw [← y]; exact h)
  · rcases h with h | h
    · obtain ⟨o, z, nu⟩ := r.dom b h
      exact ⟨o, kp b o z fun y => r.tA b y h, nu⟩
    · rw [h]; exact q.ow.thereN
theorem ExAt.of_in {e : Value} {dx : Option Addr} (h : ExAt K cl (c.in os H) [] x e dx H') : ExAt K cl c os x e dx H' := by
  unfold ExAt at h ⊢
  rw [vw_in] at h
  exact h
end
section
variable {X : Cx} {cl : Nat → Addr} {W : WX} {e : Expr} {es : List Expr} {fs : XL} {pos p : Pos} {k : Nat} {f : Addr} {fd : FuncData} {ps : List Str} {x : Str} {n : Nat} {g : List D → Store → Res D}
theorem dCall (F : FnOk X.prog X.w X.K X.mg X.base (L2.CX X.prog X.w) k f fd ps (SpD X.K cl n g)) (hr : Room k X.A) (hg : Gl X x) (hm : X.mg x = some (.ref f)) (hk : PySem.W.keepIn X.K (.ref f) = true) (hb : Binds X.K fd ps []) (tk : Takes X W) (ha : PA X (e :: es) (tL X.K cl W fs)) (hn : ∀ ρ μ ds μ', fs ρ μ = .ok ds μ' → ds.length = n)
    (hdb : (x == ("__debug__" : Str)) = false := by decide) (he : starEach (e :: es) X.env = (false, eval e X.env) :: starEach es X.env := by rfl) (hpl : (backTo pos (starEach es X.env)).any (·.1) = false := by rfl) :
    PE X (.Call (.Name x p) (e :: es) [] pos) (tE X.K cl W (xCall g fs)) := pe_imp (pe_callSD (dvs := []) F hr hg hm hk hb .nil (fun σ => passAt tk σ) ha hdb he hpl) fun σ H Q => by
  rintro ⟨c, os, ρ, μ, r, h⟩
  have h' := Out.bind h
  refine ⟨c, os, ρ, μ, r, ?_⟩
  cases e0 : fs ρ μ with
  | fail => rw [e0] at h'; exact h'
  | exc y μ1 => rw [e0] at h'; exact h'
  | ok ds μ1 =>
    rw [e0] at h'
    intro vs H1 r1 e1 p1
    rw [List.append_nil]
    refine ⟨fun b => c.A b ∨ some b ∈ os, c.T, μ1, ds, r1.callIn, ?_, hn _ _ _ _ e0, ?_⟩
    · exact (vw_in c os H1 H1).symm ▸ p1
    · refine Out.imp h' (fun d μ2 q v H2 r2 p2 => ?_) (fun y μ2 q v dx H2 r2 p2 => ?_)
      · obtain ⟨r3, e3⟩ := r1.callOut r2
        exact q v H2 r3 (e1.trans e3) ((vw_in c os H1 H2) ▸ p2)
      · obtain ⟨r3, e3⟩ := r1.callOut r2
        exact q v dx H2 r3 (e1.trans e3) p2.of_in
theorem dCallF (F : FnOk X.prog X.w X.K X.mg X.base (L2.CX X.prog X.w) k f fd ps (SpF X.K cl n g)) (hr : Room k X.A) (hg : Gl X x) (hm : X.mg x = some (.ref f)) (hk : PySem.W.keepIn X.K (.ref f) = true) (hb : Binds X.K fd ps []) (tk : Takes X W) (ha : PA X (e :: es) (tL X.K cl W fs)) (hn : ∀ ρ μ ds μ', fs ρ μ = .ok ds μ' → ds.length = n)
    (hdb : (x == ("__debug__" : Str)) = false := by decide) (he : starEach (e :: es) X.env = (false, eval e X.env) :: starEach es X.env := by rfl) (hpl : (backTo pos (starEach es X.env)).any (·.1) = false := by rfl) :
    PE X (.Call (.Name x p) (e :: es) [] pos) (tF X.K cl W (xCall g fs)) := pe_imp (pe_callSD (dvs := []) F hr hg hm hk hb .nil (fun σ => passAt tk σ) ha hdb he hpl) fun σ H Q => by
  rintro ⟨c, os, ρ, μ, r, h⟩
  have h' := Out.bind h
  refine ⟨c, os, ρ, μ, r, ?_⟩
  cases e0 : fs ρ μ with
  | fail => rw [e0] at h'; exact h'
  | exc y μ1 => rw [e0] at h'; exact h'
  | ok ds μ1 =>
    rw [e0] at h'
    intro vs H1 r1 e1 p1
    rw [List.append_nil]
    refine ⟨fun b => c.A b ∨ some b ∈ os, c.T, μ1, ds, r1.callIn, ?_, hn _ _ _ _ e0, ?_⟩
    · exact (vw_in c os H1 H1).symm ▸ p1
    · refine Out.imp h' (fun d μ2 q v H2 r2 => ?_) (fun y μ2 q v dx H2 r2 p2 => ?_)
      · obtain ⟨r3, e3⟩ := Fr.callOut r1 r2
        exact q v H2 r3 (e1.trans e3) (e1.nn r2.he r2.nT)
      · obtain ⟨r3, e3⟩ := r1.callOut r2
        exact q v dx H2 r3 (e1.trans e3) p2.of_in
theorem lNil_len : ∀ ρ μ ds μ', lNil ρ μ = .ok ds μ' → ds.length = 0 := fun ρ μ ds μ' h => by
  cases h; rfl
theorem lCons_len {f : XD} {fs : XL} {n : Nat} (h : ∀ ρ μ ds μ', fs ρ μ = .ok ds μ' → ds.length = n) : ∀ ρ μ ds μ', lCons f fs ρ μ = .ok ds μ' → ds.length = n + 1 := fun ρ μ ds μ' e => by
  unfold lCons at e
  cases e1 : f ρ μ with
  | fail => rw [e1] at e; cases e
  | exc y μ1 => rw [e1] at e; cases e
  | ok d μ1 =>
    rw [e1] at e
    have e' : (fs ρ μ1).bind (fun ds μ2 => Res.ok (d :: ds) μ2) = .ok ds μ' := e
    cases e2 : fs ρ μ1 with
    | fail => rw [e2] at e'; cases e'
    | exc y μ2 => rw [e2] at e'; cases e'
    | ok es μ2 =>
      rw [e2] at e'
      cases e'
      rw [List.length_cons, h _ _ _ _ e2]
end
end DC
set_option Elab.async false
set_option linter.all false
set_option maxRecDepth 100000
set_option maxHeartbeats 2000000
/-! DC: operators by values. -/
namespace DC
open PySem PySem.Spec PyProof.Rows L2
/-! ### two rules for one operation -/
theorem Op2.or {K : PySem.W.Frag} {r r' : R2} {g g' h : D → D → Option D} (a : Op2 K r g) (b : Op2 K r' g') (hh : ∀ x y z, h x y = some z → g x y = some z ∨ g' x y = some z) : Op2 K (fun x y H Q => r x y H Q ∨ r' x y H Q) h := fun rl p1 p2 e q => by
  rcases hh _ _ _ e with z | z
  · exact .inl (a rl p1 p2 z q)
  · exact .inr (b rl p1 p2 z q)
theorem CbD.or {K : PySem.W.Frag} {r r' : List V → Hp → VK → Prop} {g g' h : List D → Option D} (a : CbD K r g) (b : CbD K r' g') (hh : ∀ x z, h x = some z → g x = some z ∨ g' x = some z) : CbD K (fun x H Q => r x H Q ∨ r' x H Q) h := fun rl p e q => by
  rcases hh _ _ e with z | z
  · exact .inl (a rl p z q)
  · exact .inr (b rl p z q)
theorem CbF.or {K : PySem.W.Frag} {r r' : List V → Hp → VK → Prop} {g g' h : List D → Option D} (a : CbF K r g) (b : CbF K r' g') (hh : ∀ x z, h x = some z → g x = some z ∨ g' x = some z) : CbF K (fun x H Q => r x H Q ∨ r' x H Q) h := fun rl p e q => by
  rcases hh _ _ e with z | z
  · exact .inl (a rl p z q)
  · exact .inr (b rl p z q)
theorem CbF.v {K : PySem.W.Frag} {r : List V → Hp → VK → Prop} {g : List D → Option D} (h : CbF K r g) : CbD K r g := fun r' p e q => h r' p e q.f
section
variable {K : PySem.W.Frag} {T : List Addr} {Hv H : Hp} {c : Ct} {os : List (Option Addr)} {ρ : Env} {μ : Store} {σ : L2.St}
theorem strOk_cat {x y : Str} (hx : strOk x = true) (hy : strOk y = true) : strOk (x ++ y) = true := by
  unfold strOk at *
  show (x.cps ++ y.cps).all _ = true
  rw [Array.all_append, hx, hy]
  rfl
/-! ### + -/
def addI : D → D → Option D
  | .int i, .int j => some (.int (i + j))
  | _, _ => none
def addIB : D → D → Option D
  | .int i, .bl k => some (.int (i + b2i k))
  | _, _ => none
def addS : D → D → Option D
  | .str x, .str y => if Nat.ble (x.length + y.length) 1000000 then some (.str (x ++ y)) else none
  | _, _ => none
def addT : D → D → Option D
  | .tup xs, .tup ys => if Nat.ble (xs.length + ys.length) 1000000 then some (.tup (xs ++ ys)) else none
  | _, _ => none
def addL : D → D → Option D
  | .lst xs, .lst ys => if Nat.ble (xs.length + ys.length) 1000000 then some (.lst (xs ++ ys)) else none
  | _, _ => none
def addD : D → D → Option D
  | .int i, .int j => some (.int (i + j))
  | .int i, .bl k => some (.int (i + b2i k))
  | .str x, .str y => if Nat.ble (x.length + y.length) 1000000 then some (.str (x ++ y)) else none
  | .tup xs, .tup ys => if Nat.ble (xs.length + ys.length) 1000000 then some (.tup (xs ++ ys)) else none
  | .lst xs, .lst ys => if Nat.ble (xs.length + ys.length) 1000000 then some (.lst (xs ++ ys)) else none
  | _, _ => none
theorem ble_line {n : Nat} (h : Nat.ble n 1000000 = true) : n ≤ sizeLine := Nat.le_trans (Nat.le_of_ble_eq_true h) (by rw [sizeLine_eq]; decide)
theorem o_addI : Op2 K (rI0 fun i j => .int (i + j)) addI := fun {c os ρ μ σ H x y d1 d2 d Q} r p1 p2 e q => by
  unfold addI at e
  split at e
  · cases e
    exact ⟨_, _, p1.inv_int, p2.inv_int, VOk.same q r (.int _)⟩
  · cases e
theorem o_addIB : Op2 K (fun x y H Q => ∃ i k, x = .int i ∧ y = .bl k ∧ Q (.int (i + b2i k)) H) addIB := fun {c os ρ μ σ H x y d1 d2 d Q} r p1 p2 e q => by
  unfold addIB at e
  split at e
  · cases e
    exact ⟨_, _, p1.inv_int, p2.inv_bl, VOk.same q r (.int _)⟩
  · cases e
theorem o_addS : Op2 K (fun x y H Q => ∃ i j, x = .str i ∧ y = .str j ∧ i.length + j.length ≤ sizeLine ∧ Q (.str (i ++ j)) H) addS := fun {c os ρ μ σ H x y d1 d2 d Q} r p1 p2 e q => by
  unfold addS at e
  split at e
  · split at e
    · rename_i hl
      cases e
      obtain ⟨z1, k1⟩ := p1.inv_str
      obtain ⟨z2, k2⟩ := p2.inv_str
      exact ⟨_, _, z1, z2, ble_line hl, VOk.same q r (.str (strOk_cat k1 k2))⟩
    · cases e
  · cases e
theorem o_addT : Op2 K (rCatN K) addT := fun {c os ρ μ σ H x y d1 d2 d Q} r p1 p2 e q => by
  unfold addT at e
  split at e
  · split at e
    · rename_i hl
      cases e
      obtain ⟨a, vs, rfl, h1, k1, n1⟩ := p1.inv_tupN
      obtain ⟨b, ws, rfl, h2, k2, n2⟩ := p2.inv_tupN
      refine ⟨a, b, vs, ws, rfl, rfl, vw_le.sqT h1, vw_le.sqT h2, by rw [k1.length, k2.length]; exact ble_line hl, fun z => ?_, fun _ z => ?_, fun _ _ => VOk.newT q r (k1.append k2)⟩
      · subst z; cases k1
        exact VOk.same q r (.tup h2 k2 n2)
      · subst z; cases k2
        rw [List.append_nil] at q
        exact VOk.same q r (.tup h1 k1 n1)
    · cases e
  · cases e
theorem o_addL : Op2F K rCat addL := fun {c os ρ μ σ H x y d1 d2 d Q} r p1 p2 e q => by
  unfold addL at e
  split at e
  · split at e
    · rename_i hl
      cases e
      obtain ⟨a, vs, rfl, h1, k1⟩ := p1.inv_lst
      obtain ⟨b, ws, rfl, h2, k2⟩ := p2.inv_lst
      exact ⟨a, b, vs, ws, rfl, rfl, vw_le _ _ h1, vw_le _ _ h2, by rw [k1.length, k2.length]; exact ble_line hl, fun p n => FOk.newL q r (k1.append k2) n⟩
    · cases e
  · cases e
theorem o_add : Op2 K (fun x y H Q => rI0 (fun i j => .int (i + j)) x y H Q ∨ ((∃ i k, x = .int i ∧ y = .bl k ∧ Q (.int (i + b2i k)) H) ∨ ((∃ i j, x = .str i ∧ y = .str j ∧ i.length + j.length ≤ sizeLine ∧ Q (.str (i ++ j)) H) ∨ (rCatN K x y H Q ∨ rCat x y H Q)))) addD :=
  o_addI.or (o_addIB.or (o_addS.or (o_addT.or o_addL.v (h := fun x y => (addT x y).or (addL x y)) fun x y z e => by
    cases h : addT x y with
    | some w => rw [h] at e; exact .inl e
    | none => rw [h] at e; exact .inr e) (h := fun x y => (addS x y).or ((addT x y).or (addL x y))) fun x y z e => by
    cases h : addS x y with
    | some w => rw [h] at e; exact .inl e
    | none => rw [h] at e; exact .inr e) (h := fun x y => (addIB x y).or ((addS x y).or ((addT x y).or (addL x y)))) fun x y z e => by
    cases h : addIB x y with
    | some w => rw [h] at e; exact .inl e
    | none => rw [h] at e; exact .inr e) fun x y z e => by
      unfold addD at e
      split at e
      · exact .inl e
      · exact .inr e
      · exact .inr (by
          show (none : Option D).or ((addS _ _).or _) = _
          unfold addS
          rw [Option.none_or]
          split at e
          · rename_i hl; simp only [hl, if_true]; exact e
          · cases e)
      · exact .inr (by
          show (none : Option D).or ((none : Option D).or ((addT _ _).or _)) = _
          unfold addT
          rw [Option.none_or, Option.none_or]
          split at e
          · rename_i hl; simp only [hl, if_true]; exact e
          · cases e)
      · exact .inr (by
          show (none : Option D).or ((none : Option D).or ((none : Option D).or (addL _ _))) = _
          unfold addL
          rw [Option.none_or, Option.none_or, Option.none_or]
          exact e)
      · cases e
theorem op_addD {X : Cx} : OpR X (binaryOp .Add) (fun x y H Q => rI0 (fun i j => .int (i + j)) x y H Q ∨ ((∃ i k, x = .int i ∧ y = .bl k ∧ Q (.int (i + b2i k)) H) ∨ ((∃ i j, x = .str i ∧ y = .str j ∧ i.length + j.length ≤ sizeLine ∧ Q (.str (i ++ j)) H) ∨ (rCatN X.K x y H Q ∨ rCat x y H Q)))) := op_add.or (op_add_ib.or (op_add_str.or (op_catN.or op_cat)))
/-! ### -, *, //, % -/
def subD : D → D → Option D
  | .int i, .int j => some (.int (i - j))
  | _, _ => none
theorem o_sub : Op2 K (rI0 fun i j => .int (i - j)) subD := fun {c os ρ μ σ H x y d1 d2 d Q} r p1 p2 e q => by
  unfold subD at e
  split at e
  · cases e
    exact ⟨_, _, p1.inv_int, p2.inv_int, VOk.same q r (.int _)⟩
  · cases e
def small64 (i : Int) : Bool := Nat.blt i.natAbs 18446744073709551616
def mulOk (i j : Int) : Bool := small64 i || small64 j || (Nat.blt i.natAbs (2 ^ 65536) && Nat.blt j.natAbs (2 ^ 65536))
def mulD : D → D → Option D
  | .int i, .int j => if mulOk i j then some (.int (i * j)) else none
  | _, _ => none
theorem small64_lt {i : Int} (h : small64 i = true) : -(2 ^ 64) < i ∧ i < 2 ^ 64 := by
  have z : i.natAbs < 18446744073709551616 := Nat.le_of_ble_eq_true h
  omega
theorem o_mul : Op2 K (fun x y H Q => rI CMul (fun i j => .int (i * j)) x y H Q ∨ rI CMulW (fun i j => .int (i * j)) x y H Q) mulD := fun {c os ρ μ σ H x y d1 d2 d Q} r p1 p2 e q => by
  unfold mulD at e
  split at e
  · rename_i i j
    split at e
    · rename_i hl
      cases e
      unfold mulOk at hl
      simp only [Bool.or_eq_true, Bool.and_eq_true] at hl
      rcases hl with (hl | hl) | ⟨hl, hl2⟩
      · exact .inl ⟨_, _, p1.inv_int, p2.inv_int, .inl (small64_lt hl), VOk.same q r (.int _)⟩
      · exact .inl ⟨_, _, p1.inv_int, p2.inv_int, .inr (small64_lt hl), VOk.same q r (.int _)⟩
      · have h1 : i.natAbs < 2 ^ 65536 := Nat.le_of_ble_eq_true hl
        have h2 : j.natAbs < 2 ^ 65536 := Nat.le_of_ble_eq_true hl2
        exact .inr ⟨_, _, p1.inv_int, p2.inv_int, wide_mul h1 h2 (by decide) (by decide) (by decide), VOk.same q r (.int _)⟩
    · cases e
  · cases e
theorem op_mulD {X : Cx} : OpR X (binaryOp .Mult) (fun x y H Q => rI CMul (fun i j => .int (i * j)) x y H Q ∨ rI CMulW (fun i j => .int (i * j)) x y H Q) := op_mul.or op_mulW
def repL : D → D → Option D
  | .lst xs, .int k => if Nat.blt k.natAbs 4611686018427387904 && Nat.ble (xs.length * k.toNat) 1000000 then some (.lst (List.replicate k.toNat xs).flatten) else none
  | _, _ => none
theorem RpA.rep {vs : List V} {ds : List D} (h : RpA K T H vs ds) : ∀ n, RpA K T H (List.replicate n vs).flatten (List.replicate n ds).flatten
  | 0 => .nil
  | n + 1 => by
    rw [List.replicate_succ, List.replicate_succ, List.flatten_cons, List.flatten_cons]
    exact h.append (RpA.rep h n)
theorem o_repL : Op2F K rRep repL := fun {c os ρ μ σ H x y d1 d2 d Q} r p1 p2 e q => by
  unfold repL at e
  split at e
  · split at e
    · rename_i hl
      cases e
      rw [Bool.and_eq_true] at hl
      have hk := Nat.le_of_ble_eq_true hl.1
      obtain ⟨a, vs, rfl, h1, k1⟩ := p1.inv_lst
      exact ⟨a, _, vs, rfl, p2.inv_int, vw_le _ _ h1, by have z : (_ : Int).natAbs < 4611686018427387904 := hk; omega, by have z : (_ : Int).natAbs < 4611686018427387904 := hk; omega, by rw [k1.length]; exact ble_line hl.2, fun p n => FOk.newL q r (k1.rep _) n⟩
    · cases e
  · cases e
def divD : D → D → Option D
  | .int i, .int j => if decide (0 < j) && Nat.blt j.natAbs (2 ^ 8999) then some (.int (i / j)) else if decide (j < 0) && Nat.blt j.natAbs 1073741824 then some (.int (i.fdiv j)) else none
  | _, _ => none
theorem o_div : Op2 K (fun x y H Q => rI CDivW (fun i j => .int (i / j)) x y H Q ∨ rI CDivN (fun i j => .int (i.fdiv j)) x y H Q) divD := fun {c os ρ μ σ H x y d1 d2 d Q} r p1 p2 e q => by
  unfold divD at e
  split at e
  · rename_i i j
    split at e
    · rename_i hl
      cases e
      simp only [Bool.and_eq_true, decide_eq_true_eq] at hl
      have h2 : j.natAbs < 2 ^ 8999 := Nat.le_of_ble_eq_true hl.2
      exact .inl ⟨_, _, p1.inv_int, p2.inv_int, wide_div hl.1 h2 (by decide) (by decide), VOk.same q r (.int _)⟩
    · split at e
      · rename_i hl
        cases e
        simp only [Bool.and_eq_true, decide_eq_true_eq] at hl
        have h2 : j.natAbs < 1073741824 := Nat.le_of_ble_eq_true hl.2
        exact .inr ⟨_, _, p1.inv_int, p2.inv_int, ⟨by omega, h2⟩, VOk.same q r (.int _)⟩
      · cases e
  · cases e
theorem op_divD {X : Cx} : OpR X (binaryOp .FloorDiv) (fun x y H Q => rI CDivW (fun i j => .int (i / j)) x y H Q ∨ rI CDivN (fun i j => .int (i.fdiv j)) x y H Q) := op_fdivW.or op_fdivN
def modD : D → D → Option D
  | .int i, .int j => if decide (0 < j) then some (.int (i % j)) else none
  | _, _ => none
theorem o_mod : Op2 K (rI (fun _ j => 0 < j) fun i j => .int (i % j)) modD := fun {c os ρ μ σ H x y d1 d2 d Q} r p1 p2 e q => by
  unfold modD at e
  split at e
  · split at e
    · rename_i hl
      cases e
      exact ⟨_, _, p1.inv_int, p2.inv_int, of_decide_eq_true hl, VOk.same q r (.int _)⟩
    · cases e
  · cases e
def powD : D → D → Option D
  | .int i, .int j => if decide (0 ≤ j) && decide (j ≤ 1000) && small64 i then some (.int (i ^ j.toNat)) else none
  | _, _ => none
theorem o_pow : Op2 K (rI CPow fun i j => .int (i ^ j.toNat)) powD := fun {c os ρ μ σ H x y d1 d2 d Q} r p1 p2 e q => by
  unfold powD at e
  split at e
  · split at e
    · rename_i hl
      cases e
      simp only [Bool.and_eq_true, decide_eq_true_eq] at hl
      have z := small64_lt hl.2
      exact ⟨_, _, p1.inv_int, p2.inv_int, ⟨hl.1.1, by omega, by omega⟩, VOk.same q r (.int _)⟩
    · cases e
  · cases e
def negD : D → Option D
  | .int i => some (.int (-i))
  | _ => none
theorem o_neg : Op1 K (rU fun i => .int (-i)) negD := fun {c os ρ μ σ H x d1 d Q} r p1 e q => by
  unfold negD at e
  split at e
  · cases e
    exact ⟨_, p1.inv_int, VOk.same q r (.int _)⟩
  · cases e
/-! ### comparisons of ints -/
def cmpI (p : Int → Int → Bool) : D → D → Option D
  | .int i, .int j => some (.bl (p i j))
  | _, _ => none
theorem o_cmpI {p : Int → Int → Bool} : Op2 K (rI0 fun i j => .bl (p i j)) (cmpI p) := fun {c os ρ μ σ H x y d1 d2 d Q} r p1 p2 e q => by
  unfold cmpI at e
  split at e
  · cases e
    exact ⟨_, _, p1.inv_int, p2.inv_int, VOk.same q r (.bl _)⟩
  · cases e
abbrev ltD := cmpI fun i j => decide (i < j)
abbrev leD := cmpI fun i j => decide (i ≤ j)
abbrev gtD := cmpI fun i j => decide (j < i)
abbrev geD := cmpI fun i j => decide (j ≤ i)
/-! ### ==, != of data -/
mutual
def D.toPy : D → PyData
  | .non => .none
  | .bl b => .bool b
  | .int i => .int i
  | .str x => .str x
  | .tup xs => .tuple (D.toPyA xs)
  | .lst xs => .list (D.toPyA xs)
  | .scr _ => .none
  | .dk _ _ => .none
  | .dt _ _ => .none
  | .own _ => .none
def D.toPyA : List D → List PyData
  | [] => []
  | x :: xs => D.toPy x :: D.toPyA xs
end
/-- data of a depth below n -/
def D.pd : Nat → D → Bool
  | 0, _ => false
  | n + 1, d => match d with
    | .non => true
    | .bl _ => true
    | .int _ => true
    | .str _ => true
    | .tup xs => xs.all (D.pd n)
    | .lst xs => xs.all (D.pd n)
    | .scr _ => false
    | .dk _ _ => false
    | .dt _ _ => false
    | .own _ => false
def D.eqv (a b : D) : Bool := PyData.eqv a.toPy b.toPy
theorem py_all {n : Nat} (ih : ∀ (d : D) (v : V), D.pd n d = true → Rp K T Hv v d → Dp K H v d.toPy ∧ d.toPy.canLay0 = true ∧ d.toPy.depth ≤ n) : ∀ (ds : List D) (vs : List V), ds.all (D.pd n) = true → RpA K T Hv vs ds → DpAll K H vs (D.toPyA ds) ∧ PyData.canLayAll0 (D.toPyA ds) = true ∧ PyData.depthAll (D.toPyA ds) ≤ n
  | [], _, _, h => by
    cases h
    exact ⟨.nil, by simp [D.toPyA, PyData.canLayAll0], by simp [D.toPyA, PyData.depthAll]⟩
  | d :: ds, _, hp, h => by
    cases h with
    | cons q r =>
      rw [List.all_cons, Bool.and_eq_true] at hp
      obtain ⟨h1, h2, h3⟩ := ih d _ hp.1 q
      obtain ⟨k1, k2, k3⟩ := py_all ih ds _ hp.2 r
      refine ⟨.cons h1 k1, by simp [D.toPyA, PyData.canLayAll0, h2, k2], ?_⟩
      simp only [D.toPyA, PyData.depthAll]
      omega
theorem py_of (e : Exts Hv H) : ∀ (n : Nat) (d : D) (v : V), D.pd n d = true → Rp K T Hv v d → Dp K H v d.toPy ∧ d.toPy.canLay0 = true ∧ d.toPy.depth ≤ n
  | 0, d, v, h, _ => by simp [D.pd] at h
  | n + 1, d, v, h, r => by
    cases d with
    | non => rw [r.inv_non]; exact ⟨by simp only [D.toPy]; exact .non, by simp [D.toPy, PyData.canLay0], by simp [D.toPy, PyData.depth]⟩
    | bl b => rw [r.inv_bl]; exact ⟨by simp only [D.toPy]; exact .bl b, by simp [D.toPy, PyData.canLay0], by simp [D.toPy, PyData.depth]⟩
    | int b => rw [r.inv_int]; exact ⟨by simp only [D.toPy]; exact .int b, by simp [D.toPy, PyData.canLay0], by simp [D.toPy, PyData.depth]⟩
    | str b =>
      obtain ⟨z, k⟩ := r.inv_str
      rw [z]
      exact ⟨by simp only [D.toPy]; exact .str b, by simp only [D.toPy, PyData.canLay0]; exact k, by simp [D.toPy, PyData.depth]⟩
    | tup xs =>
      obtain ⟨a, vs, rfl, h1, h2⟩ := r.inv_tup
      have hx : xs.all (D.pd n) = true := h
      obtain ⟨k1, k2, k3⟩ := py_all (py_of e n) xs vs hx h2
      refine ⟨by simp only [D.toPy]; exact .tup (e.sqT h1) k1, by simp only [D.toPy, PyData.canLay0]; exact k2, ?_⟩
      simp only [D.toPy, PyData.depth]
      omega
    | lst xs =>
      obtain ⟨a, vs, rfl, h1, h2⟩ := r.inv_lst
      have hx : xs.all (D.pd n) = true := h
      obtain ⟨k1, k2, k3⟩ := py_all (py_of e n) xs vs hx h2
      refine ⟨by simp only [D.toPy]; exact .lst (.inl (.inl (e _ _ h1))) k1, by simp only [D.toPy, PyData.canLay0]; exact k2, ?_⟩
      simp only [D.toPy, PyData.depth]
      omega
    | scr xs => simp [D.pd] at h
    | dk xs ys => simp [D.pd] at h
    | dt xs ys => simp [D.pd] at h
    | own m => simp [D.pd] at h
def eqD (a b : D) : Option D := if D.pd 60 a && D.pd 60 b then some (.bl (D.eqv a b)) else none
def neD (a b : D) : Option D := if D.pd 60 a && D.pd 60 b then some (.bl (!D.eqv a b)) else none
theorem shaped_of {p : PyData} (h1 : p.canLay0 = true) (h2 : p.depth ≤ 60) : SeqAt.shaped p = true := by
  unfold SeqAt.shaped
  rw [h1, Bool.true_and]
  exact decide_eq_true (by omega)
theorem o_eq : Op2 K (rEqD K) eqD := fun {c os ρ μ σ H x y d1 d2 d Q} r p1 p2 e q => by
  unfold eqD at e
  split at e
  · rename_i hl
    cases e
    rw [Bool.and_eq_true] at hl
    obtain ⟨a1, a2, a3⟩ := py_of vw_le _ _ _ hl.1 p1
    obtain ⟨b1, b2, b3⟩ := py_of vw_le _ _ _ hl.2 p2
    exact ⟨_, _, a1, b1, shaped_of a2 a3, shaped_of b2 b3, VOk.same q r (.bl _)⟩
  · cases e
theorem o_ne : Op2 K (rNeD K) neD := fun {c os ρ μ σ H x y d1 d2 d Q} r p1 p2 e q => by
  unfold neD at e
  split at e
  · rename_i hl
    cases e
    rw [Bool.and_eq_true] at hl
    obtain ⟨a1, a2, a3⟩ := py_of vw_le _ _ _ hl.1 p1
    obtain ⟨b1, b2, b3⟩ := py_of vw_le _ _ _ hl.2 p2
    exact ⟨_, _, a1, b1, shaped_of a2 a3, shaped_of b2 b3, VOk.same q r (.bl _)⟩
  · cases e
/-! ### is None -/
def D.isNon : D → Bool
  | .non => true
  | _ => false
def isN (a b : D) : Option D := match b with
  | .non => some (.bl a.isNon)
  | _ => none
def notN (a b : D) : Option D := match b with
  | .non => some (.bl (!a.isNon))
  | _ => none
theorem Rp.isNon {v : V} {d : D} (h : Rp K T Hv v d) : decide (v = .non) = d.isNon := by
  cases h <;> simp [D.isNon]
theorem o_isN : Op2 K (fun x y H Q => y = .non ∧ Q (.bl (decide (x = .non))) H) isN := fun {c os ρ μ σ H x y d1 d2 d Q} r p1 p2 e q => by
  unfold isN at e
  split at e
  · cases e
    refine ⟨p2.inv_non, ?_⟩
    rw [p1.isNon]
    exact VOk.same q r (.bl _)
  · cases e
theorem o_notN : Op2 K (fun x y H Q => y = .non ∧ Q (.bl (!decide (x = .non))) H) notN := fun {c os ρ μ σ H x y d1 d2 d Q} r p1 p2 e q => by
  unfold notN at e
  split at e
  · cases e
    refine ⟨p2.inv_non, ?_⟩
    rw [p1.isNon]
    exact VOk.same q r (.bl _)
  · cases e
/-! ### in, not in -/
def D.flat : D → Bool
  | .non => true
  | .bl _ => true
  | .int _ => true
  | .str _ => true
  | _ => false
theorem flat_V {v : V} {d : D} (h : Rp K T Hv v d) (f : d.flat = true) : flatV v = true := by
  cases h <;> first | rfl | cases f
theorem flat_all : ∀ {ds : List D} {vs : List V}, RpA K T Hv vs ds → ds.all D.flat = true → vs.all flatV = true
  | [], _, h, _ => by cases h; rfl
  | d :: ds, _, h, f => by
    cases h with
    | cons q r =>
      rw [List.all_cons, Bool.and_eq_true] at f ⊢
      exact ⟨flat_V q f.1, flat_all r f.2⟩
theorem flat_eq {v w : V} {d e : D} (h : Rp K T Hv v d) (k : Rp K T Hv w e) (f : d.flat = true) (g : e.flat = true) : eqV v w = D.eqv d e := by
  cases h <;> first | (cases f; done) | (cases k <;> first | (cases g; done) | (simp [eqV, D.eqv, D.toPy, PyData.eqv]; done))
theorem flat_any {w : V} {e : D} (k : Rp K T Hv w e) (g : e.flat = true) : ∀ {ds : List D} {vs : List V}, RpA K T Hv vs ds → ds.all D.flat = true → inV w vs = ds.any fun z => D.eqv z e
  | [], _, h, _ => by cases h; rfl
  | d :: ds, _, h, f => by
    cases h with
    | cons q r =>
      rw [List.all_cons, Bool.and_eq_true] at f
      have ih := flat_any k g r f.2
      unfold inV at ih ⊢
      rw [List.any_cons, List.any_cons, ih, flat_eq q k f.1 g]
def inSq (n : Bool) (a b : D) : Option D := match b with
  | .lst ys => if a.flat && ys.all D.flat then some (.bl (if n then !(ys.any fun z => D.eqv z a) else ys.any fun z => D.eqv z a)) else none
  | .tup ys => if a.flat && ys.all D.flat then some (.bl (if n then !(ys.any fun z => D.eqv z a) else ys.any fun z => D.eqv z a)) else none
  | _ => none
theorem o_inSq {n : Bool} : Op2 K (rIn K n) (inSq n) := fun {c os ρ μ σ H x y d1 d2 d Q} r p1 p2 e q => by
  unfold inSq at e
  split at e
  · split at e
    · rename_i hl
      cases e
      rw [Bool.and_eq_true] at hl
      obtain ⟨a, vs, rfl, h1, k1⟩ := p2.inv_lst
      refine ⟨a, vs, rfl, .inl (.inl (.inl (vw_le _ _ h1))), flat_V p1 hl.1, flat_all k1 hl.2, ?_⟩
      rw [flat_any p1 hl.1 k1 hl.2]
      exact VOk.same q r (.bl _)
    · cases e
  · split at e
    · rename_i hl
      cases e
      rw [Bool.and_eq_true] at hl
      obtain ⟨a, vs, rfl, h1, k1⟩ := p2.inv_tup
      refine ⟨a, vs, rfl, .inr (vw_le.sqT h1), flat_V p1 hl.1, flat_all k1 hl.2, ?_⟩
      rw [flat_any p1 hl.1 k1 hl.2]
      exact VOk.same q r (.bl _)
    · cases e
  · cases e
def inStr (a b : D) : Option D := match a, b with
  | .str x, .str y => some (.bl (!(Builtin.Str.occurrences y x 0 y.length 1).isEmpty))
  | _, _ => none
theorem o_inStr : Op2 K (fun x y H Q => ∃ i j, x = .str i ∧ y = .str j ∧ Q (.bl (!(Builtin.Str.occurrences j i 0 j.length 1).isEmpty)) H) inStr := fun {c os ρ μ σ H x y d1 d2 d Q} r p1 p2 e q => by
  unfold inStr at e
  split at e
  · cases e
    exact ⟨_, _, p1.inv_str.1, p2.inv_str.1, VOk.same q r (.bl _)⟩
  · cases e
end
end DC
set_option Elab.async false
set_option linter.all false
set_option maxRecDepth 100000
set_option maxHeartbeats 2000000
/-! DC: lending, subscripts, slices, built-ins. -/
namespace DC
open PySem PySem.Spec PyProof.Rows L2
/-! ### an own container lent to an expression -/
/-- a value in which no container stands that could be changed -/
def D.lf : Nat → D → Bool
  | 0, _ => false
  | n + 1, d => match d with
    | .non => true
    | .bl _ => true
    | .int _ => true
    | .str _ => true
    | .tup xs => xs.all (D.lf n)
    | .own _ => true
    | _ => false
def xBor (i : Nat) (f : XD) : XD := fun ρ μ => match ρ[i]? with
  | some (.ow d) => (f (ρ.set i (.fz d)) μ).bind fun r μ' => if D.lf 8 r then .ok r μ' else .fail
  | _ => f ρ μ
def bBor (i : Nat) (f : XB) : XB := fun ρ μ => match ρ[i]? with
  | some (.ow d) => f (ρ.set i (.fz d)) μ
  | _ => f ρ μ
section
variable {K : PySem.W.Frag} {cl : Nat → Addr} {W : WX} {c : Ct} {os : List (Option Addr)} {ρ : Env} {μ : Store} {σ : L2.St} {H H' : Hp} {Q : VK} {d : D} {x : Exn}
theorem sqT_ne {Hv Hw : Hp} {a : Addr} (hn : ∀ b o, Hv b = some o → b ≠ a → Hw b = some o) (ha : ∀ xs o, Hv a ≠ some (.tup xs) ∧ Hv a ≠ some (.frz o (.tup xs))) {b : Addr} {xs : List V} (h : SqT K Hv b xs) : SqT K Hw b xs := by
  rcases h with (h | ⟨o, h⟩) | h
  · exact .inl (.inl (hn _ _ h fun z => by subst z; exact (ha xs default).1 h))
  · exact .inl (.inr ⟨o, hn _ _ h fun z => by subst z; exact (ha xs o).2 h⟩)
  · exact .inr h
theorem lf_all {Hv Hw : Hp} {T : List Addr} {n : Nat} (ih : ∀ (d : D) (v : V), D.lf n d = true → Rp K T Hv v d → Rp K T Hw v d) : ∀ (ds : List D) (vs : List V), ds.all (D.lf n) = true → RpA K T Hv vs ds → RpA K T Hw vs ds
  | [], _, _, h => by cases h; exact .nil
  | d :: ds, _, f, h => by
    cases h with
    | cons q r =>
      rw [List.all_cons, Bool.and_eq_true] at f
      exact .cons (ih d _ f.1 q) (lf_all ih ds _ f.2 r)
theorem lf_rp {Hv Hw : Hp} {T : List Addr} (ht : ∀ b xs, SqT K Hv b xs → SqT K Hw b xs) (hf : ∀ b (o : Obj) xs, Hv b = some (.frz o (.tup xs)) → Hw b = some (.frz o (.tup xs))) : ∀ (n : Nat) (d : D) (v : V), D.lf n d = true → Rp K T Hv v d → Rp K T Hw v d
  | 0, _, _, f, _ => by simp [D.lf] at f
  | n + 1, d, v, f, h => by
    cases d with
    | non => cases h; exact .non
    | bl b => cases h; exact .bl b
    | int b => cases h; exact .int b
    | str b => cases h with | str q => exact .str q
    | tup xs =>
      obtain ⟨a, vs, rfl, h1, h2, h3⟩ := h.inv_tupN
      have fx : xs.all (D.lf n) = true := f
      exact .tup (ht _ _ h1) (lf_all (lf_rp ht hf n) xs vs fx h2) fun c => let ⟨o, q, d⟩ := h3 c; ⟨o, hf _ _ _ q, d⟩
    | lst xs => simp [D.lf] at f
    | scr xs => simp [D.lf] at f
    | dk xs ys => simp [D.lf] at f
    | dt xs ys => simp [D.lf] at f
    | own m => cases h with | own q => exact .own q
theorem own_noTup {Hv : Hp} {a : Addr} {T : List Addr} (h : OwAt K T Hv H a d) (xs : List V) (o : Obj) : H a ≠ some (.tup xs) ∧ H a ≠ some (.frz o (.tup xs)) := by
  cases h with
  | lst h _ => rw [h]; exact ⟨(by intro z; cases z), (by intro z; cases z)⟩
  | dk h _ _ => rw [h]; exact ⟨(by intro z; cases z), (by intro z; cases z)⟩
  | dt h _ _ => rw [h]; exact ⟨(by intro z; cases z), (by intro z; cases z)⟩
theorem lent (r : Rl K c os ρ μ σ H) {i : Nat} (h : ρ[i]? = some (.ow d)) {μ' : Store} (q : Rl K c (os.set i none) (ρ.set i (.fz d)) μ' σ H') (k : Kp c H H') {n : Nat} {e : D} {v : V} (f : D.lf n e = true) (p : Rp K c.T (vw c (os.set i none) H') v e) : Rp K c.T (vw c os H') v e := by
  obtain ⟨a, h1, h2, h3⟩ := r.getOw h
  have hm : some a ∈ os := List.mem_of_getElem? h2
  have nT := (r.own a hm).1
  have hA : ∀ b o, vw c (os.set i none) H' b = some o → b ≠ a → vw c os H' b = some o := fun b o hb nb => by
    obtain ⟨g1, g2, g3, g4⟩ := vw_some.mp hb
    refine vw_some.mpr ⟨g1, g2, g3, fun z => g4 ?_⟩
    obtain ⟨j, hj⟩ := List.getElem?_of_mem z
    have nj : i ≠ j := fun e => by
      subst e
      rw [h2] at hj
      exact nb (Option.some.inj (Option.some.inj hj)).symm
    exact List.mem_of_getElem? (i := j) (by rw [List.getElem?_set_ne nj]; exact hj)
  have hB : ∀ xs o, vw c (os.set i none) H' a ≠ some (.tup xs) ∧ vw c (os.set i none) H' a ≠ some (.frz o (.tup xs)) := fun xs o => by
    obtain ⟨o', ho⟩ := h3.there
    have z := own_noTup h3 xs o
    have ha' : H' a = H a := by rw [ho]; exact k a o' ho nT
    refine ⟨fun w => z.1 ?_, fun w => z.2 ?_⟩
    · rw [← ha']; exact vw_le _ _ w
    · rw [← ha']; exact vw_le _ _ w
  exact lf_rp (fun b xs hb => sqT_ne (a := a) hA hB hb) (fun b o xs hb => hA b _ hb fun z => by subst z; exact (hB xs o).2 hb) n e v f p
theorem EOk.reown (r : Rl K c os ρ μ σ H) {i : Nat} {μ1 : Store} (h : EOk K cl W c os ρ σ H x μ1) (hp : x.pay = none) : EOk K cl W c (os.set i none) (ρ.set i (.fz d)) σ H x μ1 := fun e dx H' q k ex => h e dx H' (r.reown q k) k (by
  unfold ExAt at ex ⊢
  rw [hp] at ex ⊢
  exact ex)
end
section
variable {X : Cx} {cl : Nat → Addr} {W : WX} {e : Expr} {f : XD} {t : XB}
/-- exceptions out of it must bear nothing -/
def Plain {α : Type} (f : Env → Store → Res α) : Prop := ∀ ρ μ x μ', f ρ μ = .exc x μ' → x.pay = none
theorem dBor {i : Nat} (h : PE X e (tE X.K cl W f)) (hp : Plain f) : PE X e (tE X.K cl W (xBor i f)) := pe_imp h fun σ H Q => by
  rintro ⟨c, os, ρ, μ, r, h⟩
  unfold xBor at h
  split at h
  · rename_i d e0
    refine ⟨c, os.set i none, ρ.set i (.fz d), μ, r.freeze e0, ?_⟩
    have h' := Out.bind h
    cases ef : f (ρ.set i (.fz d)) μ with
    | fail => rw [ef] at h'; exact h'
    | exc x μ1 => rw [ef] at h'; exact EOk.reown r h' (hp _ _ _ _ ef)
    | ok d1 μ1 =>
      rw [ef] at h'
      by_cases hl : D.lf 8 d1 = true
      · have h2 : Out (if D.lf 8 d1 then Res.ok d1 μ1 else .fail) (VOk X.K c os ρ σ H Q) (EOk X.K cl W c os ρ σ H) := h'
        rw [if_pos hl] at h2
        intro v1 H1 r1 e1 p1
        exact h2 v1 H1 (r.reown r1 e1) e1 (lent r e0 r1 e1 hl p1)
      · have h2 : Out (if D.lf 8 d1 then Res.ok d1 μ1 else .fail) (VOk X.K c os ρ σ H Q) (EOk X.K cl W c os ρ σ H) := h'
        rw [if_neg hl] at h2
        exact False.elim h2
  · exact ⟨c, os, ρ, μ, r, h⟩
theorem bBorE {i : Nat} (h : PT X e (tT X.K cl W t)) (hp : Plain t) : PT X e (tT X.K cl W (bBor i t)) := pt_imp h fun σ H Q => by
  rintro ⟨c, os, ρ, μ, r, h⟩
  unfold bBor at h
  split at h
  · rename_i d e0
    refine ⟨c, os.set i none, ρ.set i (.fz d), μ, r.freeze e0, ?_⟩
    cases ef : t (ρ.set i (.fz d)) μ with
    | fail => rw [ef] at h; exact h
    | exc x μ1 => rw [ef] at h; exact EOk.reown r h (hp _ _ _ _ ef)
    | ok d1 μ1 =>
      rw [ef] at h
      intro H1 r1 e1
      exact h H1 (r.reown r1 e1) e1
  · exact ⟨c, os, ρ, μ, r, h⟩
end
/-! ### subscripts -/
def ixD (a i : D) : Option D := match i with
  | .int k => match a with
    | .tup xs => atI xs k
    | .lst xs => atI xs k
    | .scr ns => (atI ns k).map D.int
    | .str z => if Nat.ble z.length 1000000 then (atI z.cps.toList k).bind fun c => if Nat.blt c 1114112 then some (.str ⟨#[c]⟩) else none else none
    | _ => none
  | _ => none
def ixS (μ : Store) (a i : D) : Option D := match a with
  | .own n => match i with
    | .int k => (μ[n]?).bind fun ns => (atI ns k).map D.int
    | _ => none
  | _ => ixD a i
def xIx (f1 f2 : XD) : XD := fun ρ μ => (f1 ρ μ).bind fun a μ1 => (f2 ρ μ1).bind fun b μ2 => Res.ofO (ixS μ2 a b) μ2
section
variable {K : PySem.W.Frag} {T : List Addr} {H Hv : Hp}
theorem atI_some {α : Type} {xs : List α} {k : Int} {x : α} (h : atI xs k = some x) : ∃ j, ixN xs.length k = some j ∧ xs[j]? = some x := by
  unfold atI at h
  obtain ⟨j, h1, h2⟩ := Option.bind_eq_some_iff.mp h
  exact ⟨j, h1, h2⟩
theorem RpA.atI {vs : List V} {ds : List D} (r : RpA K T H vs ds) {k : Int} {d : D} (h : L2.atI ds k = some d) : ∃ v, L2.atI vs k = some v ∧ Rp K T H v d := by
  obtain ⟨j, h1, h2⟩ := atI_some h
  obtain ⟨v, h3, h4⟩ := r.get h2
  refine ⟨v, ?_, h4⟩
  unfold L2.atI
  rw [r.length, h1]
  exact h3
theorem atI_map {α β : Type} (f : α → β) {xs : List α} {k : Int} : L2.atI (xs.map f) k = (L2.atI xs k).map f := by
  unfold L2.atI
  rw [List.length_map]
  cases ixN xs.length k with
  | none => rfl
  | some j => simp
end
section
variable {X : Cx} {cl : Nat → Addr} {W : WX} {a b : Expr} {f1 f2 : XD} {pos : Pos}
theorem dIx (ha : PE X a (tE X.K cl W f1)) (hb : PE X b (tE X.K cl W f2)) (hs : PlainIx b) : PE X (.Subscript a b pos) (tE X.K cl W (xIx f1 f2)) := pe_imp (pe_ix ix_seq ha hb hs) fun σ H Q => by
  rintro ⟨c, os, ρ, μ, r, h⟩
  refine ⟨c, os, ρ, μ, r, (Out.bind h).imp (fun d1 μ1 h1 => ?_) fun _ _ q => q⟩
  intro v1 H1 r1 e1 p1
  refine ⟨c, os, ρ, μ1, r1, (Out.bind h1).imp (fun d2 μ2 h2 => ?_) fun _ _ q => q.mono e1⟩
  intro v2 H2 r2 e2 p2
  obtain ⟨d, e, h3⟩ := Out.ofO h2
  have q3 := VOk.mono (e1.trans e2) h3
  have p1 := p1.mono e2.vw
  cases d1 with
  | own n =>
    cases d2 with
    | int k =>
      obtain ⟨ns, e3, e4⟩ := Option.bind_eq_some_iff.mp (show (μ2[n]?).bind (fun ns => (atI ns k).map D.int) = some d from e)
      obtain ⟨z, e5, e6⟩ := Option.map_eq_some_iff.mp e4
      subst e6
      obtain ⟨p, hv, hp⟩ := p1.inv_own
      subst hv
      refine .inl ⟨p, ns.map V.int, k, .int z, rfl, p2.inv_int, .inl (.inl (r2.st n p ns hp e3)), ?_, VOk.same q3 r2 (.int z)⟩
      rw [atI_map, e5]
      rfl
    | _ => cases e
  | tup xs =>
    cases d2 with
    | int k =>
      have z2 := p2.inv_int
      subst z2
      obtain ⟨p, vs, hv, g1, g2⟩ := p1.inv_tup
      subst hv
      obtain ⟨v, g3, g4⟩ := g2.atI (show atI xs k = some d from e)
      exact .inr (.inl ⟨p, vs, k, v, rfl, rfl, vw_le.sqT g1, g3, VOk.same q3 r2 g4⟩)
    | _ => cases e
  | lst xs =>
    cases d2 with
    | int k =>
      have z2 := p2.inv_int
      subst z2
      obtain ⟨p, vs, hv, g1, g2⟩ := p1.inv_lst
      subst hv
      obtain ⟨v, g3, g4⟩ := g2.atI (show atI xs k = some d from e)
      exact .inl ⟨p, vs, k, v, rfl, rfl, .inl (.inl (vw_le _ _ g1)), g3, VOk.same q3 r2 g4⟩
    | _ => cases e
  | scr ns =>
    cases d2 with
    | int k =>
      have z2 := p2.inv_int
      subst z2
      obtain ⟨z, e5, e6⟩ := Option.map_eq_some_iff.mp (show (atI ns k).map D.int = some d from e)
      subst e6
      obtain ⟨p, hv, g1⟩ := p1.inv_scr
      subst hv
      refine .inl ⟨p, ns.map V.int, k, .int z, rfl, rfl, vw_le.sqL g1, ?_, VOk.same q3 r2 (.int z)⟩
      rw [atI_map, e5]
      rfl
    | _ => cases e
  | str z =>
    cases d2 with
    | int k =>
      have z2 := p2.inv_int
      subst z2
      have e' : (if Nat.ble z.length 1000000 then (atI z.cps.toList k).bind fun c => if Nat.blt c 1114112 then some (D.str ⟨#[c]⟩) else none else none) = some d := e
      by_cases hl : Nat.ble z.length 1000000 = true
      · rw [if_pos hl] at e'
        obtain ⟨ch, e5, e6⟩ := Option.bind_eq_some_iff.mp e'
        by_cases hc : Nat.blt ch 1114112 = true
        · rw [if_pos hc] at e6
          cases e6
          refine .inr (.inr ⟨z, k, ch, p1.inv_str.1, rfl, ble_line hl, e5, VOk.same q3 r2 (.str ?_)⟩)
          unfold strOk
          simp
          exact Nat.le_of_ble_eq_true hc
        · rw [if_neg hc] at e6
          cases e6
      · rw [if_neg hl] at e'
        cases e'
    | _ => cases e
  | _ => cases d2 <;> cases e
end
/-! ### slices -/
def cutD (xs : List D) (lo hi : Option Int) : List D := (xs.drop (HT.sIx xs.length 0 lo)).take (HT.sIx xs.length xs.length hi - HT.sIx xs.length 0 lo)
def oNone : Env → Store → Res (Option Int) := fun _ μ => .ok none μ
def oSome (f : XD) : Env → Store → Res (Option Int) := fun ρ μ => (f ρ μ).bind fun d μ' => match d with
  | .int i => .ok (some i) μ'
  | _ => .fail
def slT (a : D) (lo hi : Option Int) : Option D := match a with
  | .tup xs => some (.tup (cutD xs lo hi))
  | .str z => if Nat.ble z.length 1000000 then some (.str (cutS z lo hi)) else none
  | .lst xs => some (.lst (cutD xs lo hi))
  | _ => none
def xSl (f : XD) (l h : Env → Store → Res (Option Int)) : XD := fun ρ μ => (f ρ μ).bind fun a μ1 => (l ρ μ1).bind fun lo μ2 => (h ρ μ2).bind fun hi μ3 => Res.ofO (slT a lo hi) μ3
def tO (K : PySem.W.Frag) (cl : Nat → Addr) (W : WX) (f : Env → Store → Res (Option Int)) : TO := fun σ H Q => ∃ c os ρ μ, Rl K c os ρ μ σ H ∧ Out (f ρ μ) (fun b μ' => ∀ H', Rl K c os ρ μ' σ H' → Kp c H H' → Q b H') (EOk K cl W c os ρ σ H)
theorem RpA.cut {K : PySem.W.Frag} {T : List Addr} {H : Hp} {vs : List V} {ds : List D} (r : RpA K T H vs ds) (lo hi : Option Int) : RpA K T H (cutV vs lo hi) (cutD ds lo hi) := by
  unfold cutV cutD
  rw [r.length]
  exact (r.drop _).take _
theorem arr_all_take {p : Nat → Bool} {xs : List Nat} (h : xs.all p = true) (i j : Nat) : ((xs.drop i).take j).all p = true := by
  rw [List.all_eq_true] at h ⊢
  intro x hx
  exact h x (List.mem_of_mem_drop (List.mem_of_mem_take hx))
theorem strOk_iff {x : Str} : strOk x = true ↔ x.cps.toList.all (· < 0x110000) = true := by
  unfold strOk
  rw [← Array.all_toList]
theorem po_imp {X : Cx} {e : Option Expr} {t t' : TO} (h : PO X e t) (i : ∀ σ H Q, t' σ H Q → t σ H Q) : PO X e t' := ⟨fun pins s σ H Q I q => h.run pins s σ H Q I (i σ H Q q)⟩
section
variable {X : Cx} {cl : Nat → Addr} {W : WX} {e : Expr} {f : XD} {pos p2 : Pos}
theorem dONone : PO X none (tO X.K cl W oNone) := po_imp po_none fun σ H Q => by
  rintro ⟨c, os, ρ, μ, r, h⟩
  exact h H r (Kp.refl _ _)
theorem dOSome (h : PE X e (tE X.K cl W f)) : PO X (some e) (tO X.K cl W (oSome f)) := po_imp (po_some h) fun σ H Q => by
  rintro ⟨c, os, ρ, μ, r, h⟩
  refine ⟨c, os, ρ, μ, r, (Out.bind h).imp (fun d1 μ1 h1 => ?_) fun _ _ q => q⟩
  intro v1 H1 r1 e1 p1
  cases d1 with
  | int i =>
    have z := p1.inv_int
    subst z
    exact ⟨i, rfl, h1 H1 r1 e1⟩
  | _ => exact False.elim h1
end
end DC
set_option Elab.async false
set_option linter.all false
set_option maxRecDepth 100000
set_option maxHeartbeats 2000000
/-! DC: slices taken, isinstance, built-ins by values. -/
namespace DC
open PySem PySem.Spec PyProof.Rows L2
section
variable {X : Cx} {cl : Nat → Addr} {W : WX} {e : Expr} {f : XD} {pos p2 : Pos} {lo hi : Option Expr} {fl fh : Env → Store → Res (Option Int)}
theorem cutS_ok {z : Str} (h : strOk z = true) (lo hi : Option Int) : strOk (cutS z lo hi) = true := by
  rw [strOk_iff] at h ⊢
  exact arr_all_take h _ _
theorem dSl (he : PE X e (tE X.K cl W f)) (hl : PO X lo (tO X.K cl W fl)) (hh : PO X hi (tO X.K cl W fh)) : PE X (.Subscript e (.Slice lo hi none p2) pos) (tE X.K cl W (xSl f fl fh)) := pe_imp (pe_slice (sl_list.or (sl_tupN.or sl_str)) he hl hh) fun σ H Q => by
  rintro ⟨c, os, ρ, μ, r, h⟩
  refine ⟨c, os, ρ, μ, r, (Out.bind h).imp (fun d1 μ1 h1 => ?_) fun _ _ q => q⟩
  intro v1 H1 r1 e1 p1
  refine ⟨c, os, ρ, μ1, r1, (Out.bind h1).imp (fun l μ2 h2 => ?_) fun _ _ q => q.mono e1⟩
  intro H2 r2 e2
  refine ⟨c, os, ρ, μ2, r2, (Out.bind h2).imp (fun u μ3 h3 => ?_) fun _ _ q => q.mono (e1.trans e2)⟩
  intro H3 r3 e3
  obtain ⟨d, e, h4⟩ := Out.ofO h3
  have q := VOk.mono ((e1.trans e2).trans e3) h4
  have p := p1.mono (e2.trans e3).vw
  unfold slT at e
  split at e
  · rename_i xs
    cases e
    obtain ⟨a, vs, hv, g1, g2, g3⟩ := p.inv_tupN
    subst hv
    refine .inr (.inl ⟨a, vs, rfl, vw_le.sqT g1, fun z => ?_, fun _ => VOk.newT q r3 (g2.cut l u)⟩)
    have ec : cutD xs l u = xs := by
      unfold cutD
      rw [← g2.length, z.1, z.2, List.drop_zero, Nat.sub_zero, g2.length, List.take_length]
    rw [ec] at q
    exact VOk.same q r3 (.tup g1 g2 g3)
  · split at e
    · rename_i hl
      cases e
      obtain ⟨z1, z2⟩ := p.inv_str
      exact .inr (.inr ⟨_, z1, ble_line hl, VOk.same q r3 (.str (cutS_ok z2 _ _))⟩)
    · cases e
  · cases e
    obtain ⟨a, vs, hv, g1, g2⟩ := p.inv_lst
    subst hv
    exact .inl ⟨a, vs, rfl, .inl (.inl (vw_le _ _ g1)), fun p n => VOk.newL q r3 (g2.cut l u) n⟩
  · cases e
end
/-! ### isinstance -/
/-- the name of a value's class -/
def D.cn : D → String
  | .non => "NoneType"
  | .bl _ => "bool"
  | .int _ => "int"
  | .str _ => "str"
  | .tup _ => "tuple"
  | .lst _ => "list"
  | .scr _ => "list"
  | .dk _ _ => "dict"
  | .dt _ _ => "dict"
  | .own _ => "list"
inductive Ty where
  | bool | int | str | tuple | list | dict
def Ty.nm : Ty → String
  | .bool => "bool"
  | .int => "int"
  | .str => "str"
  | .tuple => "tuple"
  | .list => "list"
  | .dict => "dict"
def Ty.has : Ty → D → Bool
  | .bool, .bl _ => true
  | .int, .int _ => true
  | .int, .bl _ => true
  | .str, .str _ => true
  | .tuple, .tup _ => true
  | .list, .lst _ => true
  | .list, .scr _ => true
  | .list, .own _ => true
  | .dict, .dk _ _ => true
  | .dict, .dt _ _ => true
  | _, _ => false
def Ty.nms (t : Ty) (s : String) : Bool := match t with
  | .bool => s == "bool"
  | .int => s == "int" || s == "bool"
  | .str => s == "str"
  | .tuple => s == "tuple"
  | .list => s == "list"
  | .dict => s == "dict"
theorem Ty.has_nms (t : Ty) (d : D) : t.has d = t.nms d.cn := by cases t <;> cases d <;> rfl
theorem kit_all : ∀ (t : Ty) (s : String), s ∈ ["NoneType", "bool", "int", "str", "tuple", "list", "dict"] → kitB s t.nm = some (t.nms s) := by
  intro t s hs
  simp only [List.mem_cons, List.not_mem_nil, or_false] at hs
  rcases hs with h | h | h | h | h | h | h <;> subst h <;> cases t <;> decide +kernel
theorem D.cn_mem (d : D) : d.cn ∈ ["NoneType", "bool", "int", "str", "tuple", "list", "dict"] := by cases d <;> simp [D.cn]
/-- all values but dicts with tuple keys -/
def isiD (t : Ty) (d : D) : Option D := match d with
  | .dt _ _ => none
  | _ => some (.bl (t.has d))
section
variable {X : Cx} {cl : Nat → Addr} {W : WX} {e : Expr} {f : XD} {pos p p2 : Pos} {x : Str}
theorem tyX_of' {K : PySem.W.Frag} {c : Ct} {os : List (Option Addr)} {ρ : Env} {μ : Store} {σ : L2.St} {H : Hp} (r : Rl K c os ρ μ σ H) {v : V} {d : D} (p : Rp K c.T (vw c os H) v d) (nf : ∀ ks vs, d ≠ .dt ks vs) : TyX K H v (.type d.cn) := by
  cases p with
  | dt h _ _ => exact absurd rfl (nf _ _)
  | non => exact .base .non
  | bl b => exact .base (.bl b)
  | int i => exact .base (.int i)
  | str _ => exact .base (.str _)
  | tup h _ _ =>
    rcases h with (h | ⟨o, h⟩) | ⟨o, its, n, h1, h2, _⟩
    · exact .base (.tup (vw_le _ _ h))
    · exact .fTuple (vw_le _ _ h)
    · exact .kTuple h1 h2
  | lst h _ => exact .base (.lst (vw_le _ _ h))
  | scr h =>
    rcases h with (h | ⟨o, h⟩) | ⟨o, its, n, h1, h2, _⟩
    · exact .base (.lst (vw_le _ _ h))
    · exact .base (.frz (vw_le _ _ h))
    · exact .kList h1 h2
  | dk h _ _ =>
    rcases h with h | ⟨o, h⟩
    · exact .base (.dK (vw_le _ _ h))
    · exact .fDict (vw_le _ _ h)
  | own h =>
    have hm : _ ∈ c.T := List.mem_of_getElem? h
    obtain ⟨i, hi⟩ := List.getElem?_of_mem hm
    have hlt : i < c.T.length := (List.getElem?_eq_some_iff.mp hi).1
    have h1 : i < μ.length := by rw [r.sm]; exact hlt
    exact .base (.lst (r.st i _ _ hi (List.getElem?_eq_getElem h1)))
theorem dIsi (t : Ty) (hg : Gl X "isinstance") (hm : X.mg "isinstance" = none) (hgt : Gl X x) (hmt : X.mg x = none) (hv : bootBuiltins x = some (.type t.nm)) (he : PE X e (tE X.K cl W f)) (hn : x ≠ "__name__" := by decide) (hdb : (x == ("__debug__" : Str)) = false := by decide)
    (hs : starEach [e, .Name x p2] X.env = (false, eval e X.env) :: starEach [.Name x p2] X.env := by rfl) (hpl : (backTo pos (starEach [.Name x p2] X.env)).any (·.1) = false := by rfl) :
    PE X (.Call (.Name "isinstance" p) [e, .Name x p2] [] pos) (tE X.K cl W (xUn (isiD t) f)) :=
  pe_imp (pe_callB call_isi hg hm (by decide +kernel) (pa_cons he (pa_cons (pe_bltn (v := .ty t.nm) hgt hmt hv rfl hn hdb) pa_nil rfl) hs) (by decide) (by decide) hs hpl) fun σ H Q => by
  rintro ⟨c, os, ρ, μ, r, h⟩
  refine ⟨c, os, ρ, μ, r, (Out.bind h).imp (fun d1 μ1 h1 => ?_) fun _ _ q => q⟩
  intro v1 H1 r1 e1 p1
  obtain ⟨d, e, h3⟩ := Out.ofO h1
  have q := VOk.mono e1 h3
  have nd : ∀ ks vs, d1 ≠ .dt ks vs := fun ks vs z => by subst z; cases e
  have e' : d = .bl (t.has d1) := by
    unfold isiD at e
    split at e
    · cases e
    · exact (Option.some.inj e).symm
  subst e'
  refine ⟨v1, .ty t.nm, .type d1.cn, .type t.nm, t.has d1, rfl, .ty _, tyX_of' r1 p1 nd, kit_ty (by rw [Ty.has_nms]; exact kit_all t _ (D.cn_mem d1)), VOk.same q r1 (.bl _)⟩
end
/-! ### built-ins -/
section
variable {K : PySem.W.Frag}
theorem RpA.one {T : List Addr} {H : Hp} {vs : List V} {d : D} (h : RpA K T H vs [d]) : ∃ v, vs = [v] ∧ Rp K T H v d := by
  cases h with
  | cons q r => cases r; exact ⟨_, rfl, q⟩
theorem RpA.two {T : List Addr} {H : Hp} {vs : List V} {d e : D} (h : RpA K T H vs [d, e]) : ∃ v w, vs = [v, w] ∧ Rp K T H v d ∧ Rp K T H w e := by
  cases h with
  | cons q r => obtain ⟨w, z, p⟩ := r.one; subst z; exact ⟨_, _, rfl, q, p⟩
def lenD : List D → Option D
  | [.str z] => if Nat.ble z.length 1000000 then some (.int z.length) else none
  | [.tup xs] => some (.int xs.length)
  | [.lst xs] => some (.int xs.length)
  | [.scr xs] => some (.int xs.length)
  | _ => none
theorem c_len : CbD K (fun xs H Q => ∃ x n, xs = [x] ∧ LenV K x H n ∧ Q (.int n) H) lenD := fun {c os ρ μ σ H vs ds d Q} r p e q => by
  unfold lenD at e
  split at e
  · split at e
    · rename_i hl
      cases e
      obtain ⟨v, z, pv⟩ := p.one
      subst z
      have z := pv.inv_str.1
      subst z
      exact ⟨_, _, rfl, ⟨ble_line hl, rfl⟩, VOk.same q r (.int _)⟩
    · cases e
  · cases e
    obtain ⟨v, z, pv⟩ := p.one
    subst z
    obtain ⟨a, us, z, g1, g2⟩ := pv.inv_tup
    subst z
    refine ⟨_, _, rfl, .inr ⟨us, vw_le.sqT g1, rfl⟩, ?_⟩
    rw [g2.length]
    exact VOk.same q r (.int _)
  · cases e
    obtain ⟨v, z, pv⟩ := p.one
    subst z
    obtain ⟨a, us, z, g1, g2⟩ := pv.inv_lst
    subst z
    refine ⟨_, _, rfl, .inl ⟨us, .inl (.inl (vw_le _ _ g1)), rfl⟩, ?_⟩
    rw [g2.length]
    exact VOk.same q r (.int _)
  · cases e
    obtain ⟨v, z, pv⟩ := p.one
    subst z
    obtain ⟨a, z, g1⟩ := pv.inv_scr
    subst z
    refine ⟨_, _, rfl, .inl ⟨_, vw_le.sqL g1, rfl⟩, ?_⟩
    rw [List.length_map]
    exact VOk.same q r (.int _)
  · cases e
def absD : List D → Option D
  | [.int i] => some (.int (if i < 0 then -i else i))
  | _ => none
theorem c_abs : CbD K (fun xs H Q => ∃ i, xs = [.int i] ∧ Q (.int (if i < 0 then -i else i)) H) absD := fun {c os ρ μ σ H vs ds d Q} r p e q => by
  unfold absD at e
  split at e
  · cases e
    obtain ⟨v, z, pv⟩ := p.one
    subst z
    exact ⟨_, by rw [pv.inv_int], VOk.same q r (.int _)⟩
  · cases e
def max2D : List D → Option D
  | [.int i, .int j] => some (.int (if j > i then j else i))
  | _ => none
def min2D : List D → Option D
  | [.int i, .int j] => some (.int (if j < i then j else i))
  | _ => none
theorem c_max2 : CbD K (fun xs H Q => ∃ i j, xs = [.int i, .int j] ∧ Q (.int (if j > i then j else i)) H) max2D := fun {c os ρ μ σ H vs ds d Q} r p e q => by
  unfold max2D at e
  split at e
  · cases e
    obtain ⟨v, w, z, pv, pw⟩ := p.two
    subst z
    exact ⟨_, _, by rw [pv.inv_int, pw.inv_int], VOk.same q r (.int _)⟩
  · cases e
theorem c_min2 : CbD K (fun xs H Q => ∃ i j, xs = [.int i, .int j] ∧ Q (.int (if j < i then j else i)) H) min2D := fun {c os ρ μ σ H vs ds d Q} r p e q => by
  unfold min2D at e
  split at e
  · cases e
    obtain ⟨v, w, z, pv, pw⟩ := p.two
    subst z
    exact ⟨_, _, by rw [pv.inv_int, pw.inv_int], VOk.same q r (.int _)⟩
  · cases e
def intD : List D → Option D
  | [.int i] => some (.int i)
  | [.bl k] => some (.int (if k then 1 else 0))
  | _ => none
theorem c_int : CbD K (fun xs H Q => (∃ i, xs = [.int i] ∧ Q (.int i) H) ∨ ∃ k, xs = [.bl k] ∧ Q (.int (if k then 1 else 0)) H) intD := fun {c os ρ μ σ H vs ds d Q} r p e q => by
  unfold intD at e
  split at e
  · cases e
    obtain ⟨v, z, pv⟩ := p.one
    subst z
    exact .inl ⟨_, by rw [pv.inv_int], VOk.same q r (.int _)⟩
  · cases e
    obtain ⟨v, z, pv⟩ := p.one
    subst z
    exact .inr ⟨_, by rw [pv.inv_bl], VOk.same q r (.int _)⟩
  · cases e
/-- the ints of a list -/
def D.ints : List D → Option (List Int)
  | [] => some []
  | .int i :: r => (D.ints r).map (i :: ·)
  | _ :: _ => none
theorem D.ints_eq : ∀ {ds : List D} {ns : List Int}, D.ints ds = some ns → ds = ns.map D.int
  | [], _, h => by cases h; rfl
  | .int i :: r, _, h => by
    obtain ⟨ms, h1, h2⟩ := Option.map_eq_some_iff.mp (show (D.ints r).map (i :: ·) = some _ from h)
    subst h2
    rw [D.ints_eq h1]
    rfl
  | .non :: r, _, h => by cases h
  | .bl _ :: r, _, h => by cases h
  | .str _ :: r, _, h => by cases h
  | .tup _ :: r, _, h => by cases h
  | .lst _ :: r, _, h => by cases h
  | .scr _ :: r, _, h => by cases h
  | .dk _ _ :: r, _, h => by cases h
  | .dt _ _ :: r, _, h => by cases h
  | .own _ :: r, _, h => by cases h
theorem D.ints_map : ∀ ns : List Int, D.ints (ns.map D.int) = some ns
  | [] => rfl
  | n :: ns => by
    show (D.ints (ns.map D.int)).map (n :: ·) = some (n :: ns)
    rw [D.ints_map ns]
    rfl
def D.bls : List D → Option (List Bool)
  | [] => some []
  | .bl i :: r => (D.bls r).map (i :: ·)
  | _ :: _ => none
theorem D.bls_eq : ∀ {ds : List D} {ns : List Bool}, D.bls ds = some ns → ds = ns.map D.bl
  | [], _, h => by cases h; rfl
  | .bl i :: r, _, h => by
    obtain ⟨ms, h1, h2⟩ := Option.map_eq_some_iff.mp (show (D.bls r).map (i :: ·) = some _ from h)
    subst h2
    rw [D.bls_eq h1]
    rfl
  | .non :: r, _, h => by cases h
  | .int _ :: r, _, h => by cases h
  | .str _ :: r, _, h => by cases h
  | .tup _ :: r, _, h => by cases h
  | .lst _ :: r, _, h => by cases h
  | .scr _ :: r, _, h => by cases h
  | .dk _ _ :: r, _, h => by cases h
  | .dt _ _ :: r, _, h => by cases h
  | .own _ :: r, _, h => by cases h
theorem D.bls_map : ∀ ns : List Bool, D.bls (ns.map D.bl) = some ns
  | [] => rfl
  | n :: ns => by
    show (D.bls (ns.map D.bl)).map (n :: ·) = some (n :: ns)
    rw [D.bls_map ns]
    rfl
def sumD : List D → Option D
  | [.lst ds] => (D.ints ds).map fun ns => .int ns.sum
  | _ => none
theorem c_sum : CbD K (rSum K) sumD := fun {c os ρ μ σ H vs ds d Q} r p e q => by
  unfold sumD at e
  split at e
  · obtain ⟨ns, e1, e2⟩ := Option.map_eq_some_iff.mp e
    subst e2
    have z := D.ints_eq e1
    subst z
    obtain ⟨v, z, pv⟩ := p.one
    subst z
    obtain ⟨a, us, z, g1, g2⟩ := pv.inv_lst
    subst z
    have z := g2.ints
    subst z
    exact ⟨a, ns, rfl, .inl (.inl (vw_le _ _ g1)), VOk.same q r (.int _)⟩
  · cases e
def allD : List D → Option D
  | [.lst ds] => (D.bls ds).map fun ns => .bl (ns.all id)
  | _ => none
def anyD : List D → Option D
  | [.lst ds] => (D.bls ds).map fun ns => .bl (ns.any id)
  | _ => none
theorem c_all : CbD K (rAll K) allD := fun {c os ρ μ σ H vs ds d Q} r p e q => by
  unfold allD at e
  split at e
  · obtain ⟨ns, e1, e2⟩ := Option.map_eq_some_iff.mp e
    subst e2
    have z := D.bls_eq e1
    subst z
    obtain ⟨v, z, pv⟩ := p.one
    subst z
    obtain ⟨a, us, z, g1, g2⟩ := pv.inv_lst
    subst z
    have z := g2.bls
    subst z
    exact ⟨a, ns, rfl, .inl (.inl (vw_le _ _ g1)), VOk.same q r (.bl _)⟩
  · cases e
theorem c_any : CbD K (rAny K) anyD := fun {c os ρ μ σ H vs ds d Q} r p e q => by
  unfold anyD at e
  split at e
  · obtain ⟨ns, e1, e2⟩ := Option.map_eq_some_iff.mp e
    subst e2
    have z := D.bls_eq e1
    subst z
    obtain ⟨v, z, pv⟩ := p.one
    subst z
    obtain ⟨a, us, z, g1, g2⟩ := pv.inv_lst
    subst z
    have z := g2.bls
    subst z
    exact ⟨a, ns, rfl, .inl (.inl (vw_le _ _ g1)), VOk.same q r (.bl _)⟩
  · cases e
def listD : List D → Option D
  | [.lst ds] => some (.lst ds)
  | [.tup ds] => some (.lst ds)
  | [.scr ns] => some (.lst (ns.map D.int))
  | _ => none
theorem c_list : CbF K (fun xs H Q => ∃ p ys, xs = [.ref p] ∧ (SqL K H p ys ∨ SqT K H p ys) ∧ ∀ l, H l = none → Q (.ref l) (upd H l (.lst ys))) listD := fun {c os ρ μ σ H vs ds d Q} r p e q => by
  unfold listD at e
  split at e
  · cases e
    obtain ⟨v, z, pv⟩ := p.one
    subst z
    obtain ⟨a, us, z, g1, g2⟩ := pv.inv_lst
    subst z
    exact ⟨a, us, rfl, .inl (.inl (.inl (vw_le _ _ g1))), fun l n => FOk.newL q r g2 n⟩
  · cases e
    obtain ⟨v, z, pv⟩ := p.one
    subst z
    obtain ⟨a, us, z, g1, g2⟩ := pv.inv_tup
    subst z
    exact ⟨a, us, rfl, .inr (vw_le.sqT g1), fun l n => FOk.newL q r g2 n⟩
  · cases e
    obtain ⟨v, z, pv⟩ := p.one
    subst z
    obtain ⟨a, z, g1⟩ := pv.inv_scr
    subst z
    exact ⟨a, _, rfl, .inl (vw_le.sqL g1), fun l n => FOk.newL q r (RpA.of_ints _) n⟩
  · cases e
def tupleD : List D → Option D
  | [.lst ds] => some (.tup ds)
  | [.tup ds] => some (.tup ds)
  | _ => none
theorem c_tuple : CbD K (fun xs H Q => ∃ p ys, xs = [.ref p] ∧ ((SqL K H p ys ∧ NewT H ys Q) ∨ (SqT K H p ys ∧ Q (.ref p) H))) tupleD := fun {c os ρ μ σ H vs ds d Q} r p e q => by
  unfold tupleD at e
  split at e
  · cases e
    obtain ⟨v, z, pv⟩ := p.one
    subst z
    obtain ⟨a, us, z, g1, g2⟩ := pv.inv_lst
    subst z
    exact ⟨a, us, rfl, .inl ⟨.inl (.inl (vw_le _ _ g1)), VOk.newT q r g2⟩⟩
  · cases e
    obtain ⟨v, z, pv⟩ := p.one
    subst z
    obtain ⟨a, us, z, g1, g2, g3⟩ := pv.inv_tupN
    subst z
    exact ⟨a, us, rfl, .inr ⟨vw_le.sqT g1, VOk.same q r (.tup g1 g2 g3)⟩⟩
  · cases e
/-- ints in order -/
def insI (x : Int) : List Int → List Int
  | [] => [x]
  | y :: r => if x ≤ y then x :: y :: r else y :: insI x r
def sortI : List Int → List Int
  | [] => []
  | x :: r => insI x (sortI r)
theorem insI_perm (x : Int) : ∀ l : List Int, (insI x l).Perm (x :: l)
  | [] => .refl _
  | y :: r => by
    unfold insI
    split
    · exact .refl _
    · exact ((insI_perm x r).cons y).trans (.swap x y r)
theorem sortI_perm : ∀ l : List Int, (sortI l).Perm l
  | [] => .refl _
  | x :: r => (insI_perm x _).trans ((sortI_perm r).cons x)
theorem insI_sorted (x : Int) : ∀ l : List Int, l.Pairwise (· ≤ ·) → (insI x l).Pairwise (· ≤ ·)
  | [], _ => by unfold insI; exact List.pairwise_singleton _ _
  | y :: r, h => by
    unfold insI
    split
    · rename_i hxy
      refine List.pairwise_cons.mpr ⟨fun z hz => ?_, h⟩
      rcases List.mem_cons.mp hz with e | hz
      · omega
      · have := (List.pairwise_cons.mp h).1 z hz
        omega
    · rename_i hxy
      refine List.pairwise_cons.mpr ⟨fun z hz => ?_, insI_sorted x r (List.pairwise_cons.mp h).2⟩
      rcases List.mem_cons.mp ((insI_perm x r).mem_iff.mp hz) with e | hz
      · omega
      · exact (List.pairwise_cons.mp h).1 z hz
theorem sortI_sorted : ∀ l : List Int, (sortI l).Pairwise (· ≤ ·)
  | [] => List.Pairwise.nil
  | x :: r => insI_sorted x _ (sortI_sorted r)
theorem sorted_uniq : ∀ {l m : List Int}, l.Perm m → l.Pairwise (· ≤ ·) → m.Pairwise (· ≤ ·) → l = m
  | [], m, h, _, _ => by rw [List.nil_perm.mp h]
  | x :: r, [], h, _, _ => by have := h.length_eq; simp at this
  | x :: r, y :: s, h, h1, h2 => by
    have a1 := List.pairwise_cons.mp h1
    have a2 := List.pairwise_cons.mp h2
    have e : x = y := by
      have m1 : x ∈ y :: s := h.mem_iff.mp (by simp)
      have m2 : y ∈ x :: r := h.mem_iff.mpr (by simp)
      rcases List.mem_cons.mp m1 with z1 | z1
      · exact z1
      · rcases List.mem_cons.mp m2 with z2 | z2
        · exact z2.symm
        · have := a1.1 y z2
          have := a2.1 x z1
          omega
    subst e
    rw [sorted_uniq (List.Perm.cons_inv h) a1.2 a2.2]
def sortedID : List D → Option D
  | [.lst ds] => (D.ints ds).map fun ns => .lst ((sortI ns).map D.int)
  | _ => none
theorem c_sortedI : CbF K (rSortedI K) sortedID := fun {c os ρ μ σ H vs ds d Q} r p e q => by
  unfold sortedID at e
  split at e
  · obtain ⟨ns, e1, e2⟩ := Option.map_eq_some_iff.mp e
    subst e2
    have z := D.ints_eq e1
    subst z
    obtain ⟨v, z, pv⟩ := p.one
    subst z
    obtain ⟨a, us, z, g1, g2⟩ := pv.inv_lst
    subst z
    have z := g2.ints
    subst z
    refine ⟨a, ns, rfl, .inl (.inl (vw_le _ _ g1)), fun ns' l h1 h2 n => ?_⟩
    have e : ns' = sortI ns := sorted_uniq (h1.trans (sortI_perm ns).symm) h2 (sortI_sorted ns)
    subst e
    exact FOk.newL q r (RpA.of_ints _) n
  · cases e
end
end DC
set_option Elab.async false
set_option linter.all false
set_option maxRecDepth 100000
set_option maxHeartbeats 2000000
/-! DC: statements. -/
namespace DC
open PySem PySem.Spec PyProof.Rows L2
inductive SRes where
  | nx (ρ : Env) (μ : Store)
  | rt (d : D) (μ : Store)
  | bk (ρ : Env) (μ : Store)
  | ct (ρ : Env) (μ : Store)
  | exc (x : Exn) (ρ : Env) (μ : Store)
  | fail
abbrev SD := Env → Store → SRes
/-- what is handed back: a value, or (fr) a new container -/
def RtOk (K : PySem.W.Frag) (fr : Bool) (c : Ct) (rt : VK) (d : D) (μ : Store) : Prop := match fr with
  | false => ∀ v os ρ σ H, Rl K c os ρ μ σ H → Rp K c.T (vw c os H) v d → rt v H
  | true => ∀ a os ρ σ H, Fr K c os ρ μ σ H a d → rt (.ref a) H
def SOut (K : PySem.W.Frag) (cl : Nat → Addr) (W : WX) (fr : Bool) (c : Ct) (E : Ends) (r : SRes) : Prop := match r with
  | .nx ρ μ => ∀ os σ H, Rl K c os ρ μ σ H → E.nx σ H
  | .rt d μ => RtOk K fr c E.rt d μ
  | .bk ρ μ => ∀ os σ H, Rl K c os ρ μ σ H → E.bk σ H
  | .ct ρ μ => ∀ os σ H, Rl K c os ρ μ σ H → E.ct σ H
  | .exc x ρ μ => ∀ e dx os σ H, Rl K c os ρ μ σ H → ExAt K cl c os x e dx H → W e dx σ H
  | .fail => False
def tS (K : PySem.W.Frag) (cl : Nat → Addr) (W : WX) (fr : Bool) (F : SD) : TS := fun E σ H => ∃ c os ρ μ, Rl K c os ρ μ σ H ∧ SOut K cl W fr c E (F ρ μ)
theorem ps_imp {X : Cx} {st : Stmt} {t t' : TS} (h : PS X st t) (i : ∀ E σ H, t' E σ H → t E σ H) : PS X st t' := ⟨fun pins s σ H E I q => h.run pins s σ H E I (i E σ H q)⟩
theorem pss_imp {X : Cx} {st : List Stmt} {t t' : TS} (h : PSs X st t) (i : ∀ E σ H, t' E σ H → t E σ H) : PSs X st t' := ⟨fun pins s σ H E I q => h.run pins s σ H E I (i E σ H q)⟩
/-! ### denotations of statements -/
def sNext : SD := fun ρ μ => .nx ρ μ
def sSeq (F G : SD) : SD := fun ρ μ => match F ρ μ with
  | .nx ρ' μ' => G ρ' μ'
  | r => r
def Res.st {α : Type} (r : Res α) (ρ : Env) (k : α → Store → SRes) : SRes := match r with
  | .ok a μ => k a μ
  | .exc x μ => .exc x ρ μ
  | .fail => .fail
def sAsg (i : Nat) (f : XD) : SD := fun ρ μ => (f ρ μ).st ρ fun d μ' => .nx (ρ.set i (.fz d)) μ'
def sAsgF (i : Nat) (f : XD) : SD := fun ρ μ => (f ρ μ).st ρ fun d μ' => .nx (ρ.set i (.ow d)) μ'
def sRet (f : XD) : SD := fun ρ μ => (f ρ μ).st ρ fun d μ' => .rt d μ'
def sRetV (i : Nat) : SD := fun ρ μ => match ρ[i]? with
  | some (.ow d) => .rt d μ
  | _ => .fail
def sRetN : SD := fun ρ μ => .rt .non μ
def sIf (t : XB) (F G : SD) : SD := fun ρ μ => (t ρ μ).st ρ fun b μ' => if b then F ρ μ' else G ρ μ'
def sExpr (f : XD) : SD := fun ρ μ => (f ρ μ).st ρ fun _ μ' => .nx ρ μ'
def sFrz (i : Nat) (F : SD) : SD := fun ρ μ => match ρ[i]? with
  | some (.ow d) => F (ρ.set i (.fz d)) μ
  | _ => F ρ μ
def sBrk : SD := fun ρ μ => .bk ρ μ
def sCnt : SD := fun ρ μ => .ct ρ μ
def sFail : SD := fun _ _ => .fail
def sWhile : Nat → XB → SD → SD
  | 0, _, _ => fun _ _ => .fail
  | n + 1, t, F => fun ρ μ => (t ρ μ).st ρ fun b μ1 => if b then (match F ρ μ1 with
      | .nx ρ' μ' => sWhile n t F ρ' μ'
      | .ct ρ' μ' => sWhile n t F ρ' μ'
      | .bk ρ' μ' => .nx ρ' μ'
      | r => r) else .nx ρ μ1
def sApp (i : Nat) (f : XD) : SD := fun ρ μ => match ρ[i]? with
  | some (.ow (.lst ds)) => (f ρ μ).st ρ fun d μ' => if Nat.ble ds.length 1000000 then .nx (ρ.set i (.ow (.lst (ds ++ [d])))) μ' else .fail
  | _ => .fail
section
variable {X : Cx} {cl : Nat → Addr} {W : WX} {fr : Bool} {e : Expr} {f : XD} {t : XB} {F G : SD} {s0 : Stmt} {rest body orelse : List Stmt} {pos : Pos}
theorem SOut.st {K : PySem.W.Frag} {α : Type} {r : Res α} {ρ : Env} {k : α → Store → SRes} {c : Ct} {E : Ends} (h : SOut K cl W fr c E (r.st ρ k)) {os : List (Option Addr)} {σ : L2.St} {H : Hp} : Out r (fun a μ => SOut K cl W fr c E (k a μ)) (EOk K cl W c os ρ σ H) := by
  cases r with
  | ok a μ => exact h
  | exc x μ => exact fun v dx H' r' _ ex => h v dx os σ H' r' ex
  | fail => exact h
theorem hNil : PSs X [] (tS X.K cl W fr sNext) := pss_imp pss_nil fun E σ H => by
  rintro ⟨c, os, ρ, μ, r, h⟩
  exact h os σ H r
theorem seq_imp (E : Ends) (σ : L2.St) (H : Hp) (h : tS X.K cl W fr (sSeq F G) E σ H) : tSeq (tS X.K cl W fr F) (tS X.K cl W fr G) E σ H := by
  obtain ⟨c, os, ρ, μ, r, h⟩ := h
  refine ⟨c, os, ρ, μ, r, ?_⟩
  unfold sSeq at h
  cases e : F ρ μ with
  | nx ρ' μ' =>
    rw [e] at h
    intro os' σ' H' r'
    exact ⟨c, os', ρ', μ', r', h⟩
  | rt d μ' => rw [e] at h; exact h
  | bk ρ' μ' => rw [e] at h; exact h
  | ct ρ' μ' => rw [e] at h; exact h
  | exc x ρ' μ' => rw [e] at h; exact h
  | fail => rw [e] at h; exact h
theorem hCons (h1 : PS X s0 (tS X.K cl W fr F)) (h2 : PSs X rest (tS X.K cl W fr G)) : PSs X (s0 :: rest) (tS X.K cl W fr (sSeq F G)) := pss_imp (pss_cons h1 h2) seq_imp
theorem hOne (h1 : PS X s0 (tS X.K cl W fr F)) : PSs X [s0] (tS X.K cl W fr F) := pss_one h1
theorem hPass : PS X (.Pass pos) (tS X.K cl W fr sNext) := ps_imp ps_pass fun E σ H => by
  rintro ⟨c, os, ρ, μ, r, h⟩
  exact h os σ H r
theorem hBrk : PS X (.Break pos) (tS X.K cl W fr sBrk) := ps_imp ps_break fun E σ H => by
  rintro ⟨c, os, ρ, μ, r, h⟩
  exact h os σ H r
theorem hCnt : PS X (.Continue pos) (tS X.K cl W fr sCnt) := ps_imp ps_continue fun E σ H => by
  rintro ⟨c, os, ρ, μ, r, h⟩
  exact h os σ H r
theorem hFail : PS X s0 (tS X.K cl W fr sFail) := ps_imp ps_never fun E σ H => by
  rintro ⟨c, os, ρ, μ, r, h⟩
  exact h.elim
theorem hFails : PSs X rest (tS X.K cl W fr sFail) := pss_imp pss_never fun E σ H => by
  rintro ⟨c, os, ρ, μ, r, h⟩
  exact h.elim
theorem hAsg {i : Nat} (h : PS X s0 (tAsg (tE X.K cl W f) (gName i))) : PS X s0 (tS X.K cl W fr (sAsg i f)) := ps_imp h fun E σ H => by
  rintro ⟨c, os, ρ, μ, r, h⟩
  refine ⟨c, os, ρ, μ, r, (SOut.st h).imp (fun d μ1 h1 => ?_) fun _ _ q => q⟩
  intro v1 H1 r1 e1 p1
  exact h1 _ _ H1 (r1.set p1)
theorem hAsgF {i : Nat} (h : PS X s0 (tAsg (tF X.K cl W f) (gName i))) : PS X s0 (tS X.K cl W fr (sAsgF i f)) := ps_imp h fun E σ H => by
  rintro ⟨c, os, ρ, μ, r, h⟩
  refine ⟨c, os, ρ, μ, r, (SOut.st h).imp (fun d μ1 h1 => ?_) fun _ _ q => q⟩
  intro v1 H1 f1 e1 _
  exact h1 _ _ H1 (f1.put i)
theorem hRet (h : PE X e (tE X.K cl W f)) : PS X (.Return (some e) pos) (tS X.K cl W false (sRet f)) := ps_imp (ps_ret h) fun E σ H => by
  rintro ⟨c, os, ρ, μ, r, h⟩
  refine ⟨c, os, ρ, μ, r, (SOut.st h).imp (fun d μ1 h1 => ?_) fun _ _ q => q⟩
  intro v1 H1 r1 e1 p1
  exact h1 v1 os ρ σ H1 r1 p1
theorem hRetF (h : PE X e (tF X.K cl W f)) : PS X (.Return (some e) pos) (tS X.K cl W true (sRet f)) := ps_imp (ps_ret h) fun E σ H => by
  rintro ⟨c, os, ρ, μ, r, h⟩
  refine ⟨c, os, ρ, μ, r, (SOut.st h).imp (fun d μ1 h1 => ?_) fun _ _ q => q⟩
  intro v1 H1 r1 e1 _
  exact h1 v1 os ρ σ H1 r1
theorem hRetN : PS X (.Return none pos) (tS X.K cl W false sRetN) := ps_imp ps_retN fun E σ H => by
  rintro ⟨c, os, ρ, μ, r, h⟩
  exact h .non os ρ σ H r .non
/-- the own container goes out -/
theorem Rl.release {K : PySem.W.Frag} {c : Ct} {os : List (Option Addr)} {ρ : Env} {μ : Store} {σ : L2.St} {H : Hp} {d : D} (r : Rl K c os ρ μ σ H) {i : Nat} (h : ρ[i]? = some (.ow d)) : ∃ a, σ[i]? = some (some (.ref a)) ∧ Fr K c (os.set i none) (ρ.set i .no) μ σ H a d := by
  obtain ⟨a, h1, h2, h3⟩ := r.getOw h
  have l1 : i < os.length := (List.getElem?_eq_some_iff.mp h2).1
  have hm : some a ∈ os := List.mem_of_getElem? h2
  obtain ⟨w1, w2, w3⟩ := r.own a hm
  have nin : some a ∉ os.set i none := fun q => by
    obtain ⟨j, hj⟩ := List.getElem?_of_mem q
    by_cases e : i = j
    · subst e
      rw [List.getElem?_set_self l1] at hj; cases hj
    · rw [List.getElem?_set_ne e] at hj
      exact e (r.inj i j a h2 hj)
  have ev : vw (c.av a) (os.set i none) H = vw c os H := by
    funext b
    unfold vw Ct.av
    by_cases hb : (c.A b ∨ b ∈ c.T ∨ some b ∈ os)
    · rw [if_pos hb, if_pos]
      rcases hb with z | z | z
      · exact .inl (.inl z)
      · exact .inr (.inl z)
      · by_cases eb : b = a
        · exact .inl (.inr eb)
        · refine .inr (.inr ?_)
          obtain ⟨j, hj⟩ := List.getElem?_of_mem z
          have nj : i ≠ j := fun e => by
            subst e
            rw [h2] at hj
            exact eb (Option.some.inj (Option.some.inj hj)).symm
          exact List.mem_of_getElem? (i := j) (by rw [List.getElem?_set_ne nj]; exact hj)
    · rw [if_neg hb, if_neg]
      rintro ((z | z) | z | z)
      · exact hb (.inl z)
      · exact hb (.inr (.inr (by rw [z]; exact hm)))
      · exact hb (.inr (.inl z))
      · exact hb (.inr (.inr (mem_set_none z)))
  refine ⟨a, h1, ⟨⟨by simp [r.lo], by simp [r.lr], fun j o s x g1 g2 g3 => ?_, fun j k b g1 g2 => ?_, fun b g => ?_, fun b g z => ?_, r.tn, r.sm, r.st, r.keep, fun b g => ?_⟩, ?_, w2, w1, nin, w3⟩⟩
  · rw [ev]
    by_cases hj : i = j
    · subst hj
      have l2 : i < ρ.length := by have := (List.getElem?_eq_some_iff.mp g2).1; simpa using this
      rw [List.getElem?_set_self l1] at g1
      rw [List.getElem?_set_self l2] at g2
      cases g1; cases g2
      trivial
    · rw [List.getElem?_set_ne hj] at g1 g2
      exact r.sl j o s x g1 g2 g3
  · have g : ∀ m, (os.set i none)[m]? = some (some b) → os[m]? = some (some b) := fun m hm => by
      by_cases e : i = m
      · subst e
        rw [List.getElem?_set_self l1] at hm; cases hm
      · rw [List.getElem?_set_ne e] at hm; exact hm
    exact r.inj j k b (g j g1) (g k g2)
  · have q := r.own b (mem_set_none g)
    refine ⟨q.1, fun z => z.elim q.2.1 fun y => nin (by rw [← y]; exact g), q.2.2⟩
  · exact z.elim (r.tA b g) fun y => w1 (by rw [← y]; exact g)
  · rcases g with g | g
    · exact r.dom b g
    · rw [g]; exact h3.thereN
  · rw [ev]; exact h3
theorem hRetV {i : Nat} {x : Str} {p : Pos} (h : PE X (.Name x p) (tVar i)) : PS X (.Return (some (.Name x p)) pos) (tS X.K cl W true (sRetV i)) := ps_imp (ps_ret h) fun E σ H => by
  rintro ⟨c, os, ρ, μ, r, h⟩
  unfold sRetV at h
  split at h
  · rename_i d e
    obtain ⟨a, h1, h2⟩ := r.release e
    exact ⟨_, h1, h a _ _ _ H h2⟩
  · exact h.elim
theorem hIf {c : Expr} (hc : PT X c (tT X.K cl W t)) (ha : PSs X body (tS X.K cl W fr F)) (hb : PSs X orelse (tS X.K cl W fr G)) : PS X (.If c body orelse pos) (tS X.K cl W fr (sIf t F G)) := ps_imp (ps_if hc ha hb) fun E σ H => by
  rintro ⟨c, os, ρ, μ, r, h⟩
  refine ⟨c, os, ρ, μ, r, (SOut.st h).imp (fun k μ1 h1 => ?_) fun _ _ q => q⟩
  intro H1 r1 e1
  cases k with
  | true =>
    rw [if_pos rfl] at h1 ⊢
    exact ⟨c, os, ρ, μ1, r1, h1⟩
  | false =>
    rw [if_neg Bool.false_ne_true] at h1 ⊢
    exact ⟨c, os, ρ, μ1, r1, h1⟩
theorem hExpr (he : PE X e (tE X.K cl W f)) (hs : swapsWith e none pos.line X.env = pure false := by rfl) : PS X (.Expr e pos) (tS X.K cl W fr (sExpr f)) := ps_imp (ps_expr he hs) fun E σ H => by
  rintro ⟨c, os, ρ, μ, r, h⟩
  refine ⟨c, os, ρ, μ, r, (SOut.st h).imp (fun d μ1 h1 => ?_) fun _ _ q => q⟩
  intro v1 H1 r1 e1 p1
  exact h1 _ _ H1 r1
theorem hFrz {i : Nat} (h : PS X s0 (tS X.K cl W fr F)) : PS X s0 (tS X.K cl W fr (sFrz i F)) := ps_imp h fun E σ H => by
  rintro ⟨c, os, ρ, μ, r, h⟩
  unfold sFrz at h
  split at h
  · rename_i d e
    exact ⟨c, _, _, μ, r.freeze e, h⟩
  · exact ⟨c, os, ρ, μ, r, h⟩
theorem hWhile (n : Nat) {c : Expr} (hp : PassesOwn (model X.prog X.w) X.A X.env X.xe) (hc : PT X c (tT X.K cl W t)) (hb : PSs X body (tS X.K cl W fr F)) : PS X (.While c body [] pos) (tS X.K cl W fr (sWhile n t F)) := ps_imp (ps_while hp hc hb) fun E σ H => by
  rintro ⟨c, os, ρ, μ, r, h⟩
  refine ⟨fun m σ H => ∃ os ρ μ, Rl X.K c os ρ μ σ H ∧ SOut X.K cl W fr c E (sWhile m t F ρ μ), ⟨n, os, ρ, μ, r, h⟩, ?_⟩
  rintro m σ H ⟨os, ρ, μ, r, h⟩
  cases m with
  | zero => exact h.elim
  | succ m =>
    refine ⟨c, os, ρ, μ, r, (SOut.st (show SOut X.K cl W fr c E ((t ρ μ).st ρ _) from h)).imp (fun k μ1 h1 => ?_) fun _ _ q => q⟩
    intro H1 r1 e1
    cases k with
    | false =>
      rw [if_neg Bool.false_ne_true] at h1 ⊢
      exact h1 os σ H1 r1
    | true =>
      rw [if_pos rfl] at h1 ⊢
      refine ⟨fun σ' H' => ∃ os' ρ' μ', Rl X.K c os' ρ' μ' σ' H' ∧ SOut X.K cl W fr c E (sWhile m t F ρ' μ'), fun σ' H' q => ⟨m, Nat.lt_succ_self m, q⟩, ?_⟩
      refine ⟨c, os, ρ, μ1, r1, ?_⟩
      cases e : F ρ μ1 with
      | nx ρ' μ' => rw [e] at h1; exact fun os' σ' H' r' => ⟨os', ρ', μ', r', h1⟩
      | ct ρ' μ' => rw [e] at h1; exact fun os' σ' H' r' => ⟨os', ρ', μ', r', h1⟩
      | bk ρ' μ' => rw [e] at h1; exact h1
      | rt d μ' => rw [e] at h1; exact h1
      | exc x ρ' μ' => rw [e] at h1; exact h1
      | fail => rw [e] at h1; exact h1
/-- x.append(e), x an own list -/
theorem hApp {i : Nat} (h : PS X s0 (tDrop (tBM X.K "list" rAppend (tVar i) (tCons (tE X.K cl W f) tNil)))) : PS X s0 (tS X.K cl W fr (sApp i f)) := ps_imp h fun E σ H => by
  rintro ⟨c, os, ρ, μ, r, h⟩
  unfold sApp at h
  split at h
  · rename_i ds e0
    obtain ⟨a, h1, h2, h3⟩ := r.getOw e0
    have l1 : ∃ xs, H a = some (.lst xs) := by
      cases h3 with | lst q _ => exact ⟨_, q⟩
    obtain ⟨xs, hxs⟩ := l1
    refine ⟨.ref a, h1, .inl ⟨rfl, xs, .inl (.inl hxs)⟩, ?_⟩
    refine ⟨c, os, ρ, μ, r, (SOut.st h).imp (fun d μ1 h1' => ?_) fun _ _ q => q⟩
    intro v1 H1 r1 e1 p1
    by_cases hl : Nat.ble ds.length 1000000 = true
    · rw [if_pos hl] at h1'
      obtain ⟨a', g1, g2, g3⟩ := r1.getOw e0
      have ea : a' = a := by
        rw [h1] at g1
        have := Option.some.inj (Option.some.inj g1)
        cases this; rfl
      subst ea
      cases g3 with
      | lst q k =>
        rename_i ys
        refine ⟨a', ys, v1, rfl, rfl, q, by rw [k.length]; exact Nat.lt_of_le_of_lt (Nat.le_of_ble_eq_true hl) (by rw [sizeLine_eq]; decide), ?_⟩
        exact h1' os σ _ (r1.change g1 g2 (.lst upd_same (k.append (.cons p1 .nil))))
    · rw [if_neg hl] at h1'
      exact h1'.elim
  · exact h.elim
end
end DC
set_option Elab.async false
set_option linter.all false
set_option maxRecDepth 100000
set_option maxHeartbeats 2000000
/-! DC: targets, loops, comprehensions. -/
namespace DC
open PySem PySem.Spec PyProof.Rows L2
/-! ### slots forgotten -/
theorem wipe_get (σ : L2.St) (j : Nat) : ∀ vs : List Nat, (wipe σ vs)[j]? = if j ∈ vs then (σ[j]?).map (fun _ => (none : Option V)) else σ[j]?
  | [] => by simp [wipe]
  | v :: vs => by
    unfold wipe
    by_cases e : v = j
    · subst e
      rw [List.getElem?_set, if_pos rfl, wipe_length]
      have hm : v ∈ v :: vs := by simp
      by_cases hl : v < σ.length
      · rw [if_pos hl, if_pos hm, List.getElem?_eq_getElem hl]; rfl
      · rw [if_neg hl, if_pos hm, List.getElem?_eq_none (by omega)]; rfl
    · rw [List.getElem?_set_ne e, wipe_get σ j vs]
      by_cases h : j ∈ vs
      · rw [if_pos h, if_pos (by simp [h])]
      · rw [if_neg h, if_neg (by simp [h, Ne.symm e])]
theorem wipe_set {σ : L2.St} {i : Nat} {x : Option V} {vs : List Nat} (h : i ∈ vs) : wipe (σ.set i x) vs = wipe σ vs := by
  apply List.ext_getElem?
  intro j
  rw [wipe_get, wipe_get]
  by_cases e : j ∈ vs
  · rw [if_pos e, if_pos e, List.getElem?_set]
    by_cases q : i = j
    · subst q
      rw [if_pos rfl]
      by_cases hl : i < σ.length
      · rw [if_pos hl, List.getElem?_eq_getElem hl]; rfl
      · rw [if_neg hl, List.getElem?_eq_none (by omega)]
    · rw [if_neg q]
  · have q : i ≠ j := fun z => by subst z; exact e h
    rw [if_neg e, if_neg e, List.getElem?_set_ne q]
theorem wipe_idem (σ : L2.St) (vs : List Nat) : wipe (wipe σ vs) vs = wipe σ vs := by
  apply List.ext_getElem?
  intro j
  rw [wipe_get, wipe_get]
  by_cases e : j ∈ vs
  · rw [if_pos e, if_pos e]
    cases σ[j]? <;> rfl
  · rw [if_neg e, if_neg e]
/-! ### targets -/
abbrev Tg := D → Env → Option Env
abbrev Tgs := List D → Env → Option Env
def gN (i : Nat) : Tg := fun d ρ => some (ρ.set i (.fz d))
def gE : Tgs := fun ds ρ => match ds with
  | [] => some ρ
  | _ => none
def gC (g : Tg) (gs : Tgs) : Tgs := fun ds ρ => match ds with
  | d :: r => (g d ρ).bind fun ρ' => gs r ρ'
  | [] => none
def gT (gs : Tgs) : Tg := fun d ρ => match d with
  | .tup ds => gs ds ρ
  | _ => none
structure Same' (is : List Nat) (os os' : List (Option Addr)) (σ σ' : L2.St) : Prop where
  wp : ∀ vs, (∀ i ∈ is, i ∈ vs) → wipe σ' vs = wipe σ vs
  oo : (∀ i ∈ is, ∀ a, os[i]? ≠ some (some a)) → os' = os
  le : ∀ a, some a ∈ os' → some a ∈ os
def tG (K : PySem.W.Frag) (is : List Nat) (g : Tg) : TG := fun v σ H Q => ∃ c os ρ μ d ρ', Rl K c os ρ μ σ H ∧ Rp K c.T (vw c os H) v d ∧ g d ρ = some ρ' ∧ ∀ os' σ', Rl K c os' ρ' μ σ' H → Same' is os os' σ σ' → Q σ' H
def tGs (K : PySem.W.Frag) (is : List Nat) (g : Tgs) : TGs := fun vs σ H Q => ∃ c os ρ μ ds ρ', Rl K c os ρ μ σ H ∧ RpA K c.T (vw c os H) vs ds ∧ g ds ρ = some ρ' ∧ ∀ os' σ', Rl K c os' ρ' μ σ' H → Same' is os os' σ σ' → Q σ' H
theorem Same'.refl (os : List (Option Addr)) (σ : L2.St) : Same' [] os os σ σ := ⟨fun _ _ => rfl, fun _ => rfl, fun _ h => h⟩
theorem Same'.trans {is js : List Nat} {os os1 os2 : List (Option Addr)} {σ σ1 σ2 : L2.St} (a : Same' is os os1 σ σ1) (b : Same' js os1 os2 σ1 σ2) : Same' (is ++ js) os os2 σ σ2 where
  wp := fun vs h => by rw [b.wp vs fun i hi => h i (List.mem_append_right _ hi), a.wp vs fun i hi => h i (List.mem_append_left _ hi)]
  oo := fun h => by
    have e1 := a.oo fun i hi => h i (List.mem_append_left _ hi)
    have e2 := b.oo fun i hi => by rw [e1]; exact h i (List.mem_append_right _ hi)
    rw [e2, e1]
  le := fun x h => a.le x (b.le x h)
theorem Same'.set {i : Nat} {os : List (Option Addr)} {σ : L2.St} {v : V} (hl : os.length = σ.length) : Same' [i] os (os.set i none) σ (σ.set i (some v)) where
  wp := fun vs h => wipe_set (h i (by simp))
  oo := fun h => by
    apply List.ext_getElem?
    intro j
    by_cases e : i = j
    · subst e
      rw [List.getElem?_set, if_pos rfl]
      by_cases hl : i < os.length
      · rw [if_pos hl, List.getElem?_eq_getElem hl]
        cases e2 : os[i] with
        | none => rfl
        | some a => exact absurd (by rw [List.getElem?_eq_getElem hl, e2]) (h i (by simp) a)
      · rw [if_neg hl, List.getElem?_eq_none (by omega)]
    · rw [List.getElem?_set_ne e]
  le := fun a h => mem_set_none h
theorem pg_imp {X : Cx} {e : Expr} {t t' : TG} (h : PG X e t) (i : ∀ v σ H Q, t' v σ H Q → t v σ H Q) : PG X e t' := ⟨fun pins s σ H v u Q I r q => h.run pins s σ H v u Q I r (i v σ H Q q)⟩
theorem pgs_imp {X : Cx} {e : List Expr} {t t' : TGs} (h : PGs X e t) (i : ∀ v σ H Q, t' v σ H Q → t v σ H Q) : PGs X e t' := ⟨fun pins s σ H v u Q I r q => h.run pins s σ H v u Q I r (i v σ H Q q)⟩
section
variable {X : Cx} {e : Expr} {es : List Expr} {is js : List Nat} {g : Tg} {gs : Tgs} {pos : Pos}
theorem kN {i : Nat} (h : PG X e (gName i)) : PG X e (tG X.K [i] (gN i)) := pg_imp h fun v σ H Q => by
  rintro ⟨c, os, ρ, μ, d, ρ', r, p, e, h⟩
  cases e
  exact h _ _ (r.set p) (.set r.lo)
theorem kE : PGs X [] (tGs X.K [] gE) := pgs_imp pgs_nil fun v σ H Q => by
  rintro ⟨c, os, ρ, μ, ds, ρ', r, p, e, h⟩
  cases ds with
  | nil => cases p; cases e; exact ⟨rfl, h _ _ r (.refl _ _)⟩
  | cons d ds => cases e
theorem kC (h1 : PG X e (tG X.K is g)) (h2 : PGs X es (tGs X.K js gs)) (h : PGs X (e :: es) (gCons (tG X.K is g) (tGs X.K js gs))) : PGs X (e :: es) (tGs X.K (is ++ js) (gC g gs)) := pgs_imp h fun v σ H Q => by
  rintro ⟨c, os, ρ, μ, ds, ρ', r, p, e, h⟩
  cases ds with
  | nil => cases e
  | cons d ds =>
    cases p with
    | cons q k =>
      obtain ⟨ρ1, e1, e2⟩ := Option.bind_eq_some_iff.mp (show (g d ρ).bind (fun ρ' => gs ds ρ') = some ρ' from e)
      refine ⟨_, _, rfl, c, os, ρ, μ, d, ρ1, r, q, e1, fun os1 σ1 r1 s1 => ?_⟩
      exact ⟨c, os1, ρ1, μ, ds, ρ', r1, k.mono (vw_os s1.le), e2, fun os2 σ2 r2 s2 => h os2 σ2 r2 (s1.trans s2)⟩
theorem gs_len : ∀ {n : Nat}, (∀ ds ρ ρ', gs ds ρ = some ρ' → ds.length = n) → ∀ {g : Tg}, ∀ ds ρ ρ', gC g gs ds ρ = some ρ' → ds.length = n + 1 := fun h g ds ρ ρ' e => by
  cases ds with
  | nil => cases e
  | cons d ds =>
    obtain ⟨ρ1, e1, e2⟩ := Option.bind_eq_some_iff.mp (show (g d ρ).bind (fun ρ' => gs ds ρ') = some ρ' from e)
    rw [List.length_cons, h _ _ _ e2]
theorem gE_len : ∀ ds ρ ρ', gE ds ρ = some ρ' → ds.length = 0 := fun ds ρ ρ' e => by
  cases ds with
  | nil => rfl
  | cons d ds => cases e
theorem kT {n : Nat} (h : PG X e (gTup X.K n (tGs X.K is gs))) (hn : ∀ ds ρ ρ', gs ds ρ = some ρ' → ds.length = n) : PG X e (tG X.K is (gT gs)) := pg_imp h fun v σ H Q => by
  rintro ⟨c, os, ρ, μ, d, ρ', r, p, e, h⟩
  unfold gT at e
  split at e
  · rename_i ds
    obtain ⟨a, vs, z, g1, g2⟩ := p.inv_tup
    subst z
    exact ⟨a, vs, rfl, vw_le.sqT g1, by rw [g2.length]; exact hn _ _ _ e, c, os, ρ, μ, ds, ρ', r, g2, e, h⟩
  · cases e
end
/-! ### what is walked -/
def Ct.hold (c : Ct) (G : Hp) : Ct := { c with He := fun b => (G b).or (c.He b) }
/-- a new pair's object -/
def PairO (o' : HO) (u v : V) (du dv : D) : Prop := (o' = .tup [u, v] ∧ isCh [du, dv] = false) ∨ ∃ o : Obj, o' = .frz o (.tup [u, v]) ∧ o.dict = none
def YD (K : PySem.W.Frag) (T : List Addr) (G : Hp) (ds : List D) : Nat → Hp → V → Hp → Prop := fun i H x H' => ∃ d, ds[i]? = some d ∧
  ((H' = H ∧ Rp K T G x d) ∨ ∃ p u v du dv o', x = .ref p ∧ H p = none ∧ H' = upd H p o' ∧ PairO o' u v du dv ∧ d = .tup [du, dv] ∧ Rp K T G u du ∧ Rp K T G v dv)
def tI (K : PySem.W.Frag) (cl : Nat → Addr) (W : WX) (f : XL) : TI := fun σ H R => ∃ c os ρ μ, Rl K c os ρ μ σ H ∧ Out (f ρ μ) (fun ds μ' => ∀ J H1, Rl K c os ρ μ' σ H1 → Kp c H H1 → (∃ Gp, (∀ H2, Exts (vw c os H1) H2 → Gp H2) ∧ Walk J ds.length Gp (YD K c.T (vw c os H1) ds)) → R J H1) (EOk K cl W c os ρ σ H)
theorem pi_imp {X : Cx} {tg e : Expr} {t t' : TI} (h : PI X tg e t) (i : ∀ σ H R, t' σ H R → t σ H R) : PI X tg e t' := ⟨fun pins s σ H R I q => h.run pins s σ H R I (i σ H R q)⟩
theorem pi_or {X : Cx} {tg e : Expr} {t t' : TI} (h : PI X tg e t) (h' : PI X tg e t') : PI X tg e (fun σ H R => t σ H R ∨ t' σ H R) := ⟨fun pins s σ H R I q => q.elim (h.run pins s σ H R I) (h'.run pins s σ H R I)⟩
section
variable {K : PySem.W.Frag} {c : Ct} {os : List (Option Addr)} {ρ : Env} {μ : Store} {σ : L2.St} {H H1 : Hp} {G : Hp}
theorem Rl.hold (r : Rl K c os ρ μ σ H) : Rl K (c.hold (vw c os H)) os ρ μ σ H where
  lo := r.lo
  lr := r.lr
  sl := r.sl
  inj := r.inj
  own := fun a h => by
    obtain ⟨h1, h2, h3⟩ := r.own a h
    refine ⟨h1, h2, ?_⟩
    show (vw c os H a).or (c.He a) = none
    have z : vw c os H a = none := by
      cases e : vw c os H a with
      | none => rfl
      | some o => exact absurd h (vw_some.mp e).2.2.2
    rw [z, h3]; rfl
  tA := r.tA
  tn := r.tn
  sm := r.sm
  st := r.st
  keep := fun b o h n => by
    have h' : (vw c os H b).or (c.He b) = some o := h
    cases e : vw c os H b with
    | none => rw [e] at h'; exact r.keep b o h' n
    | some u => rw [e] at h'; cases h'; exact (vw_some.mp e).1
  dom := r.dom
/-- what is held stood at H1 -/
theorem Rl.unhold (r : Rl K (c.hold G) os ρ μ σ H) (hk : ∀ b o, c.He b = some o → b ∉ c.T → (c.hold G).He b = some o) : Rl K c os ρ μ σ H where
  lo := r.lo
  lr := r.lr
  sl := r.sl
  inj := r.inj
  own := fun a h => by
    obtain ⟨h1, h2, h3⟩ := r.own a h
    refine ⟨h1, h2, ?_⟩
    have h3' : (G a).or (c.He a) = none := h3
    cases e : G a with
    | none => rw [e] at h3'; exact h3'
    | some u => rw [e] at h3'; cases h3'
  tA := r.tA
  tn := r.tn
  sm := r.sm
  st := r.st
  keep := fun b o h n => r.keep b o (hk b o h n) n
  dom := r.dom
theorem Rl.holds (r : Rl K c os ρ μ σ H) : ∀ b o, c.He b = some o → b ∉ c.T → (c.hold (vw c os H)).He b = some o := fun b o h n => by
  show (vw c os H b).or (c.He b) = some o
  cases e : vw c os H b with
  | none => exact h
  | some u =>
    have := r.keep b o h n
    rw [(vw_some.mp e).1] at this
    exact this
theorem Fr.unhold {a : Addr} {d : D} (f : Fr K (c.hold G) os ρ μ σ H a d) (hk : ∀ b o, c.He b = some o → b ∉ c.T → (c.hold G).He b = some o) : Fr K c os ρ μ σ H a d where
  rl := Rl.unhold (c := c.av a) (G := G) f.rl hk
  ow := f.ow
  nA := f.nA
  nT := f.nT
  no := f.no
  he := by
    have h3' : (G a).or (c.He a) = none := f.he
    cases e : G a with
    | none => rw [e] at h3'; exact h3'
    | some u => rw [e] at h3'; cases h3'
theorem SOut.hold {cl : Nat → Addr} {W : WX} {fr : Bool} {E : Ends} {r : SRes} (h : SOut K cl W fr c E r) (hk : ∀ b o, c.He b = some o → b ∉ c.T → (c.hold G).He b = some o) : SOut K cl W fr (c.hold G) E r := by
  cases r with
  | nx ρ μ => exact fun os σ H r => h os σ H (r.unhold hk)
  | bk ρ μ => exact fun os σ H r => h os σ H (r.unhold hk)
  | ct ρ μ => exact fun os σ H r => h os σ H (r.unhold hk)
  | rt d μ =>
    cases fr with
    | false => exact fun v os ρ σ H r p => h v os ρ σ H (r.unhold hk) p
    | true => exact fun a os ρ σ H f => h a os ρ σ H (f.unhold hk)
  | exc x ρ μ => exact fun e dx os σ H r ex => h e dx os σ H (r.unhold hk) ex
  | fail => exact h
/-- what is held is seen -/
theorem Rl.sees (r : Rl K (c.hold G) os ρ μ σ H) (hG : ∀ b o, G b = some o → b ∉ c.T ∧ ¬ c.A b) : Exts G (vw c os H) :=
  Rl.seesOld (c := c.hold G) r (fun b o h => by
    show (G b).or (c.He b) = some o
    rw [h]; rfl) hG
end
/-! ### for -/
def sForL (g : Tg) (F : SD) : List D → SD
  | [] => sNext
  | d :: ds => fun ρ μ => match g d ρ with
    | none => .fail
    | some ρ1 => match F ρ1 μ with
      | .nx ρ' μ' => sForL g F ds ρ' μ'
      | .ct ρ' μ' => sForL g F ds ρ' μ'
      | .bk ρ' μ' => .nx ρ' μ'
      | r => r
def sFor (f : XL) (g : Tg) (F : SD) : SD := fun ρ μ => (f ρ μ).st ρ fun ds μ' => sForL g F ds ρ μ'
theorem YD.rp {K : PySem.W.Frag} {c : Ct} {os os0 : List (Option Addr)} {ρ : Env} {μ : Store} {σ : L2.St} {H0 H H' : Hp} {ds : List D} {i : Nat} {x : V} (y : YD K c.T (vw c os0 H0) ds i H x H') (r : Rl K (c.hold (vw c os0 H0)) os ρ μ σ H) :
    ∃ d, ds[i]? = some d ∧ Rl K (c.hold (vw c os0 H0)) os ρ μ σ H' ∧ Rp K c.T (vw c os H') x d ∧ Kp c H H' := by
  have hG : ∀ b o, vw c os0 H0 b = some o → b ∉ c.T ∧ ¬ c.A b := fun b o h => ⟨(vw_some.mp h).2.2.1, (vw_some.mp h).2.1⟩
  obtain ⟨d, e, y⟩ := y
  have s := r.sees hG
  rcases y with ⟨rfl, p⟩ | ⟨p, u, v, du, dv, o', rfl, n, rfl, po, rfl, pu, pv⟩
  · exact ⟨d, e, r, p.mono s, Kp.refl _ _⟩
  · have q := r.new (o := o') n
    have sn := Rl.seen (c := c.hold (vw c os0 H0)) (o := o') r n
    have pp : RpA K c.T (vw c os (upd H p o')) [u, v] [du, dv] := .cons ((pu.mono s).mono (vw_mono (Exts.new n))) (.cons ((pv.mono s).mono (vw_mono (Exts.new n))) .nil)
    refine ⟨_, e, q, ?_, Kp.new n⟩
    rcases po with ⟨rfl, hc⟩ | ⟨o, rfl, hd⟩
    · exact .tup (.inl (.inl sn)) pp (.no hc)
    · exact .tup (.inl (.inr ⟨o, sn⟩)) pp fun _ => ⟨o, sn, hd⟩
section
variable {X : Cx} {cl : Nat → Addr} {W : WX} {fr : Bool} {f : XL} {g : Tg} {F : SD} {s0 : Stmt} {is : List Nat}
theorem hFor (h : PS X s0 (tFor (tI X.K cl W f) (tG X.K is g) (tS X.K cl W fr F))) : PS X s0 (tS X.K cl W fr (sFor f g F)) := ps_imp h fun E σ H => by
  rintro ⟨c, os, ρ, μ, r, h⟩
  refine ⟨c, os, ρ, μ, r, (SOut.st h).imp (fun ds μ1 h1 => ?_) fun _ _ q => q⟩
  intro J H1 r1 e1 ⟨Gp, hGp, w⟩
  have hk := r1.holds
  have r1h := r1.hold
  have hG : ∀ b o, vw c os H1 b = some o → b ∉ c.T ∧ ¬ c.A b := fun b o h => ⟨(vw_some.mp h).2.2.1, (vw_some.mp h).2.1⟩
  refine for_it w (fun i σ H => ∃ os' ρ μ, Rl X.K (c.hold (vw c os H1)) os' ρ μ σ H ∧ SOut X.K cl W fr (c.hold (vw c os H1)) E (sForL g F (ds.drop i) ρ μ)) ⟨os, ρ, μ1, r1h, SOut.hold h1 hk⟩ ?_ ?_ ?_
  · rintro i σ H _ ⟨os', ρ, μ, r, _⟩
    exact hGp _ ((r.sees hG).trans vw_le)
  · rintro i x σ H H' hi ⟨os', ρ, μ, r, h⟩ y
    obtain ⟨d, e, r', p, k⟩ := y.rp r
    have hd : ds.drop i = d :: ds.drop (i + 1) := by
      obtain ⟨hl, e'⟩ := List.getElem?_eq_some_iff.mp e
      rw [← e']
      exact List.drop_eq_getElem_cons hl
    rw [hd] at h
    unfold sForL at h
    cases eg : g d ρ with
    | none => rw [eg] at h; exact h.elim
    | some ρ1 =>
      rw [eg] at h
      refine ⟨c.hold (vw c os H1), os', ρ, μ, d, ρ1, r', p, eg, fun os2 σ2 r2 s2 => ?_⟩
      refine ⟨c.hold (vw c os H1), os2, ρ1, μ, r2, ?_⟩
      have h' : SOut X.K cl W fr (c.hold (vw c os H1)) E (match F ρ1 μ with
        | .nx ρ' μ' => sForL g F (ds.drop (i + 1)) ρ' μ'
        | .ct ρ' μ' => sForL g F (ds.drop (i + 1)) ρ' μ'
        | .bk ρ' μ' => .nx ρ' μ'
        | r => r) := h
      cases eF : F ρ1 μ with
      | nx ρ' μ' => rw [eF] at h'; exact fun os' σ' H' r' => ⟨os', ρ', μ', r', h'⟩
      | ct ρ' μ' => rw [eF] at h'; exact fun os' σ' H' r' => ⟨os', ρ', μ', r', h'⟩
      | bk ρ' μ' => rw [eF] at h'; exact h'
      | rt d μ' => rw [eF] at h'; exact h'
      | exc x ρ' μ' => rw [eF] at h'; exact h'
      | fail => rw [eF] at h'; exact h'
  · rintro σ H ⟨os', ρ, μ, r, h⟩
    rw [List.drop_length] at h
    exact h os' σ H r
end
end DC
set_option Elab.async false
set_option linter.all false
set_option maxRecDepth 100000
set_option maxHeartbeats 2000000
/-! DC: comprehensions, several values at once, sources of walks, cells, defs. -/
namespace DC
open PySem PySem.Spec PyProof.Rows L2
section
variable {K : PySem.W.Frag} {c : Ct} {os os2 : List (Option Addr)} {ρ ρ2 : Env} {μ μ' : Store} {σ σ2 : L2.St} {H H' : Hp} {a : Addr} {o : HO}
theorem Rl.keepX (r : Rl K c os ρ μ σ H) (q : Rl K c os2 ρ2 μ' σ2 H') (k : Kp c H H') : Rl K c os ρ μ' σ H' where
  lo := r.lo
  lr := r.lr
  sl := fun j o s x h1 h2 h3 => by
    have z := r.sl j o s x h1 h2 h3
    have hm : ∀ b, o = some b → b ∉ c.T := fun b eb => (r.own b (by rw [← eb]; exact List.mem_of_getElem? h1)).1
    unfold SlAt at z ⊢
    split at z
    · trivial
    · exact z.mono k.vw
    · exact ⟨z.1, z.2.mono k.vw (fun o h => k _ _ h (hm _ rfl))⟩
    · exact z.elim
  inj := r.inj
  own := r.own
  tA := r.tA
  tn := r.tn
  sm := q.sm
  st := q.st
  keep := fun b o h1 h2 => k b o (r.keep b o h1 h2) h2
  dom := fun b h => by
    obtain ⟨o, z, nu⟩ := r.dom b h
    exact ⟨o, k b o z fun y => r.tA b y h, nu⟩
theorem vw_updA (ha : c.A a) : vw c os (upd H a o) = vw c os H := by
  funext b
  unfold vw
  by_cases hb : (c.A b ∨ b ∈ c.T ∨ some b ∈ os)
  · rw [if_pos hb, if_pos hb]
  · rw [if_neg hb, if_neg hb, upd_ne]
    rintro rfl
    exact hb (.inl ha)
theorem Rl.updA (r : Rl K c os ρ μ σ H) (ha : c.A a) (he : c.He a = none) (nt : NoT o := by intro _ q; cases q) : Rl K c os ρ μ σ (upd H a o) where
  lo := r.lo
  lr := r.lr
  sl := fun j u s x h1 h2 h3 => by
    have z := r.sl j u s x h1 h2 h3
    have hm : ∀ b, u = some b → b ≠ a := fun b eb q => (r.own b (by rw [← eb]; exact List.mem_of_getElem? h1)).2.1 (by rw [q]; exact ha)
    rw [vw_updA ha]
    unfold SlAt at z ⊢
    split at z
    · trivial
    · exact z
    · exact ⟨z.1, z.2.mono (Exts.refl _) (fun w h => by rw [upd_ne (hm _ rfl)]; exact h)⟩
    · exact z.elim
  inj := r.inj
  own := r.own
  tA := r.tA
  tn := r.tn
  sm := r.sm
  st := fun n b ds h1 h2 => by
    have nb : b ≠ a := fun q => r.tA b (List.mem_of_getElem? h1) (by rw [q]; exact ha)
    rw [upd_ne nb]
    exact r.st n b ds h1 h2
  keep := fun b u h1 h2 => by
    have nb : b ≠ a := fun q => by subst q; rw [he] at h1; cases h1
    rw [upd_ne nb]
    exact r.keep b u h1 h2
  dom := fun b h => by
    by_cases e : b = a
    · subst e; exact ⟨o, upd_same, nt⟩
    · obtain ⟨u, z, nu⟩ := r.dom b h
      exact ⟨u, by rw [upd_ne e]; exact z, nu⟩
/-- the slots at vs forgotten (none of them an own container) -/
def wipeE (ρ : Env) : List Nat → Env
  | [] => ρ
  | v :: vs => (wipeE ρ vs).set v .no
def vsOk (ρ : Env) (vs : List Nat) : Bool := vs.all fun v => match ρ[v]? with
  | some (.ow _) => false
  | _ => true
theorem Rl.noOwn (r : Rl K c os ρ μ σ H) {i : Nat} (h : ∀ d, ρ[i]? ≠ some (.ow d)) : ∀ a, os[i]? ≠ some (some a) := fun a h1 => by
  have hlt : i < os.length := (List.getElem?_eq_some_iff.mp h1).1
  have h2 : i < ρ.length := by rw [r.lr, ← r.lo]; exact hlt
  have h3 : i < σ.length := by rw [← r.lo]; exact hlt
  have q := r.sl i _ _ _ h1 (List.getElem?_eq_getElem h2) (List.getElem?_eq_getElem h3)
  cases e1 : ρ[i] with
  | no => rw [e1] at q; cases e2 : σ[i] <;> rw [e2] at q <;> simp [SlAt] at q
  | fz d => rw [e1] at q; cases e2 : σ[i] <;> rw [e2] at q <;> simp [SlAt] at q
  | ow d => exact h d (by rw [List.getElem?_eq_getElem h2, e1])
theorem vsOk_no {ρ : Env} {vs : List Nat} (h : vsOk ρ vs = true) {i : Nat} (hi : i ∈ vs) : ∀ d, ρ[i]? ≠ some (.ow d) := fun d e => by
  have := List.all_eq_true.mp h i hi
  rw [e] at this
  cases this
theorem set_none_eq {os : List (Option Addr)} {i : Nat} (h : ∀ a, os[i]? ≠ some (some a)) : os.set i none = os := by
  apply List.ext_getElem?
  intro j
  by_cases e : i = j
  · subst e
    rw [List.getElem?_set, if_pos rfl]
    by_cases hl : i < os.length
    · rw [if_pos hl, List.getElem?_eq_getElem hl]
      cases e2 : os[i] with
      | none => rfl
      | some a => exact absurd (by rw [List.getElem?_eq_getElem hl, e2]) (h a)
    · rw [if_neg hl, List.getElem?_eq_none (by omega)]
  · rw [List.getElem?_set_ne e]
theorem Rl.wipe (r : Rl K c os ρ μ σ H) : ∀ vs : List Nat, vsOk ρ vs = true → Rl K c os (wipeE ρ vs) μ (L2.wipe σ vs) H
  | [], _ => r
  | v :: vs, h => by
    unfold vsOk at h
    rw [List.all_cons, Bool.and_eq_true] at h
    have q := (Rl.wipe r vs h.2).drop (i := v) none
    have nv : ∀ a, os[v]? ≠ some (some a) := r.noOwn (vsOk_no (vs := [v]) (by unfold vsOk; rw [List.all_cons, h.1]; rfl) (by simp))
    rw [set_none_eq nv] at q
    exact q
end
/-! ### comprehensions -/
def bTrue : XB := fun _ μ => .ok true μ
def lcL (g : Tg) (t : XB) (e : XD) (ρw : Env) : List D → Store → Res (List D)
  | [], μ => .ok [] μ
  | d :: ds, μ => match g d ρw with
    | none => .fail
    | some ρ2 => match t ρ2 μ with
      | .ok true μ1 => (match e ρ2 μ1 with
        | .ok y μ2 => (match lcL g t e ρw ds μ2 with
          | .ok ys μ3 => .ok (y :: ys) μ3
          | _ => .fail)
        | _ => .fail)
      | .ok false μ1 => lcL g t e ρw ds μ1
      | _ => .fail
def xLc (f : XL) (g : Tg) (t : XB) (e : XD) (vs : List Nat) : XD := fun ρ μ => (f ρ μ).bind fun ds μ1 => if vsOk ρ vs && lenOk ds then (match lcL g t e (wipeE ρ vs) ds μ1 with
    | .ok ys μ2 => .ok (.lst ys) μ2
    | _ => .fail) else .fail
theorem YD.rp' {K : PySem.W.Frag} {c : Ct} {os : List (Option Addr)} {ρ : Env} {μ : Store} {σ : L2.St} {G H H' : Hp} {ds : List D} {i : Nat} {x : V} (hG : ∀ b o, G b = some o → b ∉ c.T ∧ ¬ c.A b) (y : YD K c.T G ds i H x H') (r : Rl K (c.hold G) os ρ μ σ H) :
    ∃ d, ds[i]? = some d ∧ Rl K (c.hold G) os ρ μ σ H' ∧ Rp K c.T (vw c os H') x d ∧ Kp c H H' := by
  obtain ⟨d, e, y⟩ := y
  have s := r.sees hG
  rcases y with ⟨rfl, p⟩ | ⟨p, u, v, du, dv, o', rfl, n, rfl, po, rfl, pu, pv⟩
  · exact ⟨d, e, r, p.mono s, Kp.refl _ _⟩
  · have q := r.new (o := o') n
    have sn := Rl.seen (c := c.hold G) (o := o') r n
    have pp : RpA K c.T (vw c os (upd H p o')) [u, v] [du, dv] := .cons ((pu.mono s).mono (vw_mono (Exts.new n))) (.cons ((pv.mono s).mono (vw_mono (Exts.new n))) .nil)
    refine ⟨_, e, q, ?_, Kp.new n⟩
    rcases po with ⟨rfl, hc⟩ | ⟨o, rfl, hd⟩
    · exact .tup (.inl (.inl sn)) pp (.no hc)
    · exact .tup (.inl (.inr ⟨o, sn⟩)) pp fun _ => ⟨o, sn, hd⟩
abbrev W0 : WX := fun _ _ _ _ => False
theorem pts_imp {X : Cx} {e : List Expr} {t t' : TT} (h : PTs X e t) (i : ∀ σ H Q, t' σ H Q → t σ H Q) : PTs X e t' := ⟨fun pins s σ H Q I q => h.run pins s σ H Q I (i σ H Q q)⟩
section
variable {X : Cx} {cl : Nat → Addr} {W : WX} {f : XL} {g : Tg} {t : XB} {fe : XD} {is vs : List Nat} {e : Expr}
theorem bNilT : PTs X [] (tT X.K cl W bTrue) := pts_imp pts_nil fun σ H Q => by
  rintro ⟨c, os, ρ, μ, r, h⟩
  exact h H r (Kp.refl _ _)
theorem lc_imp (hv : ∀ i ∈ is, i ∈ vs) (σ : L2.St) (H : Hp) (Q : VK) (h : tF X.K cl W (xLc f g t fe vs) σ H Q) : tLc (tI X.K cl W f) (tG X.K is g) (tT X.K cl W0 t) (tE X.K cl W0 fe) vs σ H Q := by
  obtain ⟨c, os, ρ, μ, r, h⟩ := h
  refine ⟨c, os, ρ, μ, r, (Out.bind h).imp (fun ds μ1 h1 => ?_) fun _ _ q => q⟩
  intro J H1 r1 e1 ⟨Gp, hGp, w⟩
  by_cases hok : (vsOk ρ vs && lenOk ds) = true
  · rw [if_pos hok] at h1
    rw [Bool.and_eq_true] at hok
    obtain ⟨hvs, hlen⟩ := hok
    cases eR : lcL g t fe (wipeE ρ vs) ds μ1 with
    | fail => rw [eR] at h1; exact h1.elim
    | exc x m => rw [eR] at h1; exact h1.elim
    | ok ys μf =>
      rw [eR] at h1
      intro Dl nD
      have hG : ∀ b o, vw c os H1 b = some o → b ∉ c.T ∧ ¬ (c.av Dl).A b := fun b o h => by
        obtain ⟨g1, g2, g3, g4⟩ := vw_some.mp h
        exact ⟨g3, fun z => z.elim g2 fun y => ne_of_none g1 nD y⟩
      obtain ⟨f1, f2, f3, f4⟩ := r1.fresh nD
      -- the state at the start
      have r1h : Rl X.K ((c.av Dl).hold (vw c os H1)) os ρ μ1 σ (upd H1 Dl (.lst [])) := ((Rl.hold r1).av (c := c.hold (vw c os H1)) (o := .lst []) nD).1
      have heD : ((c.av Dl).hold (vw c os H1)).He Dl = none := by
        show (vw c os H1 Dl).or (c.He Dl) = none
        cases e : vw c os H1 Dl with
        | none => exact f4
        | some u => rw [(vw_some.mp e).1] at nD; cases nD
      refine lc_it w (fun i H => ∃ μi acc da rest, Rl X.K ((c.av Dl).hold (vw c os H1)) os ρ μi σ H ∧ Kp c H1 H ∧ H Dl = some (.lst acc) ∧ RpA X.K c.T (vw (c.av Dl) os H) acc da ∧ da.length ≤ i ∧ lcL g t fe (wipeE ρ vs) (ds.drop i) μi = .ok rest μf ∧ da ++ rest = ys)
        ⟨μ1, [], [], ys, r1h, Kp.new nD, upd_same, .nil, Nat.le_refl _, eR, rfl⟩ ?_ ?_ ?_
      · rintro i H _ ⟨μi, acc, da, rest, r, _⟩
        exact hGp _ ((Rl.sees (c := c.av Dl) r hG).trans vw_le)
      · rintro i x H H' hi ⟨μi, acc, da, rest, r, k, hD, pa, hl, eL, eq⟩ y
        obtain ⟨d, ed, r', p, k'⟩ := YD.rp' (c := c.av Dl) hG y r
        have hd : ds.drop i = d :: ds.drop (i + 1) := by
          obtain ⟨hl, e'⟩ := List.getElem?_eq_some_iff.mp ed
          rw [← e']
          exact List.drop_eq_getElem_cons hl
        have hsz : da.length < sizeLine := by
          have z : ds.length ≤ 1000000 := Nat.le_of_ble_eq_true hlen
          rw [sizeLine_eq]; omega
        rw [hd] at eL
        unfold lcL at eL
        cases eg : g d (wipeE ρ vs) with
        | none => rw [eg] at eL; cases eL
        | some ρ2 =>
          rw [eg] at eL
          refine ⟨_, os, wipeE ρ vs, μi, d, ρ2, r'.wipe vs hvs, p, eg, fun os2 σ2 r2 s2 => ⟨by rw [s2.wp vs hv, wipe_idem], ?_⟩⟩
          have eos : os2 = os := s2.oo fun i hi => r.noOwn (vsOk_no hvs (hv i hi))
          subst eos
          refine ⟨_, os2, ρ2, μi, r2, ?_⟩
          have eL' : (match t ρ2 μi with
            | .ok true μ1 => (match fe ρ2 μ1 with
              | .ok y μ2 => (match lcL g t fe (wipeE ρ vs) (ds.drop (i + 1)) μ2 with
                | .ok ys μ3 => .ok (y :: ys) μ3
                | _ => .fail)
              | _ => .fail)
            | .ok false μ1 => lcL g t fe (wipeE ρ vs) (ds.drop (i + 1)) μ1
            | _ => .fail) = Res.ok rest μf := eL
          cases et : t ρ2 μi with
          | fail => rw [et] at eL'; cases eL'
          | exc x m => rw [et] at eL'; cases eL'
          | ok b μ2 =>
            rw [et] at eL'
            intro H3 r3 k3
            have kk : Kp c H H3 := k'.trans k3
            have r3' := r.keepX r3 (H' := H3) kk
            have hD3 : H3 Dl = some (.lst acc) := kk _ _ hD f2
            have pa3 : RpA X.K c.T (vw (c.av Dl) os2 H3) acc da := pa.mono (Kp.vw (c := c.av Dl) kk)
            cases b with
            | false =>
              rw [if_neg Bool.false_ne_true]
              exact ⟨μ2, acc, da, rest, r3', k.trans kk, hD3, pa3, by omega, eL', eq⟩
            | true =>
              rw [if_pos rfl]
              refine ⟨_, os2, ρ2, μ2, r3, ?_⟩
              have eL2 : (match fe ρ2 μ2 with
                | .ok y μ2 => (match lcL g t fe (wipeE ρ vs) (ds.drop (i + 1)) μ2 with
                  | .ok ys μ3 => .ok (y :: ys) μ3
                  | _ => .fail)
                | _ => .fail) = Res.ok rest μf := eL'
              cases ee : fe ρ2 μ2 with
              | fail => rw [ee] at eL2; cases eL2
              | exc x m => rw [ee] at eL2; cases eL2
              | ok dy μ3 =>
                rw [ee] at eL2
                intro vy H4 r4 k4 p4
                have eL3 : (match lcL g t fe (wipeE ρ vs) (ds.drop (i + 1)) μ3 with
                  | .ok ys μ3 => .ok (dy :: ys) μ3
                  | _ => .fail) = Res.ok rest μf := eL2
                cases er : lcL g t fe (wipeE ρ vs) (ds.drop (i + 1)) μ3 with
                | fail => rw [er] at eL3; cases eL3
                | exc x m => rw [er] at eL3; cases eL3
                | ok zs μ4 =>
                  rw [er] at eL3
                  cases eL3
                  have r4' := r3'.keepX r4 (H' := H4) k4
                  have hD4 : H4 Dl = some (.lst acc) := k4 _ _ hD3 f2
                  have hA : ((c.av Dl).hold (vw c os2 H1)).A Dl := .inr rfl
                  refine ⟨acc, hD4, by rw [pa.length]; exact hsz, μ3, acc ++ [vy], da ++ [dy], zs, r4'.updA hA heD, ?_, upd_same, ?_, ?_, er, ?_⟩
                  · exact fun b o h n => by
                      rw [upd_ne (ne_of_none h nD)]
                      exact k4 b o (kk b o (k b o h n) n) n
                  · rw [vw_updA (c := c.av Dl) (.inr rfl)]
                    exact (pa3.mono (Kp.vw (c := c.av Dl) k4)).append (.cons p4 .nil)
                  · rw [List.length_append]; simp; omega
                  · rw [List.append_assoc]; exact eq
      · rintro H ⟨μi, acc, da, rest, r, k, hD, pa, hl, eL, eq⟩
        rw [List.drop_length] at eL
        cases eL
        rw [List.append_nil] at eq
        subst eq
        have hk : ∀ b o, (c.av Dl).He b = some o → b ∉ (c.av Dl).T → ((c.av Dl).hold (vw c os H1)).He b = some o := r1.holds
        exact h1 Dl H ⟨Rl.unhold (c := c.av Dl) r hk, .lst hD pa, f1, f2, f3, f4⟩ (e1.trans k) (e1.nn nD f2)
  · rw [if_neg hok] at h1
    exact h1.elim
theorem dLc (h : PE X e (tLc (tI X.K cl W f) (tG X.K is g) (tT X.K cl W0 t) (tE X.K cl W0 fe) vs)) (hv : ∀ i ∈ is, i ∈ vs := by decide) : PE X e (tF X.K cl W (xLc f g t fe vs)) := pe_imp h (lc_imp hv)
end
end DC
set_option Elab.async false
set_option linter.all false
set_option maxRecDepth 100000
set_option maxHeartbeats 2000000
/-! DC: several values at once, sources of walks, cells, defs. -/
namespace DC
open PySem PySem.Spec PyProof.Rows L2
/-! ### several values at once, some of them new containers -/
def Ct.avs (c : Ct) (fa : List Addr) : Ct := { c with A := fun b => c.A b ∨ b ∈ fa }
theorem avs_nil (c : Ct) : c.avs [] = c := by
  cases c
  unfold Ct.avs
  congr 1
  funext b
  simp
theorem avs_cons (c : Ct) (a : Addr) (fa : List Addr) : (c.av a).avs fa = c.avs (a :: fa) := by
  cases c
  unfold Ct.avs Ct.av
  congr 1
  funext b
  simp [or_assoc]
/-- a flagged list of values: (true, d) is a new container -/
inductive MA (K : PySem.W.Frag) (T : List Addr) (Hv H : Hp) : List Addr → List V → List (Bool × D) → Prop
  | nil : MA K T Hv H [] [] []
  | val {fa : List Addr} {v : V} {vs : List V} {d : D} {ds : List (Bool × D)} : Rp K T Hv v d → MA K T Hv H fa vs ds → MA K T Hv H fa (v :: vs) ((false, d) :: ds)
  | new {fa : List Addr} {a : Addr} {vs : List V} {d : D} {ds : List (Bool × D)} : OwAt K T Hv H a d → MA K T Hv H fa vs ds → MA K T Hv H (a :: fa) (.ref a :: vs) ((true, d) :: ds)
theorem MA.mono {K : PySem.W.Frag} {T : List Addr} {Hv Hv' H H' : Hp} (e : Exts Hv Hv') : ∀ {fa : List Addr} {vs : List V} {ds : List (Bool × D)}, (∀ a ∈ fa, ∀ o, H a = some o → H' a = some o) → MA K T Hv H fa vs ds → MA K T Hv' H' fa vs ds
  | _, _, _, _, .nil => .nil
  | _, _, _, k, .val p r => .val (p.mono e) (MA.mono e k r)
  | _, _, _, k, .new p r => .new (p.mono e (k _ (by simp))) (MA.mono e (fun a h => k a (List.mem_cons_of_mem _ h)) r)
theorem MA.length {K : PySem.W.Frag} {T : List Addr} {Hv H : Hp} : ∀ {fa : List Addr} {vs : List V} {ds : List (Bool × D)}, MA K T Hv H fa vs ds → vs.length = ds.length
  | _, _, _, .nil => rfl
  | _, _, _, .val _ r => by rw [List.length_cons, List.length_cons, r.length]
  | _, _, _, .new _ r => by rw [List.length_cons, List.length_cons, r.length]
structure Mr (K : PySem.W.Frag) (c : Ct) (os : List (Option Addr)) (ρ : Env) (μ : Store) (σ : L2.St) (Hs H : Hp) (fa : List Addr) (vs : List V) (ds : List (Bool × D)) : Prop where
  rl : Rl K (c.avs fa) os ρ μ σ H
  ma : MA K c.T (vw (c.avs fa) os H) H fa vs ds
  nd : fa.Nodup
  fr : ∀ a ∈ fa, Hs a = none ∧ ¬ c.A a ∧ a ∉ c.T ∧ some a ∉ os ∧ c.He a = none
abbrev XM := Env → Store → Res (List (Bool × D))
def tM (K : PySem.W.Frag) (cl : Nat → Addr) (W : WX) (f : XM) : TA := fun σ H Q => ∃ c os ρ μ, Rl K c os ρ μ σ H ∧ Out (f ρ μ) (fun ds μ' => ∀ fa vs H', Mr K c os ρ μ' σ H H' fa vs ds → Kp c H H' → Q vs H') (EOk K cl W c os ρ σ H)
def mNil : XM := fun _ μ => .ok [] μ
def mVal (f : XD) (fs : XM) : XM := fun ρ μ => (f ρ μ).bind fun d μ1 => (fs ρ μ1).bind fun ds μ2 => .ok ((false, d) :: ds) μ2
def mNew (f : XD) (fs : XM) : XM := fun ρ μ => (f ρ μ).bind fun d μ1 => (fs ρ μ1).bind fun ds μ2 => .ok ((true, d) :: ds) μ2
section
variable {X : Cx} {cl : Nat → Addr} {W : WX} {e : Expr} {es : List Expr} {f : XD} {fs : XM}
theorem jNil : PA X [] (tM X.K cl W mNil) := pa_imp pa_nil fun σ H Q => by
  rintro ⟨c, os, ρ, μ, r, h⟩
  exact h [] [] H ⟨by rw [avs_nil]; exact r, .nil, List.nodup_nil, fun a h => by cases h⟩ (Kp.refl _ _)
theorem jVal (ha : PE X e (tE X.K cl W f)) (hr : PA X es (tM X.K cl W fs)) (hs : starEach (e :: es) X.env = (false, eval e X.env) :: starEach es X.env := by rfl) : PA X (e :: es) (tM X.K cl W (mVal f fs)) := pa_imp (pa_cons ha hr hs) fun σ H Q => by
  rintro ⟨c, os, ρ, μ, r, h⟩
  refine ⟨c, os, ρ, μ, r, (Out.bind h).imp (fun d1 μ1 h1 => ?_) fun _ _ q => q⟩
  intro v1 H1 r1 e1 p1
  refine ⟨c, os, ρ, μ1, r1, (Out.bind h1).imp (fun ds μ2 h2 => ?_) fun _ _ q => q.mono e1⟩
  intro fa vs H2 m k
  refine h2 fa _ H2 ⟨m.rl, .val (p1.mono ?_) m.ma, m.nd, fun a ha => ?_⟩ (e1.trans k)
  · intro b o hb
    obtain ⟨g1, g2, g3, g4⟩ := vw_some.mp hb
    exact vw_some.mpr ⟨k b o g1 g3, fun z => z.elim g2 (fun y => by rw [(m.fr b y).1] at g1; cases g1), g3, g4⟩
  · obtain ⟨q1, q2, q3, q4, q5⟩ := m.fr a ha
    refine ⟨?_, q2, q3, q4, q5⟩
    cases eh : H a with
    | none => rfl
    | some o => rw [e1 a o eh q3] at q1; cases q1
theorem EOk.av {K : PySem.W.Frag} {c : Ct} {os : List (Option Addr)} {ρ : Env} {μ : Store} {σ : L2.St} {H : Hp} {x : Exn} {a : Addr} (h : EOk K cl W c os ρ σ H x μ) (hp : x.pay = none) (h1 : ¬ c.A a) (h2 : a ∉ c.T) (h3 : some a ∉ os) (h4 : c.He a = none) : EOk K cl W (c.av a) os ρ σ H x μ := fun e dx H' q k ex =>
  h e dx H' (q.move rfl vw_av (fun _ _ _ h => h) (fun _ _ _ h => h) (fun b hb => ⟨fun z => (q.own b hb).2.1 (.inl z), (q.own b hb).2.2⟩) (fun b hb z => q.tA b hb (.inl z)) q.keep (fun b hb => q.dom b (.inl hb))) k (by
    unfold ExAt at ex ⊢
    rw [hp] at ex ⊢
    exact ex)
theorem jNew (ha : PE X e (tF X.K cl W f)) (hr : PA X es (tM X.K cl W fs)) (hp : Plain fs) (hs : starEach (e :: es) X.env = (false, eval e X.env) :: starEach es X.env := by rfl) : PA X (e :: es) (tM X.K cl W (mNew f fs)) := pa_imp (pa_cons ha hr hs) fun σ H Q => by
  rintro ⟨c, os, ρ, μ, r, h⟩
  refine ⟨c, os, ρ, μ, r, (Out.bind h).imp (fun d1 μ1 h1 => ?_) fun _ _ q => q⟩
  intro a H1 f1 e1 nH
  have h1' := Out.bind h1
  refine ⟨c.av a, os, ρ, μ1, f1.rl, ?_⟩
  cases eF : fs ρ μ1 with
  | fail => rw [eF] at h1'; exact h1'
  | exc x μ2 => rw [eF] at h1'; exact EOk.av (EOk.mono e1 h1') (hp _ _ _ _ eF) f1.nA f1.nT f1.no f1.he
  | ok ds μ2 =>
    rw [eF] at h1'
    intro fa vs H2 m k
    have ha : ∀ b ∈ fa, b ≠ a := fun b hb z => (m.fr b hb).2.1 (.inr z)
    obtain ⟨o, ho⟩ := f1.ow.there
    refine h1' (a :: fa) _ H2 ⟨by rw [← avs_cons]; exact m.rl, ?_, List.nodup_cons.mpr ⟨fun z => ha a z rfl, m.nd⟩, fun b hb => ?_⟩ (e1.trans k)
    · rw [← avs_cons]
      refine .new (f1.ow.mono ?_ fun o h => k a o h f1.nT) m.ma
      intro b o hb
      obtain ⟨g1, g2, g3, g4⟩ := vw_some.mp hb
      exact vw_some.mpr ⟨k b o g1 g3, fun z => z.elim g2 (fun y => by rw [(m.fr b y).1] at g1; cases g1), g3, g4⟩
    · rcases List.mem_cons.mp hb with z | z
      · subst z
        exact ⟨nH, f1.nA, f1.nT, f1.no, f1.he⟩
      · obtain ⟨q1, q2, q3, q4, q5⟩ := m.fr b z
        refine ⟨?_, fun y => q2 (.inl y), q3, q4, q5⟩
        cases eh : H b with
        | none => rfl
        | some o => rw [e1 b o eh q3] at q1; cases q1
end
end DC
set_option Elab.async false
set_option linter.all false
set_option maxRecDepth 100000
set_option maxHeartbeats 2000000
/-! DC: several values stored, sources of walks, cells, defs. -/
namespace DC
open PySem PySem.Spec PyProof.Rows L2
theorem avs_av (c : Ct) (a : Addr) (fa : List Addr) : (c.avs fa).av a = c.avs (a :: fa) := by
  cases c
  unfold Ct.avs Ct.av
  congr 1
  funext b
  simp only [List.mem_cons, eq_iff_iff]
  constructor
  · rintro ((h | h) | h)
    · exact .inl h
    · exact .inr (.inr h)
    · exact .inr (.inl h)
  · rintro (h | h | h)
    · exact .inl (.inl h)
    · exact .inr h
    · exact .inl (.inr h)
theorem vw_put {c : Ct} {os : List (Option Addr)} {H : Hp} {a : Addr} {i : Nat} : Exts (vw (c.av a) os H) (vw c (os.set i (some a)) H) := fun b o h => by
  obtain ⟨h1, h2, h3, h4⟩ := vw_some.mp h
  exact vw_some.mpr ⟨h1, fun q => h2 (.inl q), h3, fun q => (mem_set_some q).elim h4 fun z => h2 (.inr z)⟩
def setAll : List Nat → List (Bool × D) → Env → Option Env
  | [], [], ρ => some ρ
  | i :: is, (b, d) :: ds, ρ => setAll is ds (ρ.set i (if b then .ow d else .fz d))
  | _, _, _ => none
def setAllV : List Nat → List V → L2.St → L2.St
  | i :: is, v :: vs, σ => setAllV is vs (σ.set i (some v))
  | _, _, σ => σ
theorem set_all {K : PySem.W.Frag} {c : Ct} {μ : Store} {H : Hp} : ∀ {is : List Nat} {ds : List (Bool × D)} {fa : List Addr} {vs : List V} {os : List (Option Addr)} {ρ ρ' : Env} {σ : L2.St}, Rl K (c.avs fa) os ρ μ σ H → MA K c.T (vw (c.avs fa) os H) H fa vs ds → fa.Nodup → (∀ a ∈ fa, ¬ c.A a ∧ a ∉ c.T ∧ some a ∉ os ∧ c.He a = none) → setAll is ds ρ = some ρ' → ∃ os', Rl K c os' ρ' μ (setAllV is vs σ) H
  | [], [], _, _, _, _, _, _, r, m, _, _, e => by
    cases m
    cases e
    rw [avs_nil] at r
    exact ⟨_, r⟩
  | [], _ :: _, _, _, _, _, _, _, _, _, _, _, e => by cases e
  | _ :: _, [], _, _, _, _, _, _, _, _, _, _, e => by cases e
  | i :: is, (b, d) :: ds, _, _, os, ρ, ρ', σ, r, m, nd, hf, e => by
    cases m with
    | val p m =>
      exact show ∃ os', Rl K c os' ρ' μ (setAllV is _ (σ.set i _)) H from set_all (is := is) (ds := ds) (r.set p) (m.mono (vw_os fun a h => mem_set_none h) fun _ _ _ h => h) nd (fun a ha => ⟨(hf a ha).1, (hf a ha).2.1, fun z => (hf a ha).2.2.1 (mem_set_none z), (hf a ha).2.2.2⟩) e
    | @new fa a _ _ _ w m =>
      rw [← avs_av] at r m w
      obtain ⟨n1, n2⟩ := List.nodup_cons.mp nd
      obtain ⟨q1, q2, q3, q4⟩ := hf a (by simp)
      have f : Fr K (c.avs fa) os ρ μ σ H a d := ⟨r, w, fun z => z.elim q1 n1, q2, q3, q4⟩
      refine show ∃ os', Rl K c os' ρ' μ (setAllV is _ (σ.set i _)) H from set_all (is := is) (ds := ds) (f.put i) (m.mono vw_put fun _ _ _ h => h) n2 (fun x hx => ?_) e
      obtain ⟨k1, k2, k3, k4⟩ := hf x (List.mem_cons_of_mem _ hx)
      exact ⟨k1, k2, fun z => (mem_set_some z).elim k3 fun y => n1 (by rw [← y]; exact hx), k4⟩
def sPar (is : List Nat) (fs : XM) : SD := fun ρ μ => (fs ρ μ).st ρ fun ds μ' => match setAll is ds ρ with
  | some ρ' => .nx ρ' μ'
  | none => .fail
def gNames : List Nat → TGs
  | [] => gNil
  | i :: is => gCons (gName i) (gNames is)
theorem gNames_run : ∀ {is : List Nat} {vs : List V} {σ : L2.St} {H : Hp} {Q : L2.St → Hp → Prop}, vs.length = is.length → Q (setAllV is vs σ) H → gNames is vs σ H Q
  | [], [], _, _, _, _, q => ⟨rfl, q⟩
  | [], _ :: _, _, _, _, e, _ => by cases e
  | _ :: _, [], _, _, _, e, _ => by cases e
  | i :: is, v :: vs, σ, H, Q, e, q => ⟨v, vs, rfl, gNames_run (is := is) (Nat.succ.inj e) q⟩
theorem setAll_len : ∀ {is : List Nat} {ds : List (Bool × D)} {ρ ρ' : Env}, setAll is ds ρ = some ρ' → ds.length = is.length
  | [], [], _, _, _ => rfl
  | [], _ :: _, _, _, e => by cases e
  | _ :: _, [], _, _, e => by cases e
  | i :: is, (b, d) :: ds, ρ, ρ', e => by
    rw [List.length_cons, List.length_cons, setAll_len (show setAll is ds _ = some ρ' from e)]
section
variable {X : Cx} {cl : Nat → Addr} {W : WX} {fr : Bool} {fs : XM} {s0 : Stmt} {i j l : Nat}
theorem par_imp {is : List Nat} {E : Ends} {σ : L2.St} {H : Hp} (h : tS X.K cl W fr (sPar is fs) E σ H) : tM X.K cl W fs σ H fun vs H1 => vs.length = is.length ∧ E.nx (setAllV is vs σ) H1 := by
  obtain ⟨c, os, ρ, μ, r, h⟩ := h
  refine ⟨c, os, ρ, μ, r, (SOut.st h).imp (fun ds μ1 h1 => ?_) fun _ _ q => q⟩
  intro fa vs H1 m k
  cases e : setAll is ds ρ with
  | none => rw [e] at h1; exact h1.elim
  | some ρ' =>
    rw [e] at h1
    obtain ⟨os', r'⟩ := set_all m.rl m.ma m.nd (fun a ha => (m.fr a ha).2) e
    exact ⟨by rw [m.ma.length]; exact setAll_len e, h1 os' _ H1 r'⟩
theorem tM_mono {σ : L2.St} {H : Hp} {Q Q' : List V → Hp → Prop} (h : tM X.K cl W fs σ H Q) (i : ∀ vs H, Q vs H → Q' vs H) : tM X.K cl W fs σ H Q' := by
  obtain ⟨c, os, ρ, μ, r, h⟩ := h
  exact ⟨c, os, ρ, μ, r, h.imp (fun ds μ1 h1 fa vs H1 m k => i _ _ (h1 fa vs H1 m k)) fun _ _ q => q⟩
theorem hPar2 (h : PS X s0 (tPar i j (tM X.K cl W fs))) : PS X s0 (tS X.K cl W fr (sPar [i, j] fs)) := ps_imp h fun E σ H q => tM_mono (par_imp q) fun vs H1 ⟨hl, q⟩ => by
  match vs, hl with
  | [v, w], _ => exact ⟨v, w, rfl, q⟩
theorem hPar3 (h : PS X s0 (tPar3 i j l (tM X.K cl W fs))) : PS X s0 (tS X.K cl W fr (sPar [i, j, l] fs)) := ps_imp h fun E σ H q => tM_mono (par_imp q) fun vs H1 ⟨hl, q⟩ => by
  match vs, hl with
  | [u, v, w], _ => exact ⟨u, v, w, rfl, q⟩
/-- four and more names: by a tuple that is made and taken apart -/
theorem hParT {is : List Nat} (h : PS X s0 (tAsg (tTup (tM X.K cl W fs)) (gTup X.K is.length (gNames is)))) (hz : is.length ≤ 1000 := by decide) : PS X s0 (tS X.K cl W fr (sPar is fs)) := ps_imp h fun E σ H q => by
  obtain ⟨c, os, ρ, μ, r, h⟩ := q
  refine ⟨c, os, ρ, μ, r, (SOut.st h).imp (fun ds μ1 h1 => ?_) fun _ _ q => q⟩
  intro fa vs H1 m k
  cases e : setAll is ds ρ with
  | none => rw [e] at h1; exact h1.elim
  | some ρ' =>
    rw [e] at h1
    have hl : vs.length = is.length := by rw [m.ma.length]; exact setAll_len e
    refine ⟨by rw [hl]; exact Nat.le_trans hz (by rw [sizeLine_eq]; decide), fun p n => ⟨p, vs, rfl, .inl (.inl upd_same), hl, gNames_run hl ?_⟩⟩
    have r2 := m.rl.new (o := .tup vs) n
    have ma2 := m.ma.mono (vw_mono (c := c.avs fa) (os := os) (Exts.new (o := .tup vs) n)) (H' := upd H1 p (.tup vs)) fun a ha o ho => by rw [upd_ne (ne_of_none ho n)]; exact ho
    obtain ⟨os', r'⟩ := set_all r2 ma2 m.nd (fun a ha => (m.fr a ha).2) e
    exact h1 os' _ _ r'
end
/-! ### sources of walks -/
def strD (z : Str) : List D := z.cps.toList.map fun c => D.str ⟨#[c]⟩
def iSeqD : D → Option (List D)
  | .lst ds => some ds
  | .tup ds => some ds
  | .scr ns => some (ns.map D.int)
  | .str z => some (strD z)
  | _ => none
def iSeq (f : XD) : XL := fun ρ μ => (f ρ μ).bind fun d μ' => Res.ofO (iSeqD d) μ'
def rangeD (lo : Int) (n : Nat) : List D := (List.range n).map fun i => D.int (lo + (i : Nat))
def rangeC (lo c : Int) (n : Nat) : List D := (List.range n).map fun i => D.int (lo + (i : Nat) * c)
def rgOk (i : Int) : Bool := Nat.blt i.natAbs 4611686018427387904
def iRg1 (fs : XL) : XL := fun ρ μ => (fs ρ μ).bind fun ds μ' => match ds with
  | [.int j] => if rgOk j then .ok (rangeD 0 j.toNat) μ' else .fail
  | _ => .fail
def iRg2 (fs : XL) : XL := fun ρ μ => (fs ρ μ).bind fun ds μ' => match ds with
  | [.int i, .int j] => if rgOk i && rgOk j then .ok (rangeD i (j - i).toNat) μ' else .fail
  | _ => .fail
/-- downwards by one -/
def iRg3 (fs : XL) : XL := fun ρ μ => (fs ρ μ).bind fun ds μ' => match ds with
  | [.int i, .int j, .int c] => if rgOk i && rgOk j && decide (c = -1) then .ok (rangeC i (-1) (i - j).toNat) μ' else .fail
  | _ => .fail
def pairD (x y : D) : D := .tup [x, y]
def enumD (xs : List D) : List D := xs.mapIdx fun i x => .tup [.int (i : Nat), x]
def wEnum (fs : XL) : XL := fun ρ μ => (fs ρ μ).bind fun ds μ' => match ds with
  | [.lst xs] => .ok (enumD xs) μ'
  | _ => .fail
section
variable {K : PySem.W.Frag} {T : List Addr} {G H : Hp}
theorem yd_at {xs : List V} {ds : List D} (p : RpA K T G xs ds) : ∀ i H x H', YAt xs i H x H' → YD K T G ds i H x H' := fun i H x H' ⟨e, h⟩ => by
  obtain ⟨d, h1, h2⟩ := p.getV h
  exact ⟨d, h1, .inl ⟨e, h2⟩⟩
theorem rangeD_get {lo : Int} {n i : Nat} (h : i < n) : (rangeD lo n)[i]? = some (.int (lo + (i : Nat))) := by
  unfold rangeD
  rw [List.getElem?_map, List.getElem?_range h]
  rfl
theorem rangeC_get {lo c : Int} {n i : Nat} (h : i < n) : (rangeC lo c n)[i]? = some (.int (lo + (i : Nat) * c)) := by
  unfold rangeC
  rw [List.getElem?_map, List.getElem?_range h]
  rfl
theorem rangeD_len (lo : Int) (n : Nat) : (rangeD lo n).length = n := by unfold rangeD; rw [List.length_map, List.length_range]
theorem rangeC_len (lo c : Int) (n : Nat) : (rangeC lo c n).length = n := by unfold rangeC; rw [List.length_map, List.length_range]
theorem rgOk_of {i : Int} (h : rgOk i = true) : -(2 ^ 62) ≤ i ∧ i < 2 ^ 62 := by
  have z : i.natAbs < 4611686018427387904 := Nat.le_of_ble_eq_true h
  omega
end
section
variable {X : Cx} {cl : Nat → Addr} {W : WX} {tg e e2 : Expr} {f : XD} {fs : XL} {p pos tpos : Pos} {elts : List Expr} {kk : Nat}
theorem jSeq (h : PE X e (tE X.K cl W f)) : PI X tg e (tI X.K cl W (iSeq f)) := pi_imp (pi_or (pi_list h) (pi_or (pi_tup h) (pi_str h))) fun σ H R => by
  rintro ⟨c, os, ρ, μ, r, h⟩
  have h' := Out.bind h
  cases ef : f ρ μ with
  | fail => rw [ef] at h'; exact h'.elim
  | exc x μ1 => exact .inl ⟨c, os, ρ, μ, r, by rw [ef] at h' ⊢; exact h'⟩
  | ok d μ1 =>
    rw [ef] at h'
    obtain ⟨ds, e1, h2⟩ := Out.ofO h'
    cases d with
    | lst es =>
      cases e1
      refine .inl ⟨c, os, ρ, μ, r, ?_⟩
      rw [ef]
      intro v H1 r1 k p
      obtain ⟨a, xs, rfl, g1, g2⟩ := p.inv_lst
      refine ⟨a, rfl, ⟨xs, .inl (.inl (vw_le _ _ g1))⟩, h2 _ H1 r1 k ⟨fun H => SqL X.K H a xs, fun H2 e => .inl (.inl (e _ _ g1)), ?_⟩⟩
      rw [← g2.length]
      exact walk_list.mono (fun _ h => h) fun i H x H' _ _ y => yd_at g2 i H x H' y
    | tup es =>
      cases e1
      refine .inr (.inl ⟨c, os, ρ, μ, r, ?_⟩)
      rw [ef]
      intro v H1 r1 k p
      obtain ⟨a, xs, rfl, g1, g2⟩ := p.inv_tup
      refine ⟨a, rfl, ⟨xs, vw_le.sqT g1⟩, h2 _ H1 r1 k ⟨fun H => SqT X.K H a xs, fun H2 e => e.sqT g1, ?_⟩⟩
      rw [← g2.length]
      exact walk_tup.mono (fun _ h => h) fun i H x H' _ _ y => yd_at g2 i H x H' y
    | scr ns =>
      cases e1
      refine .inl ⟨c, os, ρ, μ, r, ?_⟩
      rw [ef]
      intro v H1 r1 k p
      obtain ⟨a, rfl, g1⟩ := p.inv_scr
      refine ⟨a, rfl, ⟨_, vw_le.sqL g1⟩, h2 _ H1 r1 k ⟨fun H => SqL X.K H a (ns.map V.int), fun H2 e => e.sqL g1, ?_⟩⟩
      rw [show (ns.map D.int).length = (ns.map V.int).length by rw [List.length_map, List.length_map]]
      exact walk_list.mono (fun _ h => h) fun i H x H' _ _ y => yd_at (RpA.of_ints ns) i H x H' y
    | str z =>
      cases e1
      refine .inr (.inr ⟨c, os, ρ, μ, r, ?_⟩)
      rw [ef]
      intro v H1 r1 k p
      obtain ⟨e1, e2⟩ := p.inv_str
      subst e1
      refine ⟨z, rfl, h2 _ H1 r1 k ⟨fun _ => True, fun _ _ => trivial, ?_⟩⟩
      rw [show (strD z).length = z.cps.size by unfold strD; rw [List.length_map, Array.length_toList]]
      refine walk_str.mono (fun _ h => h) fun i H x H' _ _ y => ?_
      obtain ⟨y1, ch, y2, y3⟩ := y
      refine ⟨.str ⟨#[ch]⟩, ?_, .inl ⟨y1, ?_⟩⟩
      · unfold strD
        rw [List.getElem?_map, Array.getElem?_toList, y2]
        rfl
      · rw [y3]
        refine .str ?_
        rw [strOk_iff] at e2
        have := List.all_eq_true.mp e2 ch (by
          have : z.cps.toList[i]? = some ch := by rw [Array.getElem?_toList, y2]
          exact List.mem_of_getElem? this)
        unfold strOk
        simpa using this
    | _ => cases e1
theorem jRg1 {a : Expr} (hg : Gl X "range") (hm : X.mg "range" = none) (ha : PA X [a] (tL X.K cl W fs)) (hs : starEach [a] X.env = [(false, eval a X.env)] := by rfl) : PI X tg (.Call (.Name "range" p) [a] [] pos) (tI X.K cl W (iRg1 fs)) := pi_imp (pi_range1 hg hm ha hs) fun σ H R => by
  rintro ⟨c, os, ρ, μ, r, h⟩
  refine ⟨c, os, ρ, μ, r, (Out.bind h).imp (fun ds μ1 h1 => ?_) fun _ _ q => q⟩
  intro vs H1 r1 k pv
  split at h1
  · rename_i j
    by_cases hj : rgOk j = true
    · rw [if_pos hj] at h1
      obtain ⟨v, z, pw⟩ := pv.one
      subst z
      refine ⟨j, by rw [pw.inv_int], (rgOk_of hj).1, (rgOk_of hj).2, h1 _ H1 r1 k ⟨fun _ => True, fun _ _ => trivial, ?_⟩⟩
      rw [rangeD_len]
      exact walk_range.mono (fun _ h => h) fun i H x H' hi _ y => ⟨_, rangeD_get hi, .inl ⟨y.1, by rw [y.2]; exact .int _⟩⟩
    · rw [if_neg hj] at h1
      exact h1.elim
  · exact h1.elim
theorem jRg2 {a b : Expr} (hg : Gl X "range") (hm : X.mg "range" = none) (ha : PA X [a, b] (tL X.K cl W fs)) (hs : starEach [a, b] X.env = [(false, eval a X.env), (false, eval b X.env)] := by rfl) (hs2 : starEach [b] X.env = [(false, eval b X.env)] := by rfl) : PI X tg (.Call (.Name "range" p) [a, b] [] pos) (tI X.K cl W (iRg2 fs)) := pi_imp (pi_range2 hg hm ha hs hs2) fun σ H R => by
  rintro ⟨c, os, ρ, μ, r, h⟩
  refine ⟨c, os, ρ, μ, r, (Out.bind h).imp (fun ds μ1 h1 => ?_) fun _ _ q => q⟩
  intro vs H1 r1 k pv
  split at h1
  · rename_i i j
    by_cases hj : (rgOk i && rgOk j) = true
    · rw [if_pos hj] at h1
      rw [Bool.and_eq_true] at hj
      obtain ⟨v, w, z, pu, pw⟩ := pv.two
      subst z
      refine ⟨i, j, by rw [pu.inv_int, pw.inv_int], ⟨(rgOk_of hj.1).1, (rgOk_of hj.1).2, (rgOk_of hj.2).1, (rgOk_of hj.2).2⟩, h1 _ H1 r1 k ⟨fun _ => True, fun _ _ => trivial, ?_⟩⟩
      rw [rangeD_len]
      exact walk_range.mono (fun _ h => h) fun i H x H' hi _ y => ⟨_, rangeD_get hi, .inl ⟨y.1, by rw [y.2]; exact .int _⟩⟩
    · rw [if_neg hj] at h1
      exact h1.elim
  · exact h1.elim
theorem jEnum (h : PI X tg e (iEnum X.K (tL X.K cl W fs))) : PI X tg e (tI X.K cl W (wEnum fs)) := pi_imp h fun σ H R => by
  rintro ⟨c, os, ρ, μ, r, h⟩
  refine ⟨c, os, ρ, μ, r, (Out.bind h).imp (fun ds μ1 h1 => ?_) fun _ _ q => q⟩
  intro vs H1 r1 k pv
  split at h1
  · rename_i xs
    obtain ⟨v, z, pu⟩ := pv.one
    subst z
    obtain ⟨a, us, rfl, g1, g2⟩ := pu.inv_lst
    refine ⟨a, us, rfl, .inl (.inl (vw_le _ _ g1)), h1 _ H1 r1 k ⟨fun H => SqL X.K H a us, fun H2 e => .inl (.inl (e _ _ g1)), ?_⟩⟩
    rw [show (enumD xs).length = us.length by unfold enumD; rw [List.length_mapIdx, g2.length]]
    refine walk_enum.mono (fun _ h => h) fun i H x H' _ _ y => ?_
    obtain ⟨q, x, y, h1, h2, h3, h4, h5⟩ := y
    obtain ⟨d, e1, e2⟩ := g2.getV h5
    cases h4
    refine ⟨.tup [.int (i : Nat), d], ?_, .inr ⟨q, _, y, _, d, _, h1, h2, h3, .inl ⟨rfl, rfl⟩, rfl, .int _, e2⟩⟩
    unfold enumD
    rw [List.getElem?_mapIdx, e1]
    rfl
  · exact h1.elim
end
end DC
set_option Elab.async false
set_option linter.all false
set_option maxRecDepth 100000
set_option maxHeartbeats 2000000
/-! DC: stores by index, cells made, defs. -/
namespace DC
open PySem PySem.Spec PyProof.Rows L2
/-! ### x[i] = e: a cell, an own list -/
def sSetI (i : Nat) (fi fe : XD) : SD := fun ρ μ => (fe ρ μ).st ρ fun d μ1 => match ρ[i]? with
  | some (.fz (.own n)) => (fi ρ μ1).st ρ fun k μ2 => match d, k, μ2[n]? with
    | .int z, .int j, some ns => (match ixN ns.length j with
      | some p => .nx ρ (μ2.set n (ns.set p z))
      | none => .fail)
    | _, _, _ => .fail
  | some (.ow (.lst ds)) => (fi ρ μ1).st ρ fun k μ2 => match k with
    | .int j => (match ixN ds.length j with
      | some p => .nx (ρ.set i (.ow (.lst (ds.set p d)))) μ2
      | none => .fail)
    | _ => .fail
  | _ => .fail
theorem ints_set {ns : List Int} {p : Nat} {z : Int} : (ns.map V.int).set p (.int z) = (ns.set p z).map V.int := by
  rw [List.map_set]
section
variable {X : Cx} {cl : Nat → Addr} {W : WX} {fr : Bool} {fi fe : XD} {s0 : Stmt} {rest : List Stmt} {i : Nat} {F : SD}
theorem hSetI (h : PS X s0 (tAsg (tE X.K cl W fe) (gSub (tVar i) (tE X.K cl W fi) rSetL))) : PS X s0 (tS X.K cl W fr (sSetI i fi fe)) := ps_imp h fun E σ H => by
  rintro ⟨c, os, ρ, μ, r, h⟩
  refine ⟨c, os, ρ, μ, r, (SOut.st h).imp (fun d μ1 h1 => ?_) fun _ _ q => q⟩
  intro v1 H1 r1 e1 p1
  split at h1
  · rename_i n e0
    obtain ⟨v, g1, g2, g3⟩ := r1.get e0
    obtain ⟨a, g4, g5⟩ := g2.inv_own
    subst g4
    refine ⟨_, g1, c, os, ρ, μ1, r1, (SOut.st h1).imp (fun k μ2 h2 => ?_) fun _ _ q => q⟩
    intro v2 H2 r2 e2 p2
    split at h2
    · rename_i z j ns e3
      split at h2
      · rename_i p e4
        obtain ⟨q1, q2⟩ := r2.setCell (ns := ns.set p z) g5
        refine ⟨a, ns.map V.int, j, p, rfl, p2.inv_int, r2.st n a ns g5 e3, by rw [List.length_map]; exact e4, ?_⟩
        rw [p1.inv_int, ints_set]
        exact h2 os σ _ q1
      · exact h2.elim
    · exact h2.elim
  · rename_i ds e0
    obtain ⟨a, g1, g2, g3⟩ := r1.getOw e0
    refine ⟨_, g1, c, os, ρ, μ1, r1, (SOut.st h1).imp (fun k μ2 h2 => ?_) fun _ _ q => q⟩
    intro v2 H2 r2 e2 p2
    split at h2
    · rename_i j
      split at h2
      · rename_i p e4
        obtain ⟨a', k1, k2, k3⟩ := r2.getOw e0
        have ea : a' = a := by
          rw [g1] at k1
          have := Option.some.inj (Option.some.inj k1)
          cases this; rfl
        subst ea
        cases k3 with
        | lst q k =>
          rename_i ys
          refine ⟨a', ys, j, p, rfl, p2.inv_int, q, by rw [k.length]; exact e4, ?_⟩
          exact h2 os σ _ (r2.change k1 k2 (.lst upd_same (RpA.set (p1.mono e2.vw) p k)))
      · exact h2.elim
    · exact h2.elim
  · exact h1.elim
mutual
theorem Rp.moreT {K : PySem.W.Frag} {T T' : List Addr} {H : Hp} (e : ∀ (n : Nat) (b : Addr), T[n]? = some b → T'[n]? = some b) : ∀ {d : D} {v : V}, Rp K T H v d → Rp K T' H v d
  | .non, _, h => by cases h; exact .non
  | .bl _, _, h => by cases h; exact .bl _
  | .int _, _, h => by cases h; exact .int _
  | .str _, _, h => by cases h with | str q => exact .str q
  | .tup ds, _, h => by cases h with | tup q r z => exact .tup q (RpA.moreT e r) z
  | .lst ds, _, h => by cases h with | lst q r => exact .lst q (RpA.moreT e r)
  | .scr ns, _, h => by cases h with | scr q => exact .scr q
  | .dk ks ds, _, h => by cases h with | dk q z r => exact .dk q z (RpA.moreT e r)
  | .dt ks ds, _, h => by cases h with | dt q z r => exact .dt q z (RpA.moreT e r)
  | .own n, _, h => by cases h with | own q => exact .own (e _ _ q)
theorem RpA.moreT {K : PySem.W.Frag} {T T' : List Addr} {H : Hp} (e : ∀ (n : Nat) (b : Addr), T[n]? = some b → T'[n]? = some b) : ∀ {ds : List D} {vs : List V}, RpA K T H vs ds → RpA K T' H vs ds
  | [], _, h => by cases h; exact .nil
  | d :: ds, _, h => by cases h with | cons q r => exact .cons (Rp.moreT e q) (RpA.moreT e r)
end
theorem OwAt.moreT {K : PySem.W.Frag} {T T' : List Addr} {Hv H : Hp} {a : Addr} {d : D} (e : ∀ (n : Nat) (b : Addr), T[n]? = some b → T'[n]? = some b) : OwAt K T Hv H a d → OwAt K T' Hv H a d
  | .lst h r => .lst h (r.moreT e)
  | .dk h z r => .dk h z (r.moreT e)
  | .dt h z r => .dt h z (r.moreT e)
/-- from here on the own list of ints at slot i is a cell -/
def sProm (i : Nat) (F : SD) : SD := fun ρ μ => match ρ[i]? with
  | some (.ow (.lst ds)) => (match D.ints ds with
    | some ns => (match F (ρ.set i (.fz (.own μ.length))) (μ ++ [ns]) with
      | .rt (.bl b) μ' => .rt (.bl b) (μ'.take μ.length)
      | _ => .fail)
    | none => .fail)
  | _ => .fail
theorem hProm (h : PSs X rest (tS X.K cl W false F)) : PSs X rest (tS X.K cl W false (sProm i F)) := pss_imp h fun E σ H => by
  rintro ⟨c, os, ρ, μ, r, h⟩
  unfold sProm at h
  split at h
  · rename_i ds e0
    split at h
    · rename_i ns e1
      have z := D.ints_eq e1
      subst z
      obtain ⟨a, g1, g2, g3⟩ := r.getOw e0
      have hm : some a ∈ os := List.mem_of_getElem? g2
      obtain ⟨w1, w2, w3⟩ := r.own a hm
      have hH : H a = some (.lst (ns.map V.int)) := by
        cases g3 with
        | lst q k => rw [k.ints] at q; exact q
      have l1 : i < os.length := (List.getElem?_eq_some_iff.mp g2).1
      have lρ : i < ρ.length := by rw [r.lr, ← r.lo]; exact l1
      have ev : vw { c with T := c.T ++ [a] } (os.set i none) H = vw c os H := by
        funext b
        unfold vw
        by_cases hb : (c.A b ∨ b ∈ c.T ∨ some b ∈ os)
        · rw [if_pos hb, if_pos]
          rcases hb with z | z | z
          · exact .inl z
          · exact .inr (.inl (List.mem_append_left _ z))
          · by_cases eb : b = a
            · exact .inr (.inl (List.mem_append_right _ (by simp [eb])))
            · refine .inr (.inr ?_)
              obtain ⟨j, hj⟩ := List.getElem?_of_mem z
              have nj : i ≠ j := fun e => by
                subst e
                rw [g2] at hj
                exact eb (Option.some.inj (Option.some.inj hj)).symm
              exact List.mem_of_getElem? (i := j) (by rw [List.getElem?_set_ne nj]; exact hj)
        · rw [if_neg hb, if_neg]
          rintro (z | z | z)
          · exact hb (.inl z)
          · rcases List.mem_append.mp z with z | z
            · exact hb (.inr (.inl z))
            · have : b = a := by simpa using z
              exact hb (.inr (.inr (by rw [this]; exact hm)))
          · exact hb (.inr (.inr (mem_set_none z)))
      have r' : Rl X.K { c with T := c.T ++ [a] } (os.set i none) (ρ.set i (.fz (.own μ.length))) (μ ++ [ns]) σ H := by
        refine ⟨by simp [r.lo], by simp [r.lr], fun j o s x q1 q2 q3 => ?_, fun j k b q1 q2 => ?_, fun b q => ?_, fun b q z => ?_, ?_, by simp [r.sm], fun n b ms q1 q2 => ?_, fun b o q1 q2 => r.keep b o q1 fun z => q2 (List.mem_append_left _ z), r.dom⟩
        · have mT : ∀ (n : Nat) (b : Addr), c.T[n]? = some b → (c.T ++ [a])[n]? = some b := fun n b q => by
            rw [List.getElem?_append_left (List.getElem?_eq_some_iff.mp q).1]; exact q
          rw [ev]
          by_cases hj : i = j
          · subst hj
            rw [List.getElem?_set_self l1] at q1
            rw [List.getElem?_set_self lρ] at q2
            rw [g1] at q3
            cases q1; cases q2; cases q3
            refine .own ?_
            rw [r.sm, List.getElem?_append_right (Nat.le_refl _), Nat.sub_self]
            rfl
          · rw [List.getElem?_set_ne hj] at q1 q2
            have q := r.sl j o s x q1 q2 q3
            unfold SlAt at q ⊢
            split at q
            · trivial
            · exact q.moreT mT
            · exact ⟨q.1, q.2.moreT mT⟩
            · exact q.elim
        · have g : ∀ m, (os.set i none)[m]? = some (some b) → os[m]? = some (some b) := fun m hm => by
            by_cases e : i = m
            · subst e
              rw [List.getElem?_set_self l1] at hm; cases hm
            · rw [List.getElem?_set_ne e] at hm; exact hm
          exact r.inj j k b (g j q1) (g k q2)
        · have w := r.own b (mem_set_none q)
          refine ⟨fun z => ?_, w.2⟩
          rcases List.mem_append.mp z with z | z
          · exact w.1 z
          · have eb : b = a := by simpa using z
            subst eb
            obtain ⟨j, hj⟩ := List.getElem?_of_mem q
            by_cases e : i = j
            · subst e
              rw [List.getElem?_set_self l1] at hj; cases hj
            · rw [List.getElem?_set_ne e] at hj
              exact e (r.inj i j b g2 hj)
        · rcases List.mem_append.mp q with y | y
          · exact r.tA b y z
          · have eb : b = a := by simpa using y
            subst eb; exact w2 z
        · exact List.nodup_append.mpr ⟨r.tn, by simp, fun x hx y hy e => by
            have : y = a := by simpa using hy
            subst this; subst e; exact w1 hx⟩
        · by_cases hn : n < c.T.length
          · rw [List.getElem?_append_left hn] at q1
            rw [List.getElem?_append_left (by rw [r.sm]; exact hn)] at q2
            exact r.st n b ms q1 q2
          · have hl : n < (c.T ++ [a]).length := (List.getElem?_eq_some_iff.mp q1).1
            have en : n = c.T.length := by simp at hl; omega
            subst en
            rw [List.getElem?_append_right (Nat.le_refl _), Nat.sub_self] at q1
            rw [List.getElem?_append_right (by rw [r.sm]; exact Nat.le_refl _), r.sm, Nat.sub_self] at q2
            cases q1; cases q2
            exact hH
      refine ⟨{ c with T := c.T ++ [a] }, _, _, _, r', ?_⟩
      have h' : SOut X.K cl W false c E (match F (ρ.set i (.fz (.own μ.length))) (μ ++ [ns]) with
        | .rt (.bl b) μ' => .rt (.bl b) (μ'.take μ.length)
        | _ => .fail) := h
      split at h'
      · rename_i b μ' eF
        rw [eF]
        intro v os2 ρ2 σ2 H2 r2 p2
        have z := p2.inv_bl
        subst z
        have r3 : Rl X.K c [] [] (μ'.take μ.length) [] H2 := by
          refine ⟨rfl, rfl, fun j o s x q => (by simp at q), fun j k b q => (by simp at q), fun b q => (by cases q), fun b q => r2.tA b (List.mem_append_left _ q), r.tn, ?_, fun n b ms q1 q2 => ?_, fun b o q1 q2 => r2.keep b o q1 fun z => ?_, r2.dom⟩
          · have := r2.sm
            simp at this
            rw [List.length_take, r.sm]
            omega
          · refine r2.st n b ms (by rw [List.getElem?_append_left (List.getElem?_eq_some_iff.mp q1).1]; exact q1) ?_
            rw [List.getElem?_take] at q2
            split at q2
            · exact q2
            · cases q2
          · rcases List.mem_append.mp z with z | z
            · exact q2 z
            · have eb : b = a := by simpa using z
              subst eb
              rw [w3] at q1; cases q1
        exact h' (.bl b) [] [] [] H2 r3 (.bl b)
      · exact h'.elim
    · exact h.elim
  · exact h.elim
end
/-! ### a def, by its body -/
def entry (n : Nat) (ds : List D) : Env := ds.map Sl.fz ++ List.replicate (n - ds.length) Sl.no
def bodyD (F : SD) (n : Nat) (ds : List D) (μ : Store) : Res D := match F (entry n ds) μ with
  | .rt d μ' => .ok d μ'
  | .nx _ μ' => .ok .non μ'
  | .exc x _ μ' => .exc x μ'
  | _ => .fail
def bodyF (F : SD) (n : Nat) (ds : List D) (μ : Store) : Res D := match F (entry n ds) μ with
  | .rt d μ' => .ok d μ'
  | .exc x _ μ' => .exc x μ'
  | _ => .fail
section
variable {K : PySem.W.Frag} {cl : Nat → Addr} {A : Addr → Prop} {T : List Addr} {μ : Store} {H : Hp}
theorem Rl.entry {N : List Str} {vs : List V} {ds : List D} (r : Rl K ⟨A, T, H⟩ [] [] μ [] H) (p : RpA K T (vw ⟨A, T, H⟩ [] H) vs ds) (hl : ds.length ≤ N.length) : Rl K ⟨A, T, H⟩ (List.replicate N.length none) (DC.entry N.length ds) μ (start N vs) H := by
  have hvl := p.length
  have no : ∀ i a, (List.replicate N.length (none : Option Addr))[i]? ≠ some (some a) := fun i a h => by
    rw [List.getElem?_replicate] at h
    split at h
    · cases h
    · cases h
  have nm : ∀ a, some a ∉ List.replicate N.length (none : Option Addr) := fun a h => by
    obtain ⟨_, z⟩ := List.mem_replicate.mp h
    cases z
  have ev : vw ⟨A, T, H⟩ (List.replicate N.length none) H = vw ⟨A, T, H⟩ [] H := by
    funext b
    unfold vw
    by_cases hb : (A b ∨ b ∈ T ∨ some b ∈ ([] : List (Option Addr)))
    · rw [if_pos hb, if_pos]
      rcases hb with z | z | z
      · exact .inl z
      · exact .inr (.inl z)
      · cases z
    · rw [if_neg hb, if_neg]
      rintro (z | z | z)
      · exact hb (.inl z)
      · exact hb (.inr (.inl z))
      · exact nm _ z
  refine ⟨?_, ?_, fun i o s x h1 h2 h3 => ?_, fun i j a h => absurd h (no i a), fun a h => absurd h (nm a), r.tA, r.tn, r.sm, r.st, r.keep, r.dom⟩
  · unfold L2.start
    simp
    omega
  · unfold L2.start DC.entry
    simp
    omega
  · rw [ev]
    have eo : o = none := by
      rw [List.getElem?_replicate] at h1
      split at h1
      · exact (Option.some.inj h1).symm
      · cases h1
    subst eo
    unfold L2.start at h3
    unfold DC.entry at h2
    by_cases hi : i < ds.length
    · rw [List.getElem?_append_left (by simpa using hi), List.getElem?_map] at h2
      rw [List.getElem?_append_left (by simp; omega), List.getElem?_map] at h3
      obtain ⟨d, e1, e2⟩ := Option.map_eq_some_iff.mp h2
      obtain ⟨v, e3, e4⟩ := Option.map_eq_some_iff.mp h3
      obtain ⟨v', g1, g2⟩ := p.get e1
      rw [e3] at g1
      cases g1
      subst e2 e4
      exact g2
    · rw [List.getElem?_append_right (by simp; omega), List.getElem?_replicate] at h2
      split at h2
      · cases h2; trivial
      · cases h2
theorem Rl.bare {c : Ct} {os : List (Option Addr)} {ρ : Env} {σ : L2.St} (r : Rl K c os ρ μ σ H) : Rl K c [] [] μ [] H :=
  ⟨rfl, rfl, fun j o s x q => (by simp at q), fun j k b q => (by simp at q), fun b q => (by cases q), r.tA, r.tn, r.sm, r.st, r.keep, r.dom⟩
theorem Fr.bare {c : Ct} {os : List (Option Addr)} {ρ : Env} {σ : L2.St} {a : Addr} {d : D} (f : Fr K c os ρ μ σ H a d) : Fr K c [] [] μ [] H a d :=
  ⟨f.rl.bare, f.ow.mono (vw_os fun a h => by cases h) fun _ h => h, f.nA, f.nT, by simp, f.he⟩
theorem ExAt.bare {c : Ct} {os : List (Option Addr)} {x : Exn} {e : Value} {dx : Option Addr} (h : ExAt K cl c os x e dx H) : ExAt K cl c [] x e dx H := by
  unfold ExAt at h ⊢
  refine ⟨h.1, ?_⟩
  have q := h.2
  split at q
  · rename_i e0
    exact q
  · rename_i e0
    obtain ⟨a, v, g1, g2, g3⟩ := q
    exact ⟨a, v, g1, g2, g3.mono (vw_os fun a h => by cases h)⟩
end
section
variable {P : Program} {w : World} {K : PySem.W.Frag} {mg : Str → Option Value} {base : Heap} {cl : Nat → Addr}
abbrev WE0 (E : XK) : WX := fun cls d _ H => E cls d H
theorem okD {x qual : Str} {st : Stmt} {f : Addr} {fd : FuncData} {N ps : List Str} {k : Nat} {FB : SD} (F : Fun K x qual st f fd) (S : FnScope N ps (defScope st)) (hn : ps.length ≤ N.length)
    (hb : ∀ (cdv : Value) (A : Around) (outer : List PySem.Env) (s : Shared) (H : Hp) (E : XK), Room k (A.deeper (envOfC qual (defScope st) s.heap.objs.size f cdv)) →
      PSs (cxOf (L2.CX P w) P w K mg base N qual (defScope st) f cdv A outer s H E) (defBody st) (tS K cl (WE0 E) false FB)) : FnOk P w K mg base (L2.CX P w) (k + 1) f fd ps (SpD K cl ps.length (bodyD FB N.length)) := by
  refine F.okX S (fun vs H Q E h => ?_) (fun cdv A outer s H vs Q E hr h => ⟨_, hb cdv A outer s H E hr, ?_⟩)
  · obtain ⟨A, T, μ, ds, r, p, hl, _⟩ := h
    rw [p.length, hl]
  · obtain ⟨A, T, μ, ds, r, p, hl, h⟩ := h
    refine ⟨⟨A, T, H⟩, _, _, μ, r.entry p (by rw [hl]; exact hn), ?_⟩
    unfold bodyD at h
    cases e : FB (entry N.length ds) μ with
    | rt d μ' =>
      rw [e] at h
      exact fun v os ρ σ H' r' p' => h v H' r'.bare (p'.mono (vw_os fun a h => by cases h))
    | nx ρ μ' =>
      rw [e] at h
      exact fun os σ H' r' => h .non H' r'.bare .non
    | exc x ρ μ' =>
      rw [e] at h
      exact fun v dx os σ H' r' p' => h v dx H' r'.bare p'.bare
    | bk ρ μ' => rw [e] at h; exact h.elim
    | ct ρ μ' => rw [e] at h; exact h.elim
    | fail => rw [e] at h; exact h.elim
theorem okF {x qual : Str} {st : Stmt} {f : Addr} {fd : FuncData} {N ps : List Str} {k : Nat} {FB : SD} (F : Fun K x qual st f fd) (S : FnScope N ps (defScope st)) (hn : ps.length ≤ N.length)
    (hb : ∀ (cdv : Value) (A : Around) (outer : List PySem.Env) (s : Shared) (H : Hp) (E : XK), Room k (A.deeper (envOfC qual (defScope st) s.heap.objs.size f cdv)) →
      PSs (cxOf (L2.CX P w) P w K mg base N qual (defScope st) f cdv A outer s H E) (defBody st) (tS K cl (WE0 E) true (sSeq FB sFail))) : FnOk P w K mg base (L2.CX P w) (k + 1) f fd ps (SpF K cl ps.length (bodyF FB N.length)) := by
  refine F.okX S (fun vs H Q E h => ?_) (fun cdv A outer s H vs Q E hr h => ⟨_, hb cdv A outer s H E hr, ?_⟩)
  · obtain ⟨A, T, μ, ds, r, p, hl, _⟩ := h
    rw [p.length, hl]
  · obtain ⟨A, T, μ, ds, r, p, hl, h⟩ := h
    refine ⟨⟨A, T, H⟩, _, _, μ, r.entry p (by rw [hl]; exact hn), ?_⟩
    unfold bodyF at h
    unfold sSeq
    cases e : FB (entry N.length ds) μ with
    | rt d μ' =>
      rw [e] at h
      exact fun a os ρ σ H' f => h a H' f.bare
    | nx ρ μ' =>
      rw [e] at h
      exact h.elim
    | exc x ρ μ' =>
      rw [e] at h
      exact fun v dx os σ H' r' p' => h v dx H' r'.bare p'.bare
    | bk ρ μ' => rw [e] at h; exact h.elim
    | ct ρ μ' => rw [e] at h; exact h.elim
    | fail => rw [e] at h; exact h.elim
end
end DC
set_option Elab.async false
set_option linter.all false
set_option maxRecDepth 100000
set_option maxHeartbeats 4000000
/-! DC: rules the hand layer lacks: t * k at the ends, t[::-1], enumerate of tuples and texts. -/
namespace DC
open PySem PySem.Spec PyProof.Rows L2
/-! ### t * k, k ≤ 1 or t empty -/
theorem tuple_mulS (l : Addr) (items : Array Value) (n : Nat) (x : Int) (u : Tok) (c0 : (decide (x < -(2 ^ 63)) || decide (x ≥ 2 ^ 63)) = false) (c1 : (items.isEmpty || x == 1) = true) :
    Meets (Builtin.«tuple.__mul__» ⟨[.ref l, .int x u], []⟩) (fun _ R s => (∃ dd sl, s.heap.get? l = some { cls := .type "tuple", dict := dd, data := .seq items n, slots := sl }) ∧ R (.ok (.ret (Value.ref l))) s) :=
  .of_wp fun prog w A R s h => by
    obtain ⟨hp, g, d, tk, os⟩ := s
    obtain ⟨⟨dd, sl, hl⟩, h⟩ := h
    have f1 := AutoSeq1.idx_int
    wp_walk using wpAny_loadPart' hl
    repeat (first
      | (refine wpAny_ite_false (decide_eq_false (by rw [c0]; exact Bool.false_ne_true)) ?_; wp_walk using wpAny_loadPart' hl)
      | (refine wpAny_ite_true (decide_eq_true (by rw [c1])) ?_; wp_walk using wpAny_loadPart' hl))
    exact ⟨_, rfl, h⟩
theorem tuple_mul0 (l : Addr) (items : Array Value) (n : Nat) (x : Int) (u : Tok) (c0 : (decide (x < -(2 ^ 63)) || decide (x ≥ 2 ^ 63)) = false) (c1 : (items.isEmpty || x == 1) = false) (c2 : (decide (x ≤ 0) || items.isEmpty) = true) :
    Meets (Builtin.«tuple.__mul__» ⟨[.ref l, .int x u], []⟩) (fun _ R s => (∃ dd sl, s.heap.get? l = some { cls := .type "tuple", dict := dd, data := .seq items n, slots := sl }) ∧
      R (.ok (.ret (Value.ref s.heap.objs.size))) { s with heap := s.heap.push { cls := Value.type "tuple", data := Data.seq #[] }, toks := s.toks }) :=
  .of_wp fun prog w A R s h => by
    obtain ⟨hp, g, d, tk, os⟩ := s
    obtain ⟨⟨dd, sl, hl⟩, h⟩ := h
    have f1 := AutoSeq1.idx_int
    have hsz : (#[] : Array Value).size ≤ sizeLine := Nat.zero_le _
    wp_walk using wpAny_loadPart' hl
    repeat (first
      | (refine wpAny_ite_false (decide_eq_false (by rw [c0]; exact Bool.false_ne_true)) ?_; wp_walk using wpAny_loadPart' hl)
      | (refine wpAny_ite_false (decide_eq_false (by rw [c1]; exact Bool.false_ne_true)) ?_; wp_walk using wpAny_loadPart' hl)
      | (refine wpAny_ite_true (decide_eq_true (by rw [c2])) ?_; wp_walk using wpAny_loadPart' hl)
      | (refine wpAny_ite_false (decide_eq_false (Nat.not_lt.mpr hsz)) ?_; wp_walk using wpAny_loadPart' hl))
    exact ⟨_, rfl, h⟩
/-- t * k: new, or (k = 1, t empty) t itself -/
def rRepA (K : PySem.W.Frag) : R2 := fun x y H Q => ∃ l k xs, x = .ref l ∧ y = .int k ∧ SqT K H l xs ∧ -1000 ≤ k ∧ k ≤ 1000 ∧ xs.length ≤ 1000 ∧ ((xs = [] ∨ k = 1) → Q (.ref l) H) ∧ (¬ (xs = [] ∨ k = 1) → ∀ p, H p = none → Q (.ref p) (upd H p (.tup (List.replicate k.toNat xs).flatten)))
section
variable {X : Cx}
theorem op_repA : OpR X (binaryOp .Mult) (rRepA X.K) := by
  intro pins s σ H x y v u Q I rx ry h
  obtain ⟨l, k, xs, rfl, rfl, hT, h0, h1, hz, q1, q2⟩ := h
  by_cases hb : 2 ≤ k ∧ xs ≠ []
  · exact op_repT pins s σ H _ _ _ _ Q I rx ry ⟨l, k, xs, rfl, rfl, hT, hb.2, hb.1, h1, hz, q2 fun z => z.elim hb.2 fun z => by omega⟩
  cases rx
  obtain ⟨t, rfl⟩ := ry
  obtain ⟨its, r, ⟨⟨cls, dd, data, sl⟩, ho, hc, n, hd⟩, hs⟩ := I.tuple hT
  simp only at hc hd
  subst hc hd
  have hle : its.length = xs.length := r.length.symm
  have c0 : (decide (k < -(2 ^ 63)) || decide (k ≥ 2 ^ 63)) = false := by
    rw [decide_eq_false (by omega), decide_eq_false (by omega)] <;> rfl
  have hie : its.toArray.isEmpty = true ↔ xs = [] := by
    constructor
    · intro z
      have : its = [] := by simpa using z
      rw [this] at hle
      exact List.eq_nil_of_length_eq_zero hle.symm
    · intro z
      rw [z] at hle
      have : its = [] := List.eq_nil_of_length_eq_zero hle
      simp [this]
  by_cases hs1 : xs = [] ∨ k = 1
  · have c1 : (its.toArray.isEmpty || k == 1) = true := by
      rcases hs1 with z | z
      · rw [hie.mpr z]; rfl
      · rw [z]; simp
    refine wpAny_binaryOp_repeat_ref (T := "tuple") (U := "int") (by decide) ⟨_, ho, rfl⟩ (fun s' => typeIs_int s' k t) noFill_tuple_mul F.fills_int_mul F.slot_int_rmul repeat_tuple F.slot_int_index.lookup
      (call_meets F.slot_int_rmul (typeIs_int s k t) F.entry_int_rmul (F.args_int_rmul_2 _ _) (int_rmul_tuple k t l its.toArray n dd sl)
        ⟨ho, rfl, ⟨_, ho, rfl⟩, call_meets F.slot_tuple_mul ⟨_, ho, rfl⟩ F.entry_tuple_mul (F.args_tuple_mul_2 _ _) (tuple_mulS l its.toArray n k t c0 c1) ⟨⟨_, _, ho⟩, ?_⟩⟩)
    exact ⟨.ref l, H, I, rfl, q1 hs1⟩
  · have c1 : (its.toArray.isEmpty || k == 1) = false := by
      cases e : its.toArray.isEmpty with
      | true => exact absurd (.inl (hie.mp e)) hs1
      | false => exact beq_eq_false_iff_ne.mpr fun z => hs1 (.inr z)
    have hk : k ≤ 0 := by
      by_cases h2 : 2 ≤ k
      · exact absurd ⟨h2, fun z => hs1 (.inl z)⟩ hb
      · have : k ≠ 1 := fun z => hs1 (.inr z)
        omega
    have c2 : (decide (k ≤ 0) || its.toArray.isEmpty) = true := by rw [decide_eq_true hk]; rfl
    refine wpAny_binaryOp_repeat_ref (T := "tuple") (U := "int") (by decide) ⟨_, ho, rfl⟩ (fun s' => typeIs_int s' k t) noFill_tuple_mul F.fills_int_mul F.slot_int_rmul repeat_tuple F.slot_int_index.lookup
      (call_meets F.slot_int_rmul (typeIs_int s k t) F.entry_int_rmul (F.args_int_rmul_2 _ _) (int_rmul_tuple k t l its.toArray n dd sl)
        ⟨ho, rfl, ⟨_, ho, rfl⟩, call_meets F.slot_tuple_mul ⟨_, ho, rfl⟩ F.entry_tuple_mul (F.args_tuple_mul_2 _ _) (tuple_mul0 l its.toArray n k t c0 c1 c2) ⟨⟨_, _, ho⟩, ?_⟩⟩)
    have e0 : (List.replicate k.toNat xs).flatten = [] := by
      have : k.toNat = 0 := by omega
      rw [this]; rfl
    refine ⟨.ref s.heap.objs.size, _, I.laid (t' := s.toks) (o := .tup (List.replicate k.toNat xs).flatten) (fun b ob q => Heap.get?_push_of_some _ q) (Nat.le_refl _) ?_, rfl, q2 hs1 _ (I.hok.fresh (Nat.le_refl _))⟩
    rw [e0]
    exact ⟨Nat.zero_le _, [], .nil, IsTup.new _ _⟩
end
def mulT : D → D → Option D
  | .tup xs, .int k => if decide (-1000 ≤ k) && decide (k ≤ 1000) && Nat.ble xs.length 1000 && !isCh (List.replicate k.toNat xs).flatten then some (.tup (List.replicate k.toNat xs).flatten) else none
  | _, _ => none
theorem o_mulT {K : PySem.W.Frag} : Op2 K (rRepA K) mulT := fun {c os ρ μ σ H x y d1 d2 d Q} r p1 p2 e q => by
  unfold mulT at e
  split at e
  · rename_i xs k
    split at e
    · rename_i hl
      cases e
      simp only [Bool.and_eq_true, decide_eq_true_eq] at hl
      obtain ⟨a, vs, rfl, g1, g2⟩ := p1.inv_tup
      have hlen : vs.length ≤ 1000 := by rw [g2.length]; exact Nat.le_of_ble_eq_true hl.1.2
      have hc : isCh (List.replicate k.toNat xs).flatten = false := by simpa using hl.2
      refine ⟨a, k, vs, rfl, p2.inv_int, vw_le.sqT g1, hl.1.1.1, hl.1.1.2, hlen, fun z => ?_, fun _ p n => VOk.newT0 q r (g2.rep _) hc n⟩
      rcases z with z | z
      · subst z
        cases g2
        have e0 : (List.replicate k.toNat ([] : List D)).flatten = [] := by
          induction k.toNat with
          | zero => rfl
          | succ n ih => rw [List.replicate_succ, List.flatten_cons, ih]; rfl
        rw [e0] at q
        exact VOk.same q r (.tup g1 .nil (.no rfl))
      · subst z
        have e0 : (List.replicate (1 : Int).toNat xs).flatten = xs := by
          show (List.replicate 1 xs).flatten = xs
          simp
        rw [e0] at q
        exact VOk.same q r (.tup g1 g2 (.no (by rw [e0] at hc; exact hc)))
    · cases e
  · cases e
/-! ### t[::-1] -/
section
variable {prog : Program} {w : World} {A : Around} {E : Value → Shared → Prop} {s : Shared}
theorem sliceApplied_rev {sl : Addr} {t : Tok} {n : Nat} {Q : Int × Int × Nat → Shared → Prop} (hs : s.heap.IsSliceOf sl .none .none (.int (-1) t))
    (h : Q ((n : Int) - 1, -1, n) s) : wpAny (model prog w) A (Builtin.Slice.sliceApplied (.ref sl) (pure (n : Int))) Q E s := by
  obtain ⟨os, hos, hcs, hds⟩ := id hs
  unfold Builtin.Slice.sliceApplied Builtin.Slice.sliceFields
  refine wpAny_bind (wpAny_bind (wpAny_field hos hds (x := .none) rfl (wpAny_bind (wpAny_field hos hds (x := .none) rfl (wpAny_bind (wpAny_field hos hds (x := .int (-1) t) rfl (wpAny_pure ?_)))))))
  refine wpAny_bind (slicePart_int ?_)
  show wpAny _ _ (if ((-1 : Int) == 0) = true then _ else _) _ _ s
  rw [if_neg (by decide)]
  refine wpAny_bind (slicePart_none (wpAny_bind (slicePart_none (wpAny_bind (wpAny_pure ?_)))))
  have e1 : Builtin.Slice.sliceAdjust none none (-1) (n : Int) = ((n : Int) - 1, -1) := by
    unfold Builtin.Slice.sliceAdjust
    simp
  show wpAny _ _ (match Builtin.Slice.sliceAdjust none none (-1) (n : Int) with | (lo, hi) => pure (lo, (-1 : Int), Builtin.Slice.slicePlaces lo hi (-1))) _ _ s
  rw [e1]
  have e2 : Builtin.Slice.slicePlaces ((n : Int) - 1) (-1) (-1) = n := by
    unfold Builtin.Slice.slicePlaces
    simp
    split <;> omega
  show wpAny _ _ (pure ((n : Int) - 1, (-1 : Int), Builtin.Slice.slicePlaces ((n : Int) - 1) (-1) (-1))) _ _ s
  rw [e2]
  exact wpAny_pure h
theorem fm_congr {α β : Type} {f g : α → Option β} : ∀ {l : List α}, (∀ k, k ∈ l → f k = g k) → l.filterMap f = l.filterMap g
  | [], _ => rfl
  | a :: l, h => by
    rw [List.filterMap_cons, List.filterMap_cons, h a (by simp), fm_congr fun k hk => h k (List.mem_cons_of_mem _ hk)]
theorem pick_rev (xs : Array Value) : ((List.range xs.size).filterMap fun (k : Nat) => xs[((xs.size : Int) - 1 + (k : Int) * (-1)).toNat]?).toArray = xs.toList.reverse.toArray := by
  have e : ∀ k, k ∈ List.range xs.size → xs[((xs.size : Int) - 1 + (k : Int) * (-1)).toNat]? = xs.toList.reverse[k]? := fun k hk => by
    have hk := List.mem_range.mp hk
    have e2 : ((xs.size : Int) - 1 + (k : Int) * (-1)).toNat = xs.size - 1 - k := by omega
    rw [e2, List.getElem?_reverse (by simpa using hk)]
    simp
  have h2 : (List.range xs.size).filterMap (fun (k : Nat) => xs[((xs.size : Int) - 1 + (k : Int) * (-1)).toNat]?) = xs.toList.reverse := by
    have h3 : ∀ (l : List Value) (n : Nat), n = l.length → (List.range n).filterMap (fun k => l[k]?) = l := fun l n hn => by
      subst hn
      induction l with
      | nil => rfl
      | cons a l ih =>
        rw [List.length_cons, List.range_succ_eq_map, List.filterMap_cons]
        simp only [List.getElem?_cons_zero]
        rw [List.filterMap_map]
        have : ((fun k => (a :: l)[k]?) ∘ Nat.succ) = fun k => l[k]? := by funext k; simp
        rw [this, ih]
    rw [fm_congr e]
    exact h3 _ _ (by simp)
  rw [h2]
theorem getItem_tuple_rev {t sl : Addr} {items : Array Value} {tk : Tok} {Q : Value → Shared → Prop} (ht : IsTup s.heap t items) (hs : s.heap.IsSliceOf sl .none .none (.int (-1) tk))
    (h : Q (.ref s.heap.objs.size) { s with heap := s.heap.push { cls := .type "tuple", data := .seq items.toList.reverse.toArray } })
    (hsz : items.size ≤ sizeLine) : wpAny (model prog w) A (getItem (.ref t) (.ref sl)) Q E s := by
  have htake : sizeOk (.seq items.toList.reverse.toArray) := by
    show items.toList.reverse.toArray.size ≤ sizeLine
    simpa using hsz
  obtain ⟨os, hos, hcs, hds⟩ := id hs
  have hTs : s.TypeIs (.ref sl) "slice" := ⟨os, hos, hcs⟩
  unfold getItem
  try with_reducible refine wpAny_holding ?_
  first | refine wpAny_bind (wpAny_pure ?_) | skip
  refine wpAny_bind (wpAny_sequenceKey ht.typeIs (by decide) ?_)
  refine wpAny_bind (wpAny_callSpecial?_slot (name := Str.ofString "__getitem__") ht.typeIs PyProof.Rows.slot_tuple_getitem
    (wpAny_call_entry PyProof.Rows.slot_tuple_getitem ht.typeIs entry_tuple_getitem ?_ (args_tuple_getitem _ _)))
  show wpAny _ _ (Builtin.Tuple.tupleItemsOf (.ref t) >>= _) _ _ s
  refine wpAny_bind (tupleItemsOf_ ht ?_)
  refine wpAny_bind (wpAny_typeOf hTs ?_)
  rw [if_pos (by decide)]
  refine wpAny_bind (sliceApplied_rev hs ?_)
  have hno : ¬ ((((items.size : Nat) : Int) - 1 == 0 && (-1 : Int) == 1 && items.size == items.size) = true) := by
    intro q
    rw [Bool.and_eq_true, Bool.and_eq_true] at q
    exact absurd q.1.2 (by decide)
  show wpAny _ _ (if (((items.size : Nat) : Int) - 1 == 0 && (-1 : Int) == 1 && items.size == items.size) = true then _ else _) _ _ s
  rw [if_neg hno, pick_rev]
  first
    | exact wpAny_bind (m := Builtin.Tuple.tupleExact _) (wpAny_newObj_type (wpAny_pure ⟨_, rfl, wpAny_pure h⟩) htake)
    | exact wpAny_bind (m := Builtin.Tuple.tupleExact _) (wpAny_newObj_type (wpAny_bind (wpAny_pure (wpAny_pure ⟨_, rfl, wpAny_pure h⟩))) htake)
    | exact wpAny_bind (wpAny_bind (m := Builtin.Tuple.tupleExact _) (wpAny_newObj_type (wpAny_pure (wpAny_pure ⟨_, rfl, wpAny_pure h⟩)) htake))
    | exact wpAny_bind (wpAny_bind (m := Builtin.Tuple.tupleExact _) (wpAny_newObj_type (wpAny_pure ⟨_, rfl, wpAny_pure h⟩) htake))
end
def tRevT (K : PySem.W.Frag) (te : TE) : TE := fun σ H Q => te σ H fun x H1 => ∃ a xs, x = .ref a ∧ SqT K H1 a xs ∧ NewT H1 xs.reverse Q
section
variable {X : Cx}
theorem pe_revT {e : Expr} {te : TE} {k : Nat} {p1 p2 p3 pos : Pos} (he : PE X e te) : PE X (.Subscript e (.Slice none none (some (.UnaryOp .USub (.Constant (.int 1) k p1) p2)) p3) pos) (tRevT X.K te) := by
  refine ⟨fun pins s σ H Q I h => ?_⟩
  refine Subscript_ (thn (he.run pins s σ H _ I h) fun v s1 ⟨x, H1, I1, r1, q1⟩ => ?_)
  obtain ⟨a, xs, ex, hx, q⟩ := q1
  subst ex
  cases r1
  have hst : PO X (some (.UnaryOp .USub (.Constant (.int 1) k p1) p2)) (tPart (tUn (rU fun i => .int (-i)) (tC (.int 1)))) := po_some (pe_un un_neg pe_int)
  refine wpAny_Slice (thn (po_none.run pins s1 σ H1 (fun o H2 => o = none ∧ H2 = H1) I1 ⟨rfl, rfl⟩) fun vl s2 ⟨l, H2, I2, pl, el, e2⟩ => ?_)
  subst el e2
  refine thn (po_none.run pins s2 σ H2 (fun o H3 => o = none ∧ H3 = H2) I2 ⟨rfl, rfl⟩) fun vu s3 ⟨u, H3, I3, pu, eu, e3⟩ => ?_
  subst eu e3
  refine thn (hst.run pins s3 σ H3 (fun o H4 => o = some (-1) ∧ H4 = H3) I3 ⟨1, rfl, -1, rfl, rfl, rfl⟩) fun vs s4 ⟨o, H4, I4, ps, eo, e4⟩ => ?_
  subst eo e4
  have I5 : Inv X pins σ H4 { s4 with heap := s4.heap.push { cls := .type "slice", data := .fields #[vl, vu, vs] } } := I4.kept (t' := s4.toks) fun b ob q => Heap.get?_push_of_some _ q
  obtain ⟨its, r, ht, hz⟩ := I5.tuple hx
  have hlen := r.length
  cases pl
  cases pu
  cases ps with
  | int _ tk =>
  show wpAny (model X.prog X.w) X.A (subscriptTail e (.Slice none none (some (.UnaryOp .USub (.Constant (.int 1) k p1) p2)) p3) (.ref a) (.ref s4.heap.objs.size)) (EP X pins σ Q) X.xe { s4 with heap := s4.heap.push { cls := .type "slice", data := .fields #[.none, .none, .int (-1) tk] } }
  refine tail_any (ops := [.ref a, .ref s4.heap.objs.size]) ht.typeIs (PyProof.Rows.slot_tuple_getitem.lookup) ?_ (by with_unfolding_all rfl)
  refine getItem_tuple_rev ht (Heap.IsSliceOf.new _ _ _ _) ?_ (by rw [List.size_toArray]; omega)
  exact NewT.ep (t' := s4.toks) I5 (by rw [List.length_reverse]; exact hz) r.reverse q
end
def revTD : D → Option D
  | .tup xs => some (.tup xs.reverse)
  | _ => none
theorem dRevT {X : Cx} {cl : Nat → Addr} {W : WX} {f : XD} {e : Expr} {k : Nat} {p1 p2 p3 pos : Pos} (he : PE X e (tE X.K cl W f)) : PE X (.Subscript e (.Slice none none (some (.UnaryOp .USub (.Constant (.int 1) k p1) p2)) p3) pos) (tE X.K cl W (xUn revTD f)) := pe_imp (pe_revT he) fun σ H Q => by
  rintro ⟨c, os, ρ, μ, r, h⟩
  refine ⟨c, os, ρ, μ, r, (Out.bind h).imp (fun d1 μ1 h1 => ?_) fun _ _ q => q⟩
  intro v1 H1 r1 e1 p1
  obtain ⟨d, e, h3⟩ := Out.ofO h1
  unfold revTD at e
  split at e
  · cases e
    obtain ⟨a, vs, z, g1, g2⟩ := p1.inv_tup
    subst z
    exact ⟨a, vs, rfl, vw_le.sqT g1, VOk.newT (VOk.mono e1 h3) r1 g2.reverse⟩
  · cases e
end DC
set_option Elab.async false
set_option linter.all false
set_option maxRecDepth 100000
set_option maxHeartbeats 4000000
/-! DC: enumerate of tuples and texts. -/
namespace DC
open PySem PySem.Spec PyProof.Rows L2
open AutoSeq1 (wpAny_loadPart')
section
variable {prog : Program} {w : World} {A : Around} {E : Value → Shared → Prop} {s : Shared}
theorem meets_enumT (l : Addr) (items : Array Value) (n : Nat) (dct : Option Addr) (sl : Array (Option Value)) :
    Meets (Builtin.«enumerate.__new__» ⟨[.type "enumerate", .ref l], []⟩) (fun _ R s => s.heap.get? l = some { cls := .type "tuple", dict := dct, data := .seq items n, slots := sl } ∧
      R (.ok (.ret (.ref (s.heap.push { cls := .type "tuple_iterator", data := .fields #[.ref l, .int 0 0] }).objs.size)))
        { s with heap := (s.heap.push { cls := .type "tuple_iterator", data := .fields #[.ref l, .int 0 0] }).push { cls := .type "enumerate", data := .fields #[.none, .bool false, .ref s.heap.objs.size, rawInt 0, .none, .none] } }) :=
  .of_wp fun prog w A R s h => by
    obtain ⟨hp, g, d, tk, os⟩ := s; obtain ⟨hl, h⟩ := h
    have hsub := sub_enumerate
    have hL : Heap.IsTuple (Shared.heap ⟨hp, g, d, tk, os⟩) l items := ⟨_, hl, rfl, n, rfl⟩
    wp_walk using wpAny_loadPart' hl
    refine wpAny_stack_any fun st => wpAny_pure ?_
    split
    · rename_i c _ _ _ _ _
      cases (c == Value.type "enumerate")
      · wp_walk using wpAny_loadPart' hl, wpAny_pyIter_tuple hL
        exact ⟨_, rfl, h⟩
      · wp_walk using wpAny_loadPart' hl, wpAny_pyIter_tuple hL
        exact ⟨_, rfl, h⟩
    · wp_walk using wpAny_loadPart' hl, wpAny_pyIter_tuple hL
      exact ⟨_, rfl, h⟩
theorem call_enumT {l : Addr} {items : Array Value} {Q : Value → Shared → Prop} (hL : s.heap.IsTuple l items)
    (h : ∀ h', IsEnum h' (s.heap.objs.size + 1) s.heap.objs.size 0 .none → h'.IsTupleIter s.heap.objs.size l 0 → h'.objs.size = s.heap.objs.size + 2 →
      (∀ b o, s.heap.get? b = some o → h'.get? b = some o) → Q (.ref (s.heap.objs.size + 1)) { s with heap := h' }) :
    wpAny (model prog w) A (call (.type "enumerate") [.ref l]) Q E s := by
  obtain ⟨⟨c, dct, dt, sl⟩, hl, hc, n, hd⟩ := hL
  replace hc : c = .type "tuple" := hc
  replace hd : dt = .seq items n := hd
  subst hc hd
  refine callType_new F.called_enumerate (by decide) (F.typeCall_enumerate_1 _) (F.newCall_enumerate_1 _) (fun obj => F.args_object_init_2 obj _) F.entry_enumerate_new
    (meets_enumT l items n dct sl) ⟨hl, ?_⟩
  have hz : (s.heap.push { cls := .type "tuple_iterator", data := .fields #[.ref l, .int 0 0] }).objs.size = s.heap.objs.size + 1 := Heap.size_push ..
  show _ ∧ _
  rw [hz]
  have he : IsEnum ((s.heap.push { cls := .type "tuple_iterator", data := .fields #[.ref l, .int 0 0] }).push
      { cls := .type "enumerate", data := .fields #[.none, .bool false, .ref s.heap.objs.size, rawInt 0, .none, .none] }) (s.heap.objs.size + 1) s.heap.objs.size 0 .none := by
    have := Heap.get?_push_size (s.heap.push { cls := .type "tuple_iterator", data := .fields #[.ref l, .int 0 0] })
      (o := { cls := .type "enumerate", data := .fields #[.none, .bool false, .ref s.heap.objs.size, rawInt 0, .none, .none] }) rfl
    rw [hz] at this; exact this
  refine ⟨⟨_, he, rfl⟩, h _ he ⟨_, Heap.get?_push_of_some _ (Heap.get?_push_size _ rfl), rfl, rfl⟩ (by rw [Heap.size_push, hz]) fun b o x => Heap.get?_push_of_some _ (Heap.get?_push_of_some _ x)⟩
end
/-- the tuple at a as it stands at each turn, each item in a new pair -/
def IteT (K : PySem.W.Frag) (a : Addr) : It :=
  ⟨fun i H => ∃ (xs : List V) (x : V), SqT K H a xs ∧ xs[i]? = some x, fun i H v H' => ∃ T x, v = .ref T ∧ H T = none ∧ H' = upd H T (.tup [.int (i : Nat), x]) ∧ ∀ xs, SqT K H a xs → xs[i]? = some x, fun i H => ∃ xs : List V, SqT K H a xs ∧ xs.length = i⟩
theorem turn_enumT {P : Program} {w : World} {K : PySem.W.Frag} {elts : List Expr} {kk : Nat} {tpos : Pos} {a e it : Addr} (hae : e ≠ a) (hai : a ≠ it) :
    Turn P w K (.Tuple elts kk tpos) (IteT K a) [e, it] e (fun i h => (∃ old, IsEnum h e it ((i : Nat) : Int) old) ∧ h.IsTupleIter it a i ∧ e ≠ it) where
  mem := by simp
  obj := fun i h st b hb => by
    obtain ⟨⟨old, he⟩, ⟨o, ho, hc, hd⟩, _⟩ := st
    have e' : b = e ∨ b = it := by simpa using hb
    rcases e' with z | z
    · rw [z]; exact ⟨_, he, fun v q => nomatch q⟩
    · rw [z]; exact ⟨o, ho, fun v q => by rw [hd] at q; cases q⟩
  keep := fun i h h' st k => let ⟨⟨old, he⟩, hi, hne⟩ := st; ⟨⟨old, k e (by simp) _ he⟩, hi.at fun o q => k it (by simp) o q, hne⟩
  item := by
    intro X hP hw hK hc i pins s σ H E I hf st hg
    subst hP hw hK
    obtain ⟨⟨old, he⟩, hit, hne⟩ := st
    obtain ⟨xs, x, hq, hx⟩ := hg
    obtain ⟨its, rv, p, hz⟩ := I.tuple hq
    obtain ⟨u, hu, ru⟩ := rv.get hx
    have hel : e < s.heap.objs.size := Heap.lt_size he
    have hil : it < s.heap.objs.size := by obtain ⟨_, q, _⟩ := hit; exact Heap.lt_size q
    have hlt : i < its.toArray.size := by
      have := (List.getElem?_eq_some_iff.mp hu).1
      simpa using this
    have D := Draws.tuple (prog := X.prog) (w := X.w) (A := X.A.in1) (I.ok.hd hc) it a hai its.toArray
    refine wpAny_pyNext_enum_itemD D he ⟨hit, (show s.heap.IsTuple a its.toArray from p)⟩ hlt hne (by simp [hne, hae]) fun y h' tk hy ho hst' hT hsz hk => ?_
    have ey : y = u := by
      have h1 : its.toArray[i]? = some u := by simpa using hu
      rw [h1] at hy
      exact (Option.some.inj hy).symm
    subst ey
    refine ⟨_, rfl, wpAny_letOwnedTupleGo_enum (s := { s with heap := h', toks := tk + 1 }) ho fun h'' he' sb => ?_⟩
    have hT2 : h''.get? s.heap.objs.size = some { cls := .type "tuple", data := .seq #[.int i tk, y] } := (sb.2 _ (Nat.ne_of_gt hel)).trans hT
    have new : ObjOk X.prog X.w (upd H s.heap.objs.size (.tup [.int (i : Nat), x])) h'' s.heap.objs.size (.tup [.int (i : Nat), x]) :=
      ⟨by show 2 ≤ sizeLine; decide, [.int i tk, y], .cons ⟨_, rfl⟩ (.cons ru .nil), ⟨_, hT2, rfl, _, rfl⟩⟩
    have I1 : Inv X pins σ (upd H s.heap.objs.size (.tup [.int (i : Nat), x])) { s with heap := h'', toks := tk + 1 } :=
      I.turnedNew (ch := [e, it]) (fun b ob hb q => (sb.2 b (fun z => hb (by simp [z]))).trans (hk b ob (fun z => hb (by simp [z])) (fun z => hb (by simp [z])) q)) hf (Nat.le_refl _) new
    refine ⟨.ref s.heap.objs.size, _, I1, rfl, ⟨_, x, rfl, I.hok.fresh (Nat.le_refl _), rfl, fun ys hy => by rw [I.tuple_inj hy hq]; exact hx⟩, ⟨⟨y, ?_⟩, hst'.1.at fun o q => (sb.2 it (Ne.symm hne)).trans q, hne⟩, fun b hb => ?_⟩
    · have e1 : ((i + 1 : Nat) : Int) = (i : Int) + 1 := by omega
      rw [e1]; exact he'
    · have hb' : b < s.heap.objs.size := by
        have e' : b = e ∨ b = it := by simpa using hb
        rcases e' with z | z
        · rw [z]; exact hel
        · rw [z]; exact hil
      rw [upd_ne (Nat.ne_of_lt hb')]
      exact (hf b hb).1
  done := by
    intro X hP hw hK hc i pins s σ H E I hf st hg
    subst hP hw hK
    obtain ⟨⟨old, he⟩, hit, hne⟩ := st
    obtain ⟨xs, hq, hx⟩ := hg
    obtain ⟨its, rv, p, hz⟩ := I.tuple hq
    obtain ⟨f0, f1, f2, f3, f4, f5⟩ := hf it (by simp)
    have hl := rv.length
    have D := Draws.tuple (prog := X.prog) (w := X.w) (A := X.A.in1) (I.ok.hd hc) it a hai its.toArray
    have hsz : its.toArray.size = i := by rw [List.size_toArray, ← hl, hx]
    exact wpAny_pyNext_enum_endD D he (by rw [hsz]; exact ⟨hit, (show s.heap.IsTuple a its.toArray from p)⟩) fun h' eb => ⟨rfl, I.turned (t' := s.toks) (fun b o hb q => eb b o hb q) f0 f1 f3 f4 f5⟩
  self := fun A i s Q E st h => let ⟨⟨_, he⟩, _⟩ := st; wpAny_pyIter_enum he h
def iEnumT (K : PySem.W.Frag) (ta : TA) : TI := fun σ H R => ta σ H fun vs H1 => ∃ a xs, vs = [.ref a] ∧ SqT K H1 a xs ∧ R (IteT K a) H1
theorem pi_enumT {X : Cx} {e : Expr} {ta : TA} {p pos tpos : Pos} {elts : List Expr} {kk : Nat} (hg : Gl X "enumerate") (hm : X.mg "enumerate" = none) (ha : PA X [e] ta) (hs : starEach [e] X.env = [(false, eval e X.env)] := by rfl) :
    PI X (.Tuple elts kk tpos) (.Call (.Name "enumerate" p) [e] [] pos) (iEnumT X.K ta) := by
  refine ⟨fun pins s σ H R I h => ?_⟩
  refine Call_ (ld_blt I hg hm boot_enumerate (PyProof.Rows.callWith_type1 (thn (ha.run pos pins s σ H _ I h) fun us s1 ⟨vs, H1, I1, r1, q1⟩ => ?_) hs rfl))
  obtain ⟨a, xs, ex, hq, q⟩ := q1
  subst ex
  cases r1 with
  | cons r rr =>
    cases rr
    cases r
    obtain ⟨its, rv, p', hz⟩ := I1.tuple hq
    have hal : a < s1.heap.objs.size := by obtain ⟨o, ho, _⟩ := (show s1.heap.IsTuple a its.toArray from p'); exact Heap.lt_size ho
    refine call_enumT (show s1.heap.IsTuple a its.toArray from p') fun h' he hit hsz hk => wpAny_pyIter_enum he ?_
    have I2 : Inv X pins σ H1 { s1 with heap := h' } := I1.kept (t' := s1.toks) hk
    refine ⟨s1.heap.objs.size + 1, [s1.heap.objs.size + 1, s1.heap.objs.size], _, _, H1, rfl, I2, turn_enumT (a := a) (e := s1.heap.objs.size + 1) (it := s1.heap.objs.size) (Nat.ne_of_gt (Nat.lt_succ_of_lt hal)) (Nat.ne_of_lt hal), ⟨⟨.none, he⟩, hit, Nat.succ_ne_self _⟩, fun b hb => ?_, q⟩
    have e' : b = s1.heap.objs.size + 1 ∨ b = s1.heap.objs.size := by simpa using hb
    have hle : s1.heap.objs.size ≤ b := by
      rcases e' with z | z
      · rw [z]; exact Nat.le_add_right _ _
      · rw [z]; exact Nat.le_refl _
    exact I1.fpOk hle (I1.hok.fresh hle)
theorem walk_enumT {K : PySem.W.Frag} {a : Addr} {xs : List V} : Walk (IteT K a) xs.length (fun H => SqT K H a xs) (YPair (fun i => some (.int (i : Nat))) (fun i => xs[i]?)) := by
  refine ⟨fun i _ hi q => ⟨xs, xs[i], q, by simp [hi]⟩, fun _ q => ⟨xs, q, rfl⟩, fun i H v H' _ q y => ?_⟩
  obtain ⟨T, x, h1, h2, h3, h4⟩ := y
  exact ⟨T, .int (i : Nat), x, h1, h2, h3, rfl, h4 xs q⟩
/-- the signs of a text, each in a new pair -/
def IteS (z : Str) : It :=
  ⟨fun i _ => i < z.cps.size, fun i H v H' => ∃ T c, v = .ref T ∧ H T = none ∧ z.cps[i]? = some c ∧ H' = upd H T (.tup [.int (i : Nat), .str ⟨#[c]⟩]), fun i _ => z.cps.size = i⟩
theorem turn_enumS {P : Program} {w : World} {K : PySem.W.Frag} {elts : List Expr} {kk : Nat} {tpos : Pos} {z : Str} {t : Tok} {e it : Addr} :
    Turn P w K (.Tuple elts kk tpos) (IteS z) [e, it] e (fun i h => (∃ old, IsEnum h e it ((i : Nat) : Int) old) ∧ h.IsStrIter it (strIterType z) z t i ∧ e ≠ it) where
  mem := by simp
  obj := fun i h st b hb => by
    obtain ⟨⟨old, he⟩, ⟨o, ho, hc, hd⟩, _⟩ := st
    have e' : b = e ∨ b = it := by simpa using hb
    rcases e' with z | z
    · rw [z]; exact ⟨_, he, fun v q => nomatch q⟩
    · rw [z]; exact ⟨o, ho, fun v q => by rw [hd] at q; cases q⟩
  keep := fun i h h' st k => let ⟨⟨old, he⟩, ⟨o, ho, r⟩, hne⟩ := st; ⟨⟨old, k e (by simp) _ he⟩, ⟨o, k it (by simp) o ho, r⟩, hne⟩
  item := by
    intro X hP hw hK hc i pins s σ H E I hf st hg
    subst hP hw hK
    obtain ⟨⟨old, he⟩, hit, hne⟩ := st
    have hel : e < s.heap.objs.size := Heap.lt_size he
    have hil : it < s.heap.objs.size := by obtain ⟨_, q, _⟩ := hit; exact Heap.lt_size q
    have D := Draws.text (prog := X.prog) (w := X.w) (A := X.A.in1) (I.ok.hd hc) it z t
    refine wpAny_pyNext_enum_itemD D he hit hg hne (by simp [hne]) fun y h' tk hy ho hst' hT hsz hk => ?_
    obtain ⟨c, u, hc1, hc2⟩ := hy
    subst hc2
    refine ⟨_, rfl, wpAny_letOwnedTupleGo_enum (s := { s with heap := h', toks := tk + 1 }) ho fun h'' he' sb => ?_⟩
    have hT2 : h''.get? s.heap.objs.size = some { cls := .type "tuple", data := .seq #[.int i tk, .str ⟨#[c]⟩ u] } := (sb.2 _ (Nat.ne_of_gt hel)).trans hT
    have new : ObjOk X.prog X.w (upd H s.heap.objs.size (.tup [.int (i : Nat), .str ⟨#[c]⟩])) h'' s.heap.objs.size (.tup [.int (i : Nat), .str ⟨#[c]⟩]) :=
      ⟨by show 2 ≤ sizeLine; decide, [.int i tk, .str ⟨#[c]⟩ u], .cons ⟨_, rfl⟩ (.cons ⟨_, rfl⟩ .nil), ⟨_, hT2, rfl, _, rfl⟩⟩
    have I1 : Inv X pins σ (upd H s.heap.objs.size (.tup [.int (i : Nat), .str ⟨#[c]⟩])) { s with heap := h'', toks := tk + 1 } :=
      I.turnedNew (ch := [e, it]) (fun b ob hb q => (sb.2 b (fun z => hb (by simp [z]))).trans (hk b ob (fun z => hb (by simp [z])) (fun z => hb (by simp [z])) q)) hf (Nat.le_refl _) new
    refine ⟨.ref s.heap.objs.size, _, I1, rfl, ⟨_, c, rfl, I.hok.fresh (Nat.le_refl _), hc1, rfl⟩, ⟨⟨.str ⟨#[c]⟩ u, ?_⟩, ?_, hne⟩, fun b hb => ?_⟩
    · have e1 : ((i + 1 : Nat) : Int) = (i : Int) + 1 := by omega
      rw [e1]; exact he'
    · obtain ⟨o, ho2, r⟩ := hst'
      exact ⟨o, (sb.2 it (Ne.symm hne)).trans ho2, r⟩
    · have hb' : b < s.heap.objs.size := by
        have e' : b = e ∨ b = it := by simpa using hb
        rcases e' with z | z
        · rw [z]; exact hel
        · rw [z]; exact hil
      rw [upd_ne (Nat.ne_of_lt hb')]
      exact (hf b hb).1
  done := by
    intro X hP hw hK hc i pins s σ H E I hf st hg
    subst hP hw hK
    obtain ⟨⟨old, he⟩, hit, hne⟩ := st
    obtain ⟨f0, f1, f2, f3, f4, f5⟩ := hf it (by simp)
    have D := Draws.text (prog := X.prog) (w := X.w) (A := X.A.in1) (I.ok.hd hc) it z t
    have hg' : z.cps.size = i := hg
    exact wpAny_pyNext_enum_endD D he (by rw [hg']; exact hit) fun h' eb => ⟨rfl, I.turned (t' := s.toks) (fun b o hb q => eb b o hb q) f0 f1 f3 f4 f5⟩
  self := fun A i s Q E st h => let ⟨⟨_, he⟩, _⟩ := st; wpAny_pyIter_enum he h
def iEnumS (ta : TA) : TI := fun σ H R => ta σ H fun vs H1 => ∃ z, vs = [.str z] ∧ R (IteS z) H1
theorem pi_enumS {X : Cx} {e : Expr} {ta : TA} {p pos tpos : Pos} {elts : List Expr} {kk : Nat} (hg : Gl X "enumerate") (hm : X.mg "enumerate" = none) (ha : PA X [e] ta) (hs : starEach [e] X.env = [(false, eval e X.env)] := by rfl) :
    PI X (.Tuple elts kk tpos) (.Call (.Name "enumerate" p) [e] [] pos) (iEnumS ta) := by
  refine ⟨fun pins s σ H R I h => ?_⟩
  refine Call_ (ld_blt I hg hm boot_enumerate (PyProof.Rows.callWith_type1 (thn (ha.run pos pins s σ H _ I h) fun us s1 ⟨vs, H1, I1, r1, q1⟩ => ?_) hs rfl))
  obtain ⟨z, ex, q⟩ := q1
  subst ex
  cases r1 with
  | cons r rr =>
    cases rr
    obtain ⟨t, rfl⟩ := r
    refine call_enumerate_str fun h' he hit hsz hk => wpAny_pyIter_enum he ?_
    have I2 : Inv X pins σ H1 { s1 with heap := h' } := I1.kept (t' := s1.toks) hk
    refine ⟨s1.heap.objs.size + 1, [s1.heap.objs.size + 1, s1.heap.objs.size], _, _, H1, rfl, I2, turn_enumS (z := z) (t := t) (e := s1.heap.objs.size + 1) (it := s1.heap.objs.size), ⟨⟨.none, he⟩, hit, Nat.succ_ne_self _⟩, fun b hb => ?_, q⟩
    have e' : b = s1.heap.objs.size + 1 ∨ b = s1.heap.objs.size := by simpa using hb
    have hle : s1.heap.objs.size ≤ b := by
      rcases e' with z | z
      · rw [z]; exact Nat.le_add_right _ _
      · rw [z]; exact Nat.le_refl _
    exact I1.fpOk hle (I1.hok.fresh hle)
theorem walk_enumS {z : Str} : Walk (IteS z) z.cps.size (fun _ => True) (YPair (fun i => some (.int (i : Nat))) (fun i => (z.cps[i]?).map fun c => V.str ⟨#[c]⟩)) := by
  refine ⟨fun i _ hi _ => hi, fun _ _ => rfl, fun i H v H' _ _ y => ?_⟩
  obtain ⟨T, c, h1, h2, h3, h4⟩ := y
  exact ⟨T, .int (i : Nat), .str ⟨#[c]⟩, h1, h2, h4, rfl, by show (z.cps[i]?).map _ = _; rw [h3]; rfl⟩
/-! ### enumerate of lists, tuples, texts; zip of lists, of tuples: by values -/
def wEnumA (f : XD) : XL := fun ρ μ => (f ρ μ).bind fun d μ' => match d with
  | .lst xs => .ok (enumD xs) μ'
  | .tup xs => .ok (enumD xs) μ'
  | .str z => .ok (enumD (strD z)) μ'
  | _ => .fail
section
variable {X : Cx} {cl : Nat → Addr} {W : WX} {tg e e2 : Expr} {f : XD} {fs : XL} {p pos tpos : Pos} {elts : List Expr} {kk : Nat}
theorem enumD_len (xs : List D) : (enumD xs).length = xs.length := by unfold enumD; rw [List.length_mapIdx]
theorem enumD_get {xs : List D} {i : Nat} {d : D} (h : xs[i]? = some d) : (enumD xs)[i]? = some (.tup [.int (i : Nat), d]) := by
  unfold enumD
  rw [List.getElem?_mapIdx, h]
  rfl
theorem jEnumA (h : PE X e (tE X.K cl W f)) (hg : Gl X "enumerate") (hm : X.mg "enumerate" = none) (hs : starEach [e] X.env = (false, eval e X.env) :: starEach [] X.env := by rfl) (hs' : starEach [e] X.env = [(false, eval e X.env)] := by rfl) :
    PI X (.Tuple elts kk tpos) (.Call (.Name "enumerate" p) [e] [] pos) (tI X.K cl W (wEnumA f)) := by
  have ha := aCons h (aNil (cl := cl) (W := W)) hs
  refine pi_imp (pi_or (pi_enum hg hm ha hs') (pi_or (pi_enumT hg hm ha hs') (pi_enumS hg hm ha hs'))) fun σ H R => ?_
  rintro ⟨c, os, ρ, μ, r, h⟩
  have h' := Out.bind h
  have one : ∀ d μ1, f ρ μ = .ok d μ1 → lCons f lNil ρ μ = .ok [d] μ1 := fun d μ1 e => by
    unfold lCons
    rw [e]
    rfl
  cases ef : f ρ μ with
  | fail => rw [ef] at h'; exact h'.elim
  | exc x μ1 =>
    rw [ef] at h'
    refine .inl ⟨c, os, ρ, μ, r, ?_⟩
    unfold lCons
    rw [ef]
    exact h'
  | ok d μ1 =>
    rw [ef] at h'
    cases d with
    | lst es =>
      refine .inl ⟨c, os, ρ, μ, r, ?_⟩
      rw [one _ _ ef]
      intro vs H1 r1 k pv
      obtain ⟨v, z, pu⟩ := pv.one
      subst z
      obtain ⟨a, us, rfl, g1, g2⟩ := pu.inv_lst
      refine ⟨a, us, rfl, .inl (.inl (vw_le _ _ g1)), h' _ H1 r1 k ⟨fun H => SqL X.K H a us, fun H2 e => .inl (.inl (e _ _ g1)), ?_⟩⟩
      rw [show (enumD es).length = us.length by rw [enumD_len, g2.length]]
      refine walk_enum.mono (fun _ h => h) fun i H x H' _ _ y => ?_
      obtain ⟨q, x, y, h1, h2, h3, h4, h5⟩ := y
      obtain ⟨d, e1, e2⟩ := g2.getV h5
      cases h4
      exact ⟨.tup [.int (i : Nat), d], enumD_get e1, .inr ⟨q, _, y, _, d, _, h1, h2, h3, .inl ⟨rfl, rfl⟩, rfl, .int _, e2⟩⟩
    | tup es =>
      refine .inr (.inl ⟨c, os, ρ, μ, r, ?_⟩)
      rw [one _ _ ef]
      intro vs H1 r1 k pv
      obtain ⟨v, z, pu⟩ := pv.one
      subst z
      obtain ⟨a, us, rfl, g1, g2⟩ := pu.inv_tup
      refine ⟨a, us, rfl, vw_le.sqT g1, h' _ H1 r1 k ⟨fun H => SqT X.K H a us, fun H2 e => e.sqT g1, ?_⟩⟩
      rw [show (enumD es).length = us.length by rw [enumD_len, g2.length]]
      refine walk_enumT.mono (fun _ h => h) fun i H x H' _ _ y => ?_
      obtain ⟨q, x, y, h1, h2, h3, h4, h5⟩ := y
      obtain ⟨d, e1, e2⟩ := g2.getV h5
      cases h4
      exact ⟨.tup [.int (i : Nat), d], enumD_get e1, .inr ⟨q, _, y, _, d, _, h1, h2, h3, .inl ⟨rfl, rfl⟩, rfl, .int _, e2⟩⟩
    | str z =>
      refine .inr (.inr ⟨c, os, ρ, μ, r, ?_⟩)
      rw [one _ _ ef]
      intro vs H1 r1 k pv
      obtain ⟨v, zz, pu⟩ := pv.one
      subst zz
      obtain ⟨e1, e2⟩ := pu.inv_str
      subst e1
      refine ⟨z, rfl, h' _ H1 r1 k ⟨fun _ => True, fun _ _ => trivial, ?_⟩⟩
      rw [show (enumD (strD z)).length = z.cps.size by rw [enumD_len]; unfold strD; rw [List.length_map, Array.length_toList]]
      refine walk_enumS.mono (fun _ h => h) fun i H x H' _ _ y => ?_
      obtain ⟨q, x, y, h1, h2, h3, h4, h5⟩ := y
      obtain ⟨ch, e3, e4⟩ := Option.map_eq_some_iff.mp h5
      cases h4
      subst e4
      refine ⟨.tup [.int (i : Nat), .str ⟨#[ch]⟩], enumD_get ?_, .inr ⟨q, _, _, _, .str ⟨#[ch]⟩, _, h1, h2, h3, .inl ⟨rfl, rfl⟩, rfl, .int _, .str ?_⟩⟩
      · unfold strD
        rw [List.getElem?_map, Array.getElem?_toList, e3]
        rfl
      · rw [strOk_iff] at e2
        have := List.all_eq_true.mp e2 ch (by
          have : z.cps.toList[i]? = some ch := by rw [Array.getElem?_toList, e3]
          exact List.mem_of_getElem? this)
        unfold strOk
        simpa using this
    | _ => exact h'.elim
def wZipA (fs : XL) : XL := fun ρ μ => (fs ρ μ).bind fun ds μ' => match ds with
  | [.lst xs, .lst ys] => .ok (List.zipWith pairD xs ys) μ'
  | [.tup xs, .tup ys] => .ok (List.zipWith pairD xs ys) μ'
  | [.tup xs, .lst ys] => .ok (List.zipWith pairD xs ys) μ'
  | [.lst xs, .tup ys] => .ok (List.zipWith pairD xs ys) μ'
  | _ => .fail
theorem pair_getN {xs ys : List V} {dx dy : List D} {K : PySem.W.Frag} {T : List Addr} {G : Hp} (px : RpA K T G xs dx) (py : RpA K T G ys dy) : ∀ i H x H', YPairN (fun i => xs[i]?) (fun i => ys[i]?) i H x H' → YD K T G (List.zipWith pairD dx dy) i H x H' := fun i H v H' => by
  rintro ⟨q, x, y, o, h1, h2, h3, ho, h4, h5⟩
  obtain ⟨d, e1, e2⟩ := px.getV h4
  obtain ⟨d', f1, f2⟩ := py.getV h5
  refine ⟨.tup [d, d'], ?_, .inr ⟨q, x, y, d, d', _, h1, h2, h3, .inr ⟨o, rfl, ho⟩, rfl, e2, f2⟩⟩
  rw [List.getElem?_zipWith, e1, f1]
  rfl
/-- a sequence told by a deep value -/
theorem seqK_of {T : List Addr} {c : Ct} {os : List (Option Addr)} {H : Hp} {K : PySem.W.Frag} {v : V} {k : Bool} {xs : List D} (h : Rp K T (vw c os H) v (if k then .tup xs else .lst xs)) :
    ∃ a us, v = .ref a ∧ (∀ H2, Exts (vw c os H) H2 → SqK K k H2 a us) ∧ RpA K T (vw c os H) us xs := by
  cases k
  · obtain ⟨a, us, rfl, g1, g2⟩ := Rp.inv_lst h
    exact ⟨a, us, rfl, fun H2 e => .inl (.inl (e _ _ g1)), g2⟩
  · obtain ⟨a, us, rfl, g1, g2⟩ := Rp.inv_tup h
    exact ⟨a, us, rfl, fun H2 e => e.sqT g1, g2⟩
theorem jZipA (h : PI X tg e (iZipK X.K (tL X.K cl W fs))) : PI X tg e (tI X.K cl W (wZipA fs)) := pi_imp h fun σ H R => by
  rintro ⟨c, os, ρ, μ, r, h⟩
  refine ⟨c, os, ρ, μ, r, (Out.bind h).imp (fun ds μ1 h1 => ?_) fun _ _ q => q⟩
  intro vs H1 r1 k pv
  have main : ∀ (k1 k2 : Bool) (xs ys : List D), ds = [if k1 then .tup xs else .lst xs, if k2 then .tup ys else .lst ys] →
      (∀ (J : It) (H2 : Hp), Rl X.K c os ρ μ1 σ H2 → Kp c H H2 → (∃ Gp, (∀ H3, Exts (vw c os H2) H3 → Gp H3) ∧ Walk J (List.zipWith pairD xs ys).length Gp (YD X.K c.T (vw c os H2) (List.zipWith pairD xs ys))) → R J H2) →
      ∃ k1 k2 a b xs ys, vs = [.ref a, .ref b] ∧ SqK X.K k1 H1 a xs ∧ SqK X.K k2 H1 b ys ∧ R (ItzK X.K k1 k2 a b) H1 := by
    intro k1 k2 xs ys ed q
    subst ed
    obtain ⟨v, w, z, pu, pw⟩ := pv.two
    subst z
    obtain ⟨a, us, rfl, g1, g2⟩ := seqK_of pu
    obtain ⟨b, ws, rfl, g3, g4⟩ := seqK_of pw
    refine ⟨k1, k2, a, b, us, ws, rfl, g1 _ vw_le, g3 _ vw_le, q _ H1 r1 k ⟨fun H => SqK X.K k1 H a us ∧ SqK X.K k2 H b ws, fun H2 e => ⟨g1 _ e, g3 _ e⟩, ?_⟩⟩
    exact (walk_zipK (by rw [List.length_zipWith, g2.length, g4.length])).mono (fun _ h => h) fun i H x H' _ _ y => pair_getN g2 g4 i H x H' y
  split at h1
  · exact main false false _ _ rfl h1
  · exact main true true _ _ rfl h1
  · exact main true false _ _ rfl h1
  · exact main false true _ _ rfl h1
  · exact h1.elim
end
end DC
set_option Elab.async false
set_option linter.all false
set_option maxRecDepth 100000
set_option maxHeartbeats 4000000
/-! DC: dicts; comprehensions with a name. -/
namespace DC
open PySem PySem.Spec PyProof.Rows L2
section
variable {K : PySem.W.Frag} {c : Ct} {os : List (Option Addr)} {ρ : Env} {μ : Store} {σ : L2.St} {H H' : Hp} {a : Addr} {Q : VK}
theorem Rl.tupSeen (r : Rl K c os ρ μ σ H) {b : Addr} {xs : List V} (h : H b = some (.tup xs)) : vw c os H b = some (.tup xs) := by
  refine vw_some.mpr ⟨h, fun z => ?_, fun z => ?_, fun z => ?_⟩
  · obtain ⟨o, e, n⟩ := r.dom b z
    rw [h] at e; cases e
    exact n xs rfl
  · obtain ⟨i, hi⟩ := List.getElem?_of_mem z
    have hlt : i < c.T.length := (List.getElem?_eq_some_iff.mp hi).1
    have h1 : i < μ.length := by rw [r.sm]; exact hlt
    have := r.st i b _ hi (List.getElem?_eq_getElem h1)
    rw [h] at this; cases this
  · obtain ⟨o, e, n⟩ := r.ownSomeN z
    rw [h] at e; cases e
    exact n xs rfl
/-! ### look up, put -/
def lookD {κ : Type} [DecidableEq κ] : List κ → List D → κ → Option D
  | k :: ks, v :: vs, j => if k = j then some v else lookD ks vs j
  | _, _, _ => none
def putVs {κ : Type} [DecidableEq κ] : List κ → List D → κ → D → List D
  | k :: ks, v :: vs, j, d => if k = j then d :: putVs ks vs j d else v :: putVs ks vs j d
  | _, vs, _, _ => vs
def putD {κ : Type} [DecidableEq κ] (ks : List κ) (vs : List D) (j : κ) (d : D) : List κ × List D := if j ∈ ks then (ks, putVs ks vs j d) else (ks ++ [j], vs ++ [d])
section
variable {κ : Type} [DecidableEq κ] {T : List Addr}
theorem look_ok : ∀ {kvs : List (κ × V)} {ks : List κ} {ds : List D} {k : κ}, kvs.map Prod.fst = ks → RpA K T H (kvs.map Prod.snd) ds → match lookD ks ds k with
    | some d => ∃ v, valV kvs k = some v ∧ Rp K T H v d
    | none => valV kvs k = none
  | [], _, _, k, rfl, r => by
    cases r
    show valV [] k = none
    rfl
  | (k0, v0) :: kvs, _, _, k, rfl, r => by
    cases r with
    | @cons _ _ d ds q r =>
      show match (if k0 = k then some d else lookD (kvs.map Prod.fst) ds k) with
        | some d => ∃ v, valV ((k0, v0) :: kvs) k = some v ∧ Rp K T H v d
        | none => valV ((k0, v0) :: kvs) k = none
      by_cases e : k0 = k
      · rw [if_pos e]
        exact ⟨v0, valV_pos (p := (k0, v0)) e, q⟩
      · rw [if_neg e, valV_neg (p := (k0, v0)) e]
        exact look_ok rfl r
theorem putVs_ok {k : κ} {v : V} {d : D} (p : Rp K T H v d) : ∀ {kvs : List (κ × V)} {ds : List D}, RpA K T H (kvs.map Prod.snd) ds → RpA K T H ((kvs.map fun kv => if kv.1 = k then (kv.1, v) else kv).map Prod.snd) (putVs (kvs.map Prod.fst) ds k d)
  | [], _, r => by cases r; exact .nil
  | (k0, v0) :: kvs, _, r => by
    cases r with
    | @cons _ _ d0 ds q r =>
      show RpA K T H ((if k0 = k then (k0, v) else (k0, v0)).2 :: _) (if k0 = k then d :: putVs (kvs.map Prod.fst) ds k d else d0 :: putVs (kvs.map Prod.fst) ds k d)
      by_cases e : k0 = k
      · rw [if_pos e, if_pos e]; exact .cons p (putVs_ok p r)
      · rw [if_neg e, if_neg e]; exact .cons q (putVs_ok p r)
theorem put_ok {k : κ} {v : V} {d : D} (p : Rp K T H v d) {kvs : List (κ × V)} {ks : List κ} {ds : List D} (e : kvs.map Prod.fst = ks) (r : RpA K T H (kvs.map Prod.snd) ds) :
    (putK kvs k v).map Prod.fst = (putD ks ds k d).1 ∧ RpA K T H ((putK kvs k v).map Prod.snd) (putD ks ds k d).2 := by
  subst e
  have ea : (kvs.any fun kv => decide (kv.1 = k)) = true ↔ k ∈ kvs.map Prod.fst := by
    rw [List.any_eq_true, List.mem_map]
    constructor
    · rintro ⟨x, hx, e⟩
      exact ⟨x, hx, of_decide_eq_true e⟩
    · rintro ⟨x, hx, e⟩
      exact ⟨x, hx, decide_eq_true e⟩
  unfold putK putD
  by_cases h : k ∈ kvs.map Prod.fst
  · rw [if_pos h, if_pos (ea.mpr h)]
    refine ⟨?_, putVs_ok p r⟩
    rw [List.map_map]
    apply List.map_congr_left
    intro x _
    show (if x.1 = k then (x.1, v) else x).1 = x.1
    split <;> rfl
  · rw [if_neg h, if_neg fun z => h (ea.mp z)]
    rw [List.map_append, List.map_append]
    exact ⟨rfl, r.append (.cons p .nil)⟩
end
def D.key : D → Option Key
  | .int i => some (.inl i)
  | .str x => some (.inr x)
  | _ => none
def D.keys : List D → Option (List Key)
  | [] => some []
  | d :: ds => (D.key d).bind fun k => (D.keys ds).map (k :: ·)
theorem key_ok {T : List Addr} {v : V} {d : D} {k : Key} (p : Rp K T H v d) (e : d.key = some k) : v = kV k := by
  cases d with
  | int i => cases e; exact p.inv_int
  | str x => cases e; exact p.inv_str.1
  | _ => cases e
theorem keys_ok {T : List Addr} : ∀ {ds : List D} {vs : List V} {ks : List Key}, RpA K T H vs ds → D.keys ds = some ks → vs = ks.map kV
  | [], _, _, r, e => by cases r; cases e; rfl
  | d :: ds, _, ks, r, e => by
    cases r with
    | cons q r =>
      obtain ⟨k, e1, e2⟩ := Option.bind_eq_some_iff.mp (show (D.key d).bind (fun k => (D.keys ds).map (k :: ·)) = some ks from e)
      obtain ⟨ks', e3, e4⟩ := Option.map_eq_some_iff.mp e2
      subst e4
      rw [key_ok q e1, keys_ok r e3]
      rfl
end
/-! ### {} and {k: v} -/
def xNewK : XD := fun _ μ => .ok (.dk [] []) μ
def xNewT : XD := fun _ μ => .ok (.dt [] []) μ
section
variable {K : PySem.W.Frag} {c : Ct} {os : List (Option Addr)} {ρ : Env} {μ : Store} {σ : L2.St} {H H' : Hp} {a : Addr} {Q : VK}
theorem Rl.frK (r : Rl K c os ρ μ σ H) {kvs : List (Key × V)} {ks : List Key} {ds : List D} (e : kvs.map Prod.fst = ks) (p : RpA K c.T (vw c os H) (kvs.map Prod.snd) ds) (n : H a = none) : Fr K c os ρ μ σ (upd H a (.dK kvs)) a (.dk ks ds) ∧ Kp c H (upd H a (.dK kvs)) := by
  obtain ⟨h1, h2, h3, h4⟩ := r.fresh n
  obtain ⟨q, x⟩ := r.av (o := .dK kvs) n
  exact ⟨⟨q, .dk upd_same e (p.mono x), h1, h2, h3, h4⟩, Kp.new n⟩
theorem Rl.frT (r : Rl K c os ρ μ σ H) {kvs : List (List Key × V)} {ks : List (List Key)} {ds : List D} (e : kvs.map Prod.fst = ks) (p : RpA K c.T (vw c os H) (kvs.map Prod.snd) ds) (n : H a = none) : Fr K c os ρ μ σ (upd H a (.dT kvs)) a (.dt ks ds) ∧ Kp c H (upd H a (.dT kvs)) := by
  obtain ⟨h1, h2, h3, h4⟩ := r.fresh n
  obtain ⟨q, x⟩ := r.av (o := .dT kvs) n
  exact ⟨⟨q, .dt upd_same e (p.mono x), h1, h2, h3, h4⟩, Kp.new n⟩
end
/-- {k: v}, k and v that read or change nothing new -/
def xDisp1 (k : Key) (d : D) : XD := fun _ μ => .ok (.dk [k] [d]) μ
section
variable {X : Cx} {cl : Nat → Addr} {W : WX} {fr : Bool} {pos pos' : Pos} {f fk fx fe : XD} {fs : XL} {o i e : Expr}
theorem dNewK : PE X (.Dict [] [] pos) (tF X.K cl W xNewK) := pe_imp pe_dnewK fun σ H Q => by
  rintro ⟨c, os, ρ, μ, r, h⟩
  intro p n
  obtain ⟨f, k⟩ := r.frK (kvs := []) rfl .nil n
  exact h p _ f k n
theorem dNewT : PE X (.Dict [] [] pos) (tF X.K cl W xNewT) := pe_imp pe_dnewT fun σ H Q => by
  rintro ⟨c, os, ρ, μ, r, h⟩
  intro p n
  obtain ⟨f, k⟩ := r.frT (kvs := []) rfl .nil n
  exact h p _ f k n
theorem dDisp1 {k : Key} {v : V} {d : D} (hk : PE X i (tC (kV k))) (hv : PE X e (tC v)) (hp : ∀ T Hv, Rp X.K T Hv v d) : PE X (.Dict [some i] [e] pos) (tF X.K cl W (xDisp1 k d)) :=
  pe_imp (pe_disp (pps_cons hk hv pps_nil) rfl rfl (by simp) (by simp)) fun σ H Q => by
  rintro ⟨c, os, ρ, μ, r, h⟩
  intro p n
  refine ⟨upd_same, [(k, v)], rfl, by simp, ?_⟩
  obtain ⟨f, kp⟩ := r.frK (kvs := [(k, v)]) rfl (.cons (hp _ _) .nil) n
  have e : upd (upd H p (.dK [])) p (.dK (mergeK [] [(k, v)])) = upd H p (.dK [(k, v)]) := by
    funext b
    by_cases hb : b = p
    · subst hb; rw [upd_same, upd_same]; rfl
    · rw [upd_ne hb, upd_ne hb, upd_ne hb]
  rw [e]
  exact h p _ f kp n
/-! ### d[k], d.get(k, x) -/
def getK (a b : D) : Option D := match a with
  | .dk ks vs => (D.key b).bind fun k => lookD ks vs k
  | _ => none
def get2K (a b x : D) : Option D := match a with
  | .dk ks vs => (D.key b).bind fun k => some ((lookD ks vs k).getD x)
  | _ => none
def xGetK (f fk : XD) : XD := fun ρ μ => (f ρ μ).bind fun a μ1 => (fk ρ μ1).bind fun b μ2 => Res.ofO (getK a b) μ2
def xGet2K (f fk fx : XD) : XD := fun ρ μ => (f ρ μ).bind fun a μ1 => match a with
  | .dk _ _ => (fk ρ μ1).bind fun b μ2 => (fx ρ μ2).bind fun x μ3 => Res.ofO (get2K a b x) μ3
  | _ => .fail
/-- the key is a tuple that is made there -/
def getT (a : D) (bs : List D) : Option D := match a with
  | .dt ks vs => (D.keys bs).bind fun k => lookD ks vs k
  | _ => none
def get2T (a : D) (bs : List D) (x : D) : Option D := match a with
  | .dt ks vs => (D.keys bs).bind fun k => some ((lookD ks vs k).getD x)
  | _ => none
def xGetT (f : XD) (fs : XL) : XD := fun ρ μ => (f ρ μ).bind fun a μ1 => (fs ρ μ1).bind fun bs μ2 => if lenOk bs then Res.ofO (getT a bs) μ2 else .fail
def xGet2T (f : XD) (fs : XL) (fx : XD) : XD := fun ρ μ => (f ρ μ).bind fun a μ1 => match a with
  | .dt _ _ => (fs ρ μ1).bind fun bs μ2 => if lenOk bs then (fx ρ μ2).bind fun x μ3 => Res.ofO (get2T a bs x) μ3 else .fail
  | _ => .fail
theorem dGetK (hu : X.A.units + 1 < cLine) (ho : PE X o (tE X.K cl W f)) (hi : PE X i (tE X.K cl W fk)) (hs : NoSl i := by intro _ _; rfl) : PE X (.Subscript o i pos) (tE X.K cl W (xGetK f fk)) := pe_imp (pe_dget hu ho hi hs) fun σ H Q => by
  rintro ⟨c, os, ρ, μ, r, h⟩
  refine ⟨c, os, ρ, μ, r, (Out.bind h).imp (fun d1 μ1 h1 => ?_) fun _ _ q => q⟩
  intro v1 H1 r1 e1 p1
  refine ⟨c, os, ρ, μ1, r1, (Out.bind h1).imp (fun d2 μ2 h2 => ?_) fun _ _ q => q.mono e1⟩
  intro v2 H2 r2 e2 p2
  obtain ⟨d, e, h3⟩ := Out.ofO h2
  unfold getK at e
  split at e
  · rename_i ks vs
    obtain ⟨k, e3, e4⟩ := Option.bind_eq_some_iff.mp e
    obtain ⟨a, kvs, z, g1, g2, g3⟩ := (p1.mono e2.vw).inv_dk
    subst z
    have q := look_ok (k := k) g2 g3
    rw [e4] at q
    obtain ⟨v, q1, q2⟩ := q
    refine ⟨a, v, rfl, .inl ⟨kvs, k, vw_le.rd g1, key_ok p2 e3, q1.symm⟩, VOk.same (VOk.mono (e1.trans e2) h3) r2 q2⟩
  · cases e
theorem dGet2K {apos cpos : Pos} (hu : X.A.units + 1 < cLine) (ho : PE X o (tE X.K cl W f)) (hi : PE X i (tE X.K cl W fk)) (hx : PE X e (tE X.K cl W fx)) (m : M2 X o "get" apos i e cpos) : PE X (.Call (.Attribute o "get" apos) [i, e] [] cpos) (tE X.K cl W (xGet2K f fk fx)) := pe_imp (pe_dget2 hu ho hi hx m) fun σ H Q => by
  rintro ⟨c, os, ρ, μ, r, h⟩
  refine ⟨c, os, ρ, μ, r, (Out.bind h).imp (fun d1 μ1 h1 => ?_) fun _ _ q => q⟩
  intro v1 H1 r1 e1 p1
  split at h1
  · rename_i ks vs
    obtain ⟨a, kvs, z, g1, g2, g3⟩ := p1.inv_dk
    subst z
    refine ⟨a, rfl, .inl ⟨kvs, vw_le.rd g1⟩, c, os, ρ, μ1, r1, (Out.bind h1).imp (fun d2 μ2 h2 => ?_) fun _ _ q => q.mono e1⟩
    intro v2 H2 r2 e2 p2
    refine ⟨c, os, ρ, μ2, r2, (Out.bind h2).imp (fun d3 μ3 h3 => ?_) fun _ _ q => q.mono (e1.trans e2)⟩
    intro v3 H3 r3 e3 p3
    obtain ⟨d, e, h4⟩ := Out.ofO h3
    have g1' := e3.vw.rd (e2.vw.rd g1)
    have g3' := (g3.mono e2.vw).mono e3.vw
    have q4 := VOk.mono ((e1.trans e2).trans e3) h4
    obtain ⟨k, e5, e6⟩ := Option.bind_eq_some_iff.mp (show (D.key d2).bind (fun k => some ((lookD ks vs k).getD d3)) = some d from e)
    cases e6
    have q := look_ok (k := k) g2 g3'
    refine ⟨valV kvs k, .inl ⟨kvs, k, vw_le.rd g1', key_ok p2 e5, rfl⟩, ?_⟩
    cases el : lookD ks vs k with
    | some dd =>
      rw [el] at q q4
      obtain ⟨v, q1, q2⟩ := q
      rw [q1]
      exact VOk.same q4 r3 q2
    | none =>
      rw [el] at q q4
      have q' : valV kvs k = none := q
      rw [q']
      exact VOk.same q4 r3 p3
  · exact h1.elim
/-- a tuple made as a key -/
def tKey (K : PySem.W.Frag) (cl : Nat → Addr) (W : WX) (fs : XL) : TE := fun σ H Q => ∃ c os ρ μ, Rl K c os ρ μ σ H ∧ Out (fs ρ μ) (fun ds μ' => lenOk ds = true ∧ ∀ b vs H', Rl K c os ρ μ' σ H' → Kp c H H' → H' b = some (.tup vs) → RpA K c.T (vw c os H') vs ds → Q (.ref b) H') (EOk K cl W c os ρ σ H)
theorem dKey {es : List Expr} {x1 : Nat} (h : PA X es (tL X.K cl W fs)) : PE X (.Tuple es x1 pos) (tKey X.K cl W fs) := pe_imp (pe_tup h) fun σ H Q => by
  rintro ⟨c, os, ρ, μ, r, h⟩
  refine ⟨c, os, ρ, μ, r, h.imp (fun ds μ1 h1 => ?_) fun _ _ q => q⟩
  intro vs H1 r1 e1 p1
  refine ⟨by rw [p1.length]; exact lenOk_le h1.1, fun p n => ?_⟩
  exact h1.2 p vs _ (r1.new n) (e1.trans (Kp.new n)) upd_same (p1.mono (r1.newX n))
theorem dGetT {es : List Expr} {x1 : Nat} {p2 : Pos} (hu : X.A.units + 1 < cLine) (ho : PE X o (tE X.K cl W f)) (hi : PA X es (tL X.K cl W fs)) (hs : NoSl (.Tuple es x1 p2) := by intro _ _; rfl) : PE X (.Subscript o (.Tuple es x1 p2) pos) (tE X.K cl W (xGetT f fs)) := pe_imp (pe_dget hu ho (dKey hi) hs) fun σ H Q => by
  rintro ⟨c, os, ρ, μ, r, h⟩
  refine ⟨c, os, ρ, μ, r, (Out.bind h).imp (fun d1 μ1 h1 => ?_) fun _ _ q => q⟩
  intro v1 H1 r1 e1 p1
  refine ⟨c, os, ρ, μ1, r1, (Out.bind h1).imp (fun ds μ2 h2 => ?_) fun _ _ q => q.mono e1⟩
  by_cases hl : lenOk ds = true
  · rw [if_pos hl] at h2
    obtain ⟨d, e, h3⟩ := Out.ofO h2
    refine ⟨hl, fun b vs H2 r2 e2 hb p2 => ?_⟩
    unfold getT at e
    split at e
    · rename_i ks us
      obtain ⟨k, e3, e4⟩ := Option.bind_eq_some_iff.mp e
      obtain ⟨a, kvs, z, g1, g2, g3⟩ := (p1.mono e2.vw).inv_dt
      subst z
      have q := look_ok (k := k) g2 g3
      rw [e4] at q
      obtain ⟨v, q1, q2⟩ := q
      refine ⟨a, v, rfl, .inr ⟨kvs, k, b, vw_le.rd g1, rfl, by rw [hb, keys_ok p2 e3], q1.symm⟩, VOk.same (VOk.mono (e1.trans e2) h3) r2 q2⟩
    · cases e
  · rw [if_neg hl] at h2
    exact h2.elim
theorem dGet2T {apos cpos p2 : Pos} {es : List Expr} {x1 : Nat} (hu : X.A.units + 1 < cLine) (ho : PE X o (tE X.K cl W f)) (hi : PA X es (tL X.K cl W fs)) (hx : PE X e (tE X.K cl W fx)) (m : M2 X o "get" apos (.Tuple es x1 p2) e cpos) : PE X (.Call (.Attribute o "get" apos) [.Tuple es x1 p2, e] [] cpos) (tE X.K cl W (xGet2T f fs fx)) := pe_imp (pe_dget2 hu ho (dKey hi) hx m) fun σ H Q => by
  rintro ⟨c, os, ρ, μ, r, h⟩
  refine ⟨c, os, ρ, μ, r, (Out.bind h).imp (fun d1 μ1 h1 => ?_) fun _ _ q => q⟩
  intro v1 H1 r1 e1 p1
  split at h1
  · rename_i ks vs
    obtain ⟨a, kvs, z, g1, g2, g3⟩ := p1.inv_dt
    subst z
    refine ⟨a, rfl, .inr ⟨kvs, vw_le.rd g1⟩, c, os, ρ, μ1, r1, (Out.bind h1).imp (fun ds μ2 h2 => ?_) fun _ _ q => q.mono e1⟩
    by_cases hl : lenOk ds = true
    · rw [if_pos hl] at h2
      refine ⟨hl, fun b us H2 r2 e2 hb p2 => ?_⟩
      refine ⟨c, os, ρ, μ2, r2, (Out.bind h2).imp (fun d3 μ3 h3 => ?_) fun _ _ q => q.mono (e1.trans e2)⟩
      intro v3 H3 r3 e3 p3
      obtain ⟨d, e, h4⟩ := Out.ofO h3
      have g1' := e3.vw.rd (e2.vw.rd g1)
      have g3' := (g3.mono e2.vw).mono e3.vw
      have q4 := VOk.mono ((e1.trans e2).trans e3) h4
      obtain ⟨k, e5, e6⟩ := Option.bind_eq_some_iff.mp (show (D.keys ds).bind (fun k => some ((lookD ks vs k).getD d3)) = some d from e)
      cases e6
      have q := look_ok (k := k) g2 g3'
      have hb3 : H3 b = some (.tup us) := vw_le _ _ (e3.vw _ _ (r2.tupSeen hb))
      refine ⟨valV kvs k, .inr ⟨kvs, k, b, vw_le.rd g1', rfl, by rw [hb3, keys_ok p2 e5], rfl⟩, ?_⟩
      cases el : lookD ks vs k with
      | some dd =>
        rw [el] at q q4
        obtain ⟨v, q1, q2⟩ := q
        rw [q1]
        exact VOk.same q4 r3 q2
      | none =>
        rw [el] at q q4
        have q' : valV kvs k = none := q
        rw [q']
        exact VOk.same q4 r3 p3
    · rw [if_neg hl] at h2
      exact h2.elim
  · exact h1.elim
/-! ### x[k] = e, x an own dict -/
def sPutK (i : Nat) (fk fe : XD) : SD := fun ρ μ => (fe ρ μ).st ρ fun d μ1 => match ρ[i]? with
  | some (.ow (.dk ks vs)) => (fk ρ μ1).st ρ fun k μ2 => match D.key k with
    | some k => if lenOk ks then .nx (ρ.set i (.ow (.dk (putD ks vs k d).1 (putD ks vs k d).2))) μ2 else .fail
    | none => .fail
  | _ => .fail
def sPutT (i : Nat) (fs : XL) (fe : XD) : SD := fun ρ μ => (fe ρ μ).st ρ fun d μ1 => match ρ[i]? with
  | some (.ow (.dt ks vs)) => (fs ρ μ1).st ρ fun bs μ2 => if lenOk bs then (match D.keys bs with
    | some k => if lenOk ks then .nx (ρ.set i (.ow (.dt (putD ks vs k d).1 (putD ks vs k d).2))) μ2 else .fail
    | none => .fail) else .fail
  | _ => .fail
theorem lenOk_lt {α : Type} {xs : List α} (h : lenOk xs = true) : xs.length < sizeLine := Nat.lt_of_le_of_lt (Nat.le_of_ble_eq_true h) (by rw [sizeLine_eq]; decide)
theorem hPutK {s0 : Stmt} {n : Nat} (h : PS X s0 (sDPut (tVar n) (tE X.K cl W fk) (tE X.K cl W fe))) : PS X s0 (tS X.K cl W fr (sPutK n fk fe)) := ps_imp h fun E σ H => by
  rintro ⟨c, os, ρ, μ, r, h⟩
  refine ⟨c, os, ρ, μ, r, (SOut.st h).imp (fun d μ1 h1 => ?_) fun _ _ q => q⟩
  intro v1 H1 r1 e1 p1
  split at h1
  · rename_i ks vs e0
    obtain ⟨a, g1, g2, g3⟩ := r1.getOw e0
    refine ⟨.ref a, g1, c, os, ρ, μ1, r1, (SOut.st h1).imp (fun kd μ2 h2 => ?_) fun _ _ q => q⟩
    intro v2 H2 r2 e2 p2
    split at h2
    · rename_i k ek
      by_cases hl : lenOk ks = true
      · rw [if_pos hl] at h2
        obtain ⟨a', k1, k2, k3⟩ := r2.getOw e0
        have ea : a' = a := by
          rw [g1] at k1
          have := Option.some.inj (Option.some.inj k1)
          cases this; rfl
        subst ea
        cases k3 with
        | @dk kvs _ _ q z kr =>
          have hlen : kvs.length < sizeLine := by
            have : kvs.length = ks.length := by rw [← z, List.length_map]
            rw [this]; exact lenOk_lt hl
          obtain ⟨w1, w2⟩ := put_ok (k := k) (p1.mono e2.vw) z kr
          exact ⟨a', _, rfl, .inl ⟨kvs, _, q, key_ok p2 ek, hlen, rfl⟩, h2 os σ _ (r2.change k1 k2 (.dk upd_same w1 w2))⟩
      · rw [if_neg hl] at h2
        exact h2.elim
    · exact h2.elim
  · exact h1.elim
theorem hPutT {s0 : Stmt} {n : Nat} (h : PS X s0 (sDPut (tVar n) (tKey X.K cl W fs) (tE X.K cl W fe))) : PS X s0 (tS X.K cl W fr (sPutT n fs fe)) := ps_imp h fun E σ H => by
  rintro ⟨c, os, ρ, μ, r, h⟩
  refine ⟨c, os, ρ, μ, r, (SOut.st h).imp (fun d μ1 h1 => ?_) fun _ _ q => q⟩
  intro v1 H1 r1 e1 p1
  split at h1
  · rename_i ks vs e0
    obtain ⟨a, g1, g2, g3⟩ := r1.getOw e0
    refine ⟨.ref a, g1, c, os, ρ, μ1, r1, (SOut.st h1).imp (fun bs μ2 h2 => ?_) fun _ _ q => q⟩
    by_cases hb : lenOk bs = true
    · rw [if_pos hb] at h2
      refine ⟨hb, fun b us H2 r2 e2 hu p2 => ?_⟩
      split at h2
      · rename_i k ek
        by_cases hl : lenOk ks = true
        · rw [if_pos hl] at h2
          obtain ⟨a', k1, k2, k3⟩ := r2.getOw e0
          have ea : a' = a := by
            rw [g1] at k1
            have := Option.some.inj (Option.some.inj k1)
            cases this; rfl
          subst ea
          cases k3 with
          | @dt kvs _ _ q z kr =>
            have hlen : kvs.length < sizeLine := by
              have : kvs.length = ks.length := by rw [← z, List.length_map]
              rw [this]; exact lenOk_lt hl
            obtain ⟨w1, w2⟩ := put_ok (k := k) (p1.mono e2.vw) z kr
            exact ⟨a', _, rfl, .inr ⟨kvs, _, b, q, rfl, by rw [hu, keys_ok p2 ek], hlen, rfl⟩, h2 os σ _ (r2.change k1 k2 (.dt upd_same w1 w2))⟩
        · rw [if_neg hl] at h2
          exact h2.elim
      · exact h2.elim
    · rw [if_neg hb] at h2
      exact h2.elim
  · exact h1.elim
/-! ### for k in x, x an own dict; it stands and is locked from there on -/
theorem ps_lockP {s0 : Stmt} {t : TS} (h : PS X s0 t) : PS X s0 (fun D σ H => ∃ d u, H d = some u ∧ Mut (some u) ∧ ∀ od, t D σ (upd H d (.frz od u))) :=
  ⟨fun pins s σ H D I hw => by
    obtain ⟨d, u, hd, mu, hw⟩ := hw
    obtain ⟨od, I1⟩ := I.lock hd mu
    exact h.run pins s σ _ _ I1 (hw od)⟩
def keyD : Key → D
  | .inl i => .int i
  | .inr x => .str x
def keyOk : Key → Bool
  | .inl _ => true
  | .inr x => strOk x
theorem keyD_ok {T : List Addr} {K : PySem.W.Frag} {H : Hp} {k : Key} (h : keyOk k = true) : Rp K T H (kV k) (keyD k) := by
  cases k with
  | inl i => exact .int i
  | inr x => exact .str h
end
section
variable {K : PySem.W.Frag} {c : Ct} {os : List (Option Addr)} {ρ : Env} {μ : Store} {σ : L2.St} {H H' : Hp} {a : Addr} {d : D}
/-- an own thing is written to, as it stands to the others -/
theorem Rl.updOwn (r : Rl K c os ρ μ σ H) {i : Nat} {o : HO} (h2 : os[i]? = some (some a)) (h3 : i < ρ.length) (h1 : σ[i]? = some (some (.ref a))) (hv : vw c (os.set i none) (upd H a o) a = some o → Rp K c.T (vw c (os.set i none) (upd H a o)) (.ref a) d) : Rl K c (os.set i none) (ρ.set i (.fz d)) μ σ (upd H a o) := by
  have hm : some a ∈ os := List.mem_of_getElem? h2
  have l1 : i < os.length := (List.getElem?_eq_some_iff.mp h2).1
  obtain ⟨w1, w2, w3⟩ := r.own a hm
  have nin : some a ∉ os.set i none := fun q => by
    obtain ⟨j, hj⟩ := List.getElem?_of_mem q
    by_cases e : i = j
    · subst e
      rw [List.getElem?_set_self l1] at hj; cases hj
    · rw [List.getElem?_set_ne e] at hj
      exact e (r.inj i j a h2 hj)
  have up : Exts (vw c os H) (vw c (os.set i none) (upd H a o)) := fun b u hb => by
    obtain ⟨q1, q2, q3, q4⟩ := vw_some.mp hb
    have nb : b ≠ a := fun z => q4 (by rw [z]; exact hm)
    exact vw_some.mpr ⟨by rw [upd_ne nb]; exact q1, q2, q3, fun z => q4 (mem_set_none z)⟩
  have hr := hv (vw_some.mpr ⟨upd_same, w2, w1, nin⟩)
  refine ⟨by simp [r.lo], by simp [r.lr], fun j u s x q1 q2 q3 => ?_, fun j k b q1 q2 => ?_, fun b q => r.own b (mem_set_none q), r.tA, r.tn, r.sm, fun n b ds q1 q2 => ?_, fun b u q1 q2 => ?_, fun b q => ?_⟩
  · by_cases hj : i = j
    · subst hj
      rw [List.getElem?_set_self l1] at q1
      rw [List.getElem?_set_self h3] at q2
      rw [h1] at q3
      cases q1; cases q2; cases q3
      exact hr
    · rw [List.getElem?_set_ne hj] at q1 q2
      have q := r.sl j u s x q1 q2 q3
      have hu : ∀ b, u = some b → b ≠ a := fun b eb z => by
        subst eb
        subst z
        exact hj (r.inj i j b h2 q1)
      unfold SlAt at q ⊢
      split at q
      · trivial
      · exact q.mono up
      · refine ⟨q.1, q.2.mono up (fun w hw => ?_)⟩
        rw [upd_ne (hu _ rfl)]; exact hw
      · exact q.elim
  · have g : ∀ m, (os.set i none)[m]? = some (some b) → os[m]? = some (some b) := fun m hm => by
      by_cases e : i = m
      · subst e
        rw [List.getElem?_set_self l1] at hm; cases hm
      · rw [List.getElem?_set_ne e] at hm; exact hm
    exact r.inj j k b (g j q1) (g k q2)
  · have nb : b ≠ a := fun z => by subst z; exact w1 (List.mem_of_getElem? q1)
    rw [upd_ne nb]; exact r.st n b ds q1 q2
  · have nb : b ≠ a := fun z => by
      subst z
      rw [q1] at w3; cases w3
    rw [upd_ne nb]
    exact r.keep b u q1 q2
  · obtain ⟨u, z, nu⟩ := r.dom b q
    have nb : b ≠ a := fun z => by subst z; exact w2 q
    exact ⟨u, by rw [upd_ne nb]; exact z, nu⟩
end
section
variable {X : Cx} {cl : Nat → Addr} {W : WX} {fr : Bool} {tg : Expr} {x : Str} {p : Pos} {is : List Nat}
def sForK (i : Nat) (g : Tg) (F : SD) : SD := fun ρ μ => match ρ[i]? with
  | some (.ow (.dk ks vs)) => if ks.all keyOk then sForL g F (ks.map keyD) (ρ.set i (.fz (.dk ks vs))) μ else .fail
  | _ => .fail
theorem hForK {s0 : Stmt} {i : Nat} {g : Tg} {F : SD} (h : PS X s0 (tFor (iKeys (tVar i)) (tG X.K is g) (tS X.K cl W fr F))) : PS X s0 (tS X.K cl W fr (sForK i g F)) := ps_imp (ps_lockP h) fun E σ H => by
  rintro ⟨c, os, ρ, μ, r, h⟩
  unfold sForK at h
  split at h
  · rename_i ks vs e0
    by_cases hk : ks.all keyOk = true
    · rw [if_pos hk] at h
      obtain ⟨a, g1, g2, g3⟩ := r.getOw e0
      cases g3 with
      | @dk kvs _ _ q z kr =>
        refine ⟨a, .dK kvs, q, trivial, fun od => ?_⟩
        have hi : i < ρ.length := (List.getElem?_eq_some_iff.mp e0).1
        have hm : some a ∈ os := List.mem_of_getElem? g2
        have up : Exts (vw c os H) (vw c (os.set i none) (upd H a (.frz od (.dK kvs)))) := fun b u hb => by
          obtain ⟨q1, q2, q3, q4⟩ := vw_some.mp hb
          have nb : b ≠ a := fun z => q4 (by rw [z]; exact hm)
          exact vw_some.mpr ⟨by rw [upd_ne nb]; exact q1, q2, q3, fun z => q4 (mem_set_none z)⟩
        have r1 := r.updOwn (d := .dk ks vs) (o := .frz od (.dK kvs)) g2 hi g1 fun hv => .dk (.inr ⟨od, hv⟩) z (kr.mono up)
        have hl1 : i < os.length := (List.getElem?_eq_some_iff.mp g2).1
        have nin : some a ∉ os.set i none := fun q => by
          obtain ⟨j, hj⟩ := List.getElem?_of_mem q
          by_cases e : i = j
          · subst e
            rw [List.getElem?_set_self hl1] at hj; cases hj
          · rw [List.getElem?_set_ne e] at hj
            exact e (r.inj i j a g2 hj)
        have hseen : vw c (os.set i none) (upd H a (.frz od (.dK kvs))) a = some (.frz od (.dK kvs)) :=
          vw_some.mpr ⟨upd_same, (r.own a hm).2.1, (r.own a hm).1, nin⟩
        -- the walk over the keys
        refine ⟨.ref a, g1, a, od, rfl, .inl ⟨kvs, upd_same, ?_⟩⟩
        have hw : Walk (Itk a od kvs) (ks.map keyD).length (fun H => H a = some (.frz od (.dK kvs))) (YD X.K c.T (vw c (os.set i none) (upd H a (.frz od (.dK kvs)))) (ks.map keyD)) := by
          have el : (ks.map keyD).length = kvs.length := by rw [List.length_map, ← z, List.length_map]
          rw [el]
          refine walk_keys.mono (fun _ h => h) fun j H x H' _ _ y => ?_
          obtain ⟨y1, k, v, y2, y3⟩ := y
          have ek : ks[j]? = some k := by rw [← z, List.getElem?_map, y2]; rfl
          refine ⟨keyD k, by rw [List.getElem?_map, ek]; rfl, .inl ⟨y1, ?_⟩⟩
          rw [y3]
          exact keyD_ok (List.all_eq_true.mp hk k (List.mem_of_getElem? ek))
        have hk' := r1.holds
        have r1h := r1.hold
        have hG : ∀ b o, vw c (os.set i none) (upd H a (.frz od (.dK kvs))) b = some o → b ∉ c.T ∧ ¬ c.A b := fun b o h => ⟨(vw_some.mp h).2.2.1, (vw_some.mp h).2.1⟩
        refine for_it hw (fun j σ H2 => ∃ os' ρ μ, Rl X.K (c.hold (vw c (os.set i none) (upd H a (.frz od (.dK kvs))))) os' ρ μ σ H2 ∧ SOut X.K cl W fr (c.hold (vw c (os.set i none) (upd H a (.frz od (.dK kvs))))) E (sForL g F ((ks.map keyD).drop j) ρ μ)) ⟨_, _, μ, r1h, SOut.hold h hk'⟩ ?_ ?_ ?_
        · rintro j σ H2 _ ⟨os', ρ, μ, r, _⟩
          exact vw_le _ _ (r.sees hG _ _ hseen)
        · rintro j x σ H2 H' hi ⟨os', ρ, μ, r, h⟩ y
          obtain ⟨d, e, r', p, k⟩ := y.rp r
          have hd : (ks.map keyD).drop j = d :: (ks.map keyD).drop (j + 1) := by
            obtain ⟨hl, e'⟩ := List.getElem?_eq_some_iff.mp e
            rw [← e']
            exact List.drop_eq_getElem_cons hl
          rw [hd] at h
          unfold sForL at h
          cases eg : g d ρ with
          | none => rw [eg] at h; exact h.elim
          | some ρ1 =>
            rw [eg] at h
            refine ⟨_, os', ρ, μ, d, ρ1, r', p, eg, fun os2 σ2 r2 s2 => ?_⟩
            refine ⟨_, os2, ρ1, μ, r2, ?_⟩
            have h' : SOut X.K cl W fr (c.hold (vw c (os.set i none) (upd H a (.frz od (.dK kvs))))) E (match F ρ1 μ with
              | .nx ρ' μ' => sForL g F ((ks.map keyD).drop (j + 1)) ρ' μ'
              | .ct ρ' μ' => sForL g F ((ks.map keyD).drop (j + 1)) ρ' μ'
              | .bk ρ' μ' => .nx ρ' μ'
              | r => r) := h
            cases eF : F ρ1 μ with
            | nx ρ' μ' => rw [eF] at h'; exact fun os' σ' H' r' => ⟨os', ρ', μ', r', h'⟩
            | ct ρ' μ' => rw [eF] at h'; exact fun os' σ' H' r' => ⟨os', ρ', μ', r', h'⟩
            | bk ρ' μ' => rw [eF] at h'; exact h'
            | rt d μ' => rw [eF] at h'; exact h'
            | exc x ρ' μ' => rw [eF] at h'; exact h'
            | fail => rw [eF] at h'; exact h'
        · rintro σ H2 ⟨os', ρ, μ, r, h⟩
          rw [List.drop_length] at h
          exact h os' σ H2 r
    · rw [if_neg hk] at h
      exact h.elim
  · exact h.elim
/-- x = [.. for ..] -/
theorem hAsgLc {s0 : Stmt} {i : Nat} {f : XL} {g : Tg} {t : XB} {fe : XD} {vs : List Nat} (h : PS X s0 (tAsg (tLc (tI X.K cl W f) (tG X.K is g) (tT X.K cl W0 t) (tE X.K cl W0 fe) vs) (gName i))) (hv : ∀ i ∈ is, i ∈ vs := by decide) : PS X s0 (tS X.K cl W fr (sAsgF i (xLc f g t fe vs))) :=
  hAsgF (ps_imp h fun E σ H q => lc_imp hv σ H _ q)
end
end DC
set_option Elab.async false
set_option linter.all false
set_option maxRecDepth 100000
set_option maxHeartbeats 4000000
/-! DC: sorted of dicts; sum of tuples; range downwards. -/
namespace DC
open PySem PySem.Spec PyProof.Rows L2
inductive All2 {α β : Type} (R : α → β → Prop) : List α → List β → Prop
  | nil : All2 R [] []
  | cons {a : α} {b : β} {as : List α} {bs : List β} : R a b → All2 R as bs → All2 R (a :: as) (b :: bs)
theorem All2.of_map {α β γ : Type} {R : β → γ → Prop} {f : α → β} {g : α → γ} : ∀ {l : List α}, (∀ x, x ∈ l → R (f x) (g x)) → All2 R (l.map f) (l.map g)
  | [], _ => .nil
  | x :: l, h => .cons (h x (by simp)) (All2.of_map fun y hy => h y (List.mem_cons_of_mem _ hy))
def pairAt (H : Hp) (v : Value) : Int × Int := match v with
  | .ref t => match H t with
    | some (.tup [.int i, .int j]) => (i, j)
    | _ => (0, 0)
  | _ => (0, 0)
def rSortedDT : List V → Hp → VK → Prop := fun vs H Q => ∃ (a : Addr) (kvs : List (List Key × V)) (ps : List (Int × Int)), vs = [.ref a] ∧ Rd H a (.dT kvs) ∧ kvs.map Prod.fst = ps.map (fun p => [Sum.inl p.1, Sum.inl p.2]) ∧
  ∀ (qs : List (Int × Int)) (ys : List V) (p : Addr), qs.Perm ps → qs.Pairwise (fun a b => SrtO.lexB b a = false) → All2 (fun y q => ∃ t, y = V.ref t ∧ H t = some (.tup [.int q.1, .int q.2])) ys qs → H p = none → Q (.ref p) (upd H p (.lst ys))
theorem KT_map {H : Hp} : ∀ {kvs : List (List Key × V)} {xs : List (List Key × Addr × Value)} {ps : List (Int × Int)}, KT H kvs xs → kvs.map Prod.fst = ps.map (fun p => [Sum.inl p.1, Sum.inl p.2]) → All2 (fun (x : List Key × Addr × Value) q => H x.2.1 = some (.tup [.int q.1, .int q.2])) xs ps
  | _, _, ps, .nil, e => by
    cases ps with
    | nil => exact .nil
    | cons p ps => cases e
  | _, _, ps, .cons (a := kv) h t, e => by
    cases ps with
    | nil => cases e
    | cons p ps =>
      rw [List.map_cons, List.map_cons] at e
      obtain ⟨e1, e2⟩ := List.cons.inj e
      refine .cons ?_ (KT_map t e2)
      obtain ⟨_, h2, _⟩ := h
      rw [h2, e1]
      rfl
theorem All2.length {α β : Type} {R : α → β → Prop} : ∀ {as : List α} {bs : List β}, All2 R as bs → as.length = bs.length
  | _, _, .nil => rfl
  | _, _, .cons _ t => by rw [List.length_cons, List.length_cons, t.length]
theorem All2.get {α β : Type} {R : α → β → Prop} : ∀ {as : List α} {bs : List β} {i : Nat} {a : α}, All2 R as bs → as[i]? = some a → ∃ b, bs[i]? = some b ∧ R a b
  | _, _, i, a, .nil, e => by simp at e
  | _, _, 0, a, .cons (b := b) h t, e => by
    have e' := Option.some.inj (by simpa using e)
    subst e'
    exact ⟨b, rfl, h⟩
  | _, _, i + 1, a, .cons h t, e => by
    obtain ⟨b, h1, h2⟩ := All2.get (i := i) t (by simpa using e)
    exact ⟨b, by simpa using h1, h2⟩
section
variable {X : Cx}
theorem call_sortedDT (hcalm : X.calm = true) : CallR X (.builtin "sorted") rSortedDT := by
  intro pins s σ H xs us Q I r q
  obtain ⟨a, kvs, ps, ex, hd, hks, q⟩ := q
  subst ex
  obtain ⟨u, eu, rx⟩ := vals1 r
  subst eu
  cases rx
  obtain ⟨z, lo, xs, rel, dd⟩ := dt_rd I.hok hd
  obtain ⟨o, es, ep, ho, hx, hdat, hes, his, hn⟩ := dd
  have l1 : kvs.length = xs.length := Paired.length rel
  have l2 : es.size = xs.length := size_of_entries hes
  have hal := KT_map rel hks
  have h16 : es.size ≤ sizeLine := by rw [l2, ← l1]; exact z
  refine Calls.call_function_entry PyProof.Rows.kind_sorted PyProof.Rows.plain_sorted PyProof.Rows.entry_sorted (PyProof.Rows.args_sorted1 _) ?_
  unfold Builtin.«sorted»
  refine wpAny_bind (m := checkCount "sorted" 1 1 _) (wpAny_pure ?_)
  refine wpAny_bind (PySem.W.kdu_collect (A := X.A.in1) (KdlSrc.rawDict (es := es) (ep := ep) lo) (I.ok.hd hcalm) ⟨o, ho, hx, hdat⟩ h16 fun h' tk acc hk hacc => ?_)
  have hlen : acc.toList.length = xs.length := by rw [Array.length_toList, hacc.1, l2]
  have hacc2 : acc.toList = xs.map (fun x => Value.ref x.2.1) := by
    apply List.ext_getElem?
    intro j
    cases e : acc.toList[j]? with
    | none =>
      have : xs.length ≤ j := by rw [← hlen]; exact List.getElem?_eq_none_iff.mp e
      rw [List.getElem?_map, List.getElem?_eq_none this]; rfl
    | some v =>
      obtain ⟨hi, ev⟩ := hacc.2 j v (by rw [← Array.getElem?_toList]; exact e)
      have h1 : es.toList[j]? = some es[j] := by rw [Array.getElem?_toList]; exact Array.getElem?_eq_getElem hi
      rw [hes, List.getElem?_map] at h1
      obtain ⟨x, h2, h3⟩ := Option.map_eq_some_iff.mp h1
      rw [List.getElem?_map, h2]
      rw [ev, ← h3]
      rfl
  have hp : ∀ v ∈ acc.toList, Srt.IsPair h' v (pairAt H v).1 (pairAt H v).2 := fun v hv => by
    rw [hacc2] at hv
    obtain ⟨x, hx1, hx2⟩ := List.mem_map.mp hv
    obtain ⟨j, hj⟩ := List.getElem?_of_mem hx1
    obtain ⟨p, hp1, hp2⟩ := hal.get hj
    subst hx2
    have e1 : pairAt H (.ref x.2.1) = p := by
      show (match H x.2.1 with
        | some (.tup [.int i, .int j]) => (i, j)
        | _ => (0, 0)) = p
      rw [hp2]
    rw [e1]
    obtain ⟨_, its2, r2, o, ho, hc, n, hd⟩ := I.hok _ _ hp2
    obtain ⟨u1, u2, rfl, ri, rj⟩ := vals2 r2
    obtain ⟨t1, rfl⟩ := ri
    obtain ⟨t2, rfl⟩ := rj
    exact ⟨_, o, t1, t2, n, rfl, hk _ _ ho, hc, hd⟩
  have hmap : acc.toList.map (pairAt H) = ps := by
    rw [hacc2, List.map_map]
    apply List.ext_getElem?
    intro j
    rw [List.getElem?_map]
    cases e : xs[j]? with
    | none =>
      have : ps.length ≤ j := by rw [← hal.length]; exact List.getElem?_eq_none_iff.mp e
      rw [List.getElem?_eq_none this]; rfl
    | some x =>
      obtain ⟨p, hp1, hp2⟩ := hal.get e
      rw [hp1]
      show some (pairAt H (.ref x.2.1)) = some p
      congr 1
      show (match H x.2.1 with
        | some (.tup [.int i, .int j]) => (i, j)
        | _ => (0, 0)) = p
      rw [hp2]
  have I1 : Inv X pins σ H { s with heap := h', toks := tk } := I.kept hk
  have hz : acc.toList.length ≤ sizeLine := by rw [hlen, ← l1]; exact z
  refine wpAny_bind (wpAny_newList ?_ hz)
  have hoL : (h'.push (seqObj "list" acc.toList.toArray 0)).get? h'.objs.size = some (seqObj "list" acc.toList.toArray 0) := Heap.get?_push_size _ rfl
  show wpAny _ _ _ _ _ { s with heap := h'.push (seqObj "list" acc.toList.toArray 0), toks := tk }
  refine wpAny_bind (wpAny_holding (wpAny_call_entry PyProof.Rows.slot_list_sort ⟨_, hoL, rfl⟩ PyProof.Rows.entry_list_sort
    (SrtO.list_sort_ord (s := { s with heap := h'.push (seqObj "list" acc.toList.toArray 0), toks := tk }) (SrtO.swo_lex (pairAt H)) hoL hz (fun h2 => SrtO.pairs_sortableO (by omega) (fun v hv => (hp v hv).keeps fun b o e _ => Heap.get?_push_of_some _ e) fun o e => ?_) fun out hs hb => ⟨_, rfl, ?_⟩) (PyProof.Rows.args_list_sort _)))
  · have e' : some o = some (seqObj "list" acc.toList.toArray 0) := e.symm.trans hoL
    cases e'
    intro c
    exact absurd (Value.type.inj c) (by decide)
  · obtain ⟨e', he'⟩ := PyProof.Rows.sortedHeap_at (vs := acc.toList) (out := out.toArray) hoL
    have h3 : ∀ u ∈ out, ∃ a, u = Value.ref a := fun u hu => by
      have := hb.perm.mem_iff.mp hu
      rw [hacc2] at this
      obtain ⟨x, _, hx2⟩ := List.mem_map.mp this
      exact ⟨_, hx2.symm⟩
    have hlen2 : (out.map backV).length ≤ sizeLine := by
      rw [List.length_map, hb.perm.length_eq]
      exact hz
    refine wpAny_pure ⟨_, rfl, .ref h'.objs.size, upd H h'.objs.size (.lst (out.map backV)), I1.laid (t' := tk) (fun b u e => ?_) (Nat.le_refl _)
      (show ObjOk X.prog X.w _ _ _ (.lst (out.map backV)) from ⟨hlen2, out, e', vals_back h3, he'⟩), rfl, q (out.map (pairAt H)) _ _ ?_ ?_ ?_ (I1.hok.fresh (Nat.le_refl _))⟩
    · have hb : b < h'.objs.size := Heap.lt_size e
      rw [PyProof.Rows.sortedHeap_old (Nat.ne_of_lt hb) (by rw [size_push']; exact Nat.lt_succ_of_lt hb)]
      exact Heap.get?_push_of_some _ e
    · rw [← hmap]
      exact hb.perm.map _
    · exact List.pairwise_map.mpr hs
    · refine All2.of_map fun v hv => ?_
      have hv2 := hb.perm.mem_iff.mp hv
      rw [hacc2] at hv2
      obtain ⟨x, hx1, hx2⟩ := List.mem_map.mp hv2
      obtain ⟨j, hj⟩ := List.getElem?_of_mem hx1
      obtain ⟨p, hp1, hp2⟩ := hal.get hj
      subst hx2
      have e1 : pairAt H (.ref x.2.1) = p := by
        show (match H x.2.1 with
          | some (.tup [.int i, .int j]) => (i, j)
          | _ => (0, 0)) = p
        rw [hp2]
      exact ⟨x.2.1, rfl, by rw [e1]; exact hp2⟩
end
/-! ### sum of a tuple of ints -/
theorem preSum_ints (ns : List Int) : ∀ j, j ≤ ns.length → preSum (fun i => ns.getD i 0) j = (ns.take j).sum
  | 0, _ => rfl
  | j + 1, h => by
    have hlt : j < ns.length := h
    show preSum (fun i => ns.getD i 0) j + ns.getD j 0 = _
    rw [preSum_ints ns j (Nat.le_of_lt hlt)]
    have e : ns.take (j + 1) = ns.take j ++ [ns[j]] := by
      rw [List.take_add_one, List.getElem?_eq_getElem hlt] <;> rfl
    rw [e, List.sum_append]
    simp [hlt]
section
variable {X : Cx}
theorem call_sumT (hc : X.calm = true) : CallR X (.builtin "sum") (fun vs H Q => ∃ (a : Addr) (ns : List Int), vs = [V.ref a] ∧ SqT X.K H a (ns.map V.int) ∧ Q (.int ns.sum) H) := by
  intro pins s σ H vs us Q I r h
  obtain ⟨a, ns, rfl, hs, q⟩ := h
  obtain ⟨its, rv, hl, _⟩ := I.tuple hs
  rw [Vals.ref1 r]
  have hi := rv.ints
  have hlen : its.length = ns.length := by rw [← rv.length, List.length_map]
  have hal : a < s.heap.objs.size := by obtain ⟨o, ho, _⟩ := (show s.heap.IsTuple a its.toArray from hl); exact Heap.lt_size ho
  refine call_sum_walkAnyS ?_
  refine wpAny_pyIter_tuple (show s.heap.IsTuple a its.toArray from hl) ?_
  refine ⟨s.heap.objs.size, _, _, _, _, _, _, fun i => ns.getD i 0, rfl, (Walks.tuple (A := X.A.in1) (I.ok.hd hc) s.heap.objs.size a (Nat.ne_of_lt hal) its.toArray).toS, ⟨⟨_, Heap.get?_push_size _ rfl, rfl, rfl⟩, (show s.heap.IsTuple a its.toArray from hl).at fun o e => Heap.get?_push_of_some _ e⟩, fun b hb => ?_, fun i v hv => ?_, fun s' t' hm => ?_⟩
  · show b < (s.heap.push _).objs.size
    rw [size_push']
    rcases List.mem_cons.mp hb with e | hb
    · rw [e]; exact Nat.lt_succ_self _
    · rw [List.mem_singleton.mp hb]; exact Nat.lt_succ_of_lt hal
  · have e1 : its[i]? = some v := by simpa using hv
    have hlt : i < ns.length := by rw [← hlen]; exact (List.getElem?_eq_some_iff.mp e1).1
    have hz : ns[i]? = some ns[i] := List.getElem?_eq_getElem hlt
    obtain ⟨u, hu, ru⟩ := rv.get (x := V.int ns[i]) (by rw [List.getElem?_map, hz]; rfl)
    rw [e1] at hu
    cases hu
    obtain ⟨t, rfl⟩ := ru
    exact ⟨t, by simp [hz]⟩
  · have hk : ∀ b o, s.heap.get? b = some o → s'.heap.get? b = some o := fun b o e =>
      hm.heap b o (fun hI => absurd (Heap.lt_size e) (by rw [List.mem_singleton.mp hI]; exact Nat.lt_irrefl _)) (Heap.get?_push_of_some _ e)
    rw [Moved.eq_with hm]
    have e : preSum (fun i => ns.getD i 0) its.toArray.size = ns.sum := by
      rw [List.size_toArray, hlen, preSum_ints ns _ (Nat.le_refl _), List.take_length]
    rw [e]
    exact ⟨.int _, H, I.kept (t' := s'.toks) hk, ⟨_, rfl⟩, q⟩
end
def sumTD : List D → Option D
  | [.tup ds] => (D.ints ds).map fun ns => .int ns.sum
  | _ => none
theorem c_sumT {K : PySem.W.Frag} : CbD K (fun vs H Q => ∃ (a : Addr) (ns : List Int), vs = [V.ref a] ∧ SqT K H a (ns.map V.int) ∧ Q (.int ns.sum) H) sumTD := fun {c os ρ μ σ H vs ds d Q} r p e q => by
  unfold sumTD at e
  split at e
  · obtain ⟨ns, e1, e2⟩ := Option.map_eq_some_iff.mp e
    subst e2
    have z := D.ints_eq e1
    subst z
    obtain ⟨v, z, pv⟩ := p.one
    subst z
    obtain ⟨a, us, z, g1, g2⟩ := pv.inv_tup
    subst z
    have z := g2.ints
    subst z
    exact ⟨a, ns, rfl, vw_le.sqT g1, VOk.same q r (.int _)⟩
  · cases e
def sumA : List D → Option D
  | [.lst ds] => (D.ints ds).map fun ns => .int ns.sum
  | [.tup ds] => (D.ints ds).map fun ns => .int ns.sum
  | _ => none
theorem c_sumA {K : PySem.W.Frag} : CbD K (fun vs H Q => rSum K vs H Q ∨ ∃ (a : Addr) (ns : List Int), vs = [V.ref a] ∧ SqT K H a (ns.map V.int) ∧ Q (.int ns.sum) H) sumA := c_sum.or c_sumT fun x z e => by
  unfold sumA at e
  split at e
  · exact .inl e
  · exact .inr e
  · cases e
/-! ### sorted of lists of ints, dicts with int keys, dicts with keys of two ints -/
def insP (x : Int × Int) : List (Int × Int) → List (Int × Int)
  | [] => [x]
  | y :: r => if SrtO.lexB y x then y :: insP x r else x :: y :: r
def sortP : List (Int × Int) → List (Int × Int)
  | [] => []
  | x :: r => insP x (sortP r)
theorem insP_perm (x : Int × Int) : ∀ l : List (Int × Int), (insP x l).Perm (x :: l)
  | [] => .refl _
  | y :: r => by
    unfold insP
    split
    · exact ((insP_perm x r).cons y).trans (.swap x y r)
    · exact .refl _
theorem sortP_perm : ∀ l : List (Int × Int), (sortP l).Perm l
  | [] => .refl _
  | x :: r => (insP_perm x _).trans ((sortP_perm r).cons x)
theorem lexB_total {a b : Int × Int} (h : SrtO.lexB a b = false) (h' : SrtO.lexB b a = false) : a = b := by
  have h1 := SrtO.lexB_no.mp h
  have h2 := SrtO.lexB_no.mp h'
  obtain ⟨a1, a2⟩ := a
  obtain ⟨b1, b2⟩ := b
  simp only [Prod.mk.injEq] at *
  omega
theorem lexB_tr {a b c : Int × Int} (h : SrtO.lexB b a = false) (h' : SrtO.lexB c b = false) : SrtO.lexB c a = false := by
  have h1 := SrtO.lexB_no.mp h
  have h2 := SrtO.lexB_no.mp h'
  refine SrtO.lexB_no.mpr ?_
  omega
theorem insP_sorted (x : Int × Int) : ∀ l : List (Int × Int), l.Pairwise (fun a b => SrtO.lexB b a = false) → (insP x l).Pairwise (fun a b => SrtO.lexB b a = false)
  | [], _ => by unfold insP; exact List.pairwise_singleton _ _
  | y :: r, h => by
    unfold insP
    split
    · rename_i hxy
      refine List.pairwise_cons.mpr ⟨fun z hz => ?_, insP_sorted x r (List.pairwise_cons.mp h).2⟩
      rcases List.mem_cons.mp ((insP_perm x r).mem_iff.mp hz) with e | hz
      · subst e
        refine SrtO.lexB_no.mpr ?_
        have := SrtO.lexB_iff.mp hxy
        omega
      · exact (List.pairwise_cons.mp h).1 z hz
    · rename_i hxy
      have hxy' : SrtO.lexB y x = false := by cases e : SrtO.lexB y x with | true => exact absurd e hxy | false => rfl
      refine List.pairwise_cons.mpr ⟨fun z hz => ?_, h⟩
      rcases List.mem_cons.mp hz with e | hz
      · rw [e]; exact hxy'
      · exact lexB_tr hxy' ((List.pairwise_cons.mp h).1 z hz)
theorem sortP_sorted : ∀ l : List (Int × Int), (sortP l).Pairwise (fun a b => SrtO.lexB b a = false)
  | [] => List.Pairwise.nil
  | x :: r => insP_sorted x _ (sortP_sorted r)
theorem sortedP_uniq : ∀ {l m : List (Int × Int)}, l.Perm m → l.Pairwise (fun a b => SrtO.lexB b a = false) → m.Pairwise (fun a b => SrtO.lexB b a = false) → l = m
  | [], m, h, _, _ => by rw [List.nil_perm.mp h]
  | x :: r, [], h, _, _ => by have := h.length_eq; simp at this
  | x :: r, y :: s, h, h1, h2 => by
    have a1 := List.pairwise_cons.mp h1
    have a2 := List.pairwise_cons.mp h2
    have e : x = y := by
      have m1 : x ∈ y :: s := h.mem_iff.mp (by simp)
      have m2 : y ∈ x :: r := h.mem_iff.mpr (by simp)
      rcases List.mem_cons.mp m1 with z1 | z1
      · exact z1
      · rcases List.mem_cons.mp m2 with z2 | z2
        · exact z2.symm
        · exact lexB_total (a2.1 x z1) (a1.1 y z2)
    subst e
    rw [sortedP_uniq (List.Perm.cons_inv h) a1.2 a2.2]
def keyInts : List Key → Option (List Int)
  | [] => some []
  | .inl i :: r => (keyInts r).map (i :: ·)
  | .inr _ :: _ => none
def keyPairs : List (List Key) → Option (List (Int × Int))
  | [] => some []
  | [.inl i, .inl j] :: r => (keyPairs r).map ((i, j) :: ·)
  | _ :: _ => none
theorem keyInts_eq : ∀ {ks : List Key} {ns : List Int}, keyInts ks = some ns → ks = ns.map Sum.inl
  | [], _, h => by cases h; rfl
  | .inl i :: r, _, h => by
    obtain ⟨ms, h1, h2⟩ := Option.map_eq_some_iff.mp (show (keyInts r).map (i :: ·) = some _ from h)
    subst h2
    rw [keyInts_eq h1]
    rfl
  | .inr _ :: r, _, h => by cases h
theorem keyPairs_eq : ∀ {ks : List (List Key)} {ns : List (Int × Int)}, keyPairs ks = some ns → ks = ns.map fun p => [Sum.inl p.1, Sum.inl p.2]
  | [], _, h => by cases h; rfl
  | ks :: r, ns, h => by
    unfold keyPairs at h
    split at h
    · rename_i h0; cases h0
    · rename_i i j r' h0
      cases h0
      obtain ⟨ms, h1, h2⟩ := Option.map_eq_some_iff.mp h
      subst h2
      rw [keyPairs_eq h1]
      rfl
    · cases h
def sortedDID : List D → Option D
  | [.dk ks _] => (keyInts ks).bind fun ns => if Nat.blt ns.length 64 then some (.lst ((sortI ns).map D.int)) else none
  | _ => none
def pairI (p : Int × Int) : D := .tup [.int p.1, .int p.2]
def sortedDTD : List D → Option D
  | [.dt ks _] => (keyPairs ks).map fun ns => .lst ((sortP ns).map pairI)
  | _ => none
def sortedA : List D → Option D
  | [.lst ds] => (D.ints ds).map fun ns => .lst ((sortI ns).map D.int)
  | [.dk ks _] => (keyInts ks).bind fun ns => if Nat.blt ns.length 64 then some (.lst ((sortI ns).map D.int)) else none
  | [.dt ks _] => (keyPairs ks).map fun ns => .lst ((sortP ns).map pairI)
  | _ => none
abbrev rSortedDI : List V → Hp → VK → Prop := fun xs H Q => ∃ (a : Addr) (kvs : List (Key × V)) (ks : List Int), xs = [.ref a] ∧ Rd H a (.dK kvs) ∧ kvs.map (·.1) = ks.map Sum.inl ∧ ks.length < 64 ∧
    ∀ (ys : List Int) (p : Addr), ys.Perm ks → ys.Pairwise (· ≤ ·) → H p = none → Q (.ref p) (upd H p (.lst (ys.map V.int)))
section
variable {K : PySem.W.Frag}
theorem c_sortedDI : CbF K rSortedDI sortedDID := fun {c os ρ μ σ H vs ds d Q} r p e q => by
  unfold sortedDID at e
  split at e
  · rename_i ks xs
    obtain ⟨ns, e1, e2⟩ := Option.bind_eq_some_iff.mp e
    by_cases hl : Nat.blt ns.length 64 = true
    · rw [if_pos hl] at e2
      cases e2
      obtain ⟨v, z, pv⟩ := p.one
      subst z
      obtain ⟨a, kvs, z, g1, g2, g3⟩ := pv.inv_dk
      subst z
      refine ⟨a, kvs, ns, rfl, vw_le.rd g1, by rw [← keyInts_eq e1]; exact g2, Nat.le_of_ble_eq_true hl, fun ys p h1 h2 n => ?_⟩
      have e : ys = sortI ns := sorted_uniq (h1.trans (sortI_perm ns).symm) h2 (sortI_sorted ns)
      subst e
      exact FOk.newL q r (RpA.of_ints _) n
    · rw [if_neg hl] at e2
      cases e2
  · cases e
theorem All2.rp {T : List Addr} {H Hv : Hp} (hs : ∀ t xs, H t = some (.tup xs) → Hv t = some (.tup xs)) : ∀ {ys : List V} {qs : List (Int × Int)}, All2 (fun y q => ∃ t, y = V.ref t ∧ H t = some (.tup [.int q.1, .int q.2])) ys qs → RpA K T Hv ys (qs.map pairI)
  | _, _, .nil => .nil
  | _, _, .cons h t => by
    obtain ⟨a, rfl, ha⟩ := h
    exact .cons (.tup (.inl (.inl (hs _ _ ha))) (.cons (.int _) (.cons (.int _) .nil)) (.no rfl)) (All2.rp hs t)
theorem c_sortedDT : CbF K rSortedDT sortedDTD := fun {c os ρ μ σ H vs ds d Q} r p e q => by
  unfold sortedDTD at e
  split at e
  · rename_i ks xs
    obtain ⟨ns, e1, e2⟩ := Option.map_eq_some_iff.mp e
    subst e2
    obtain ⟨v, z, pv⟩ := p.one
    subst z
    obtain ⟨a, kvs, z, g1, g2, g3⟩ := pv.inv_dt
    subst z
    refine ⟨a, kvs, ns, rfl, vw_le.rd g1, by rw [← keyPairs_eq e1]; exact g2, fun qs ys p h1 h2 h3 n => ?_⟩
    have e : qs = sortP ns := sortedP_uniq (h1.trans (sortP_perm ns).symm) h2 (sortP_sorted ns)
    subst e
    exact FOk.newL q r (All2.rp (fun t xs h => r.tupSeen h) h3) n
  · cases e
theorem c_sortedA : CbF K (fun xs H Q => rSortedI K xs H Q ∨ (rSortedDI xs H Q ∨ rSortedDT xs H Q)) sortedA := c_sortedI.or (c_sortedDI.or c_sortedDT (h := fun x => (sortedDID x).or (sortedDTD x)) fun x z e => by
    cases h : sortedDID x with
    | some w => rw [h] at e; exact .inl e
    | none => rw [h] at e; exact .inr e) fun x z e => by
  unfold sortedA at e
  split at e
  · exact .inl e
  · rename_i ks us
    have e' : sortedDID [.dk ks us] = some z := e
    refine .inr ?_
    show (sortedDID [.dk ks us]).or (sortedDTD [.dk ks us]) = some z
    rw [e']; rfl
  · rename_i ks us
    have e' : sortedDTD [.dt ks us] = some z := e
    refine .inr ?_
    show (none : Option D).or (sortedDTD [.dt ks us]) = some z
    rw [e']; rfl
  · cases e
end
/-! ### range(i, j, -1) -/
theorem jRg3 {X : Cx} {cl : Nat → Addr} {W : WX} {tg : Expr} {fs : XL} {p pos : Pos} {a b e : Expr} (hg : Gl X "range") (hm : X.mg "range" = none) (ha : PA X [a, b, e] (tL X.K cl W fs))
    (hs : starEach [a, b, e] X.env = (false, eval a X.env) :: starEach [b, e] X.env := by rfl) (hpl : (backTo pos (starEach [b, e] X.env)).any (·.1) = false := by rfl) : PI X tg (.Call (.Name "range" p) [a, b, e] [] pos) (tI X.K cl W (iRg3 fs)) := pi_imp (pi_range3 hg hm ha hs hpl) fun σ H R => by
  rintro ⟨c, os, ρ, μ, r, h⟩
  refine ⟨c, os, ρ, μ, r, (Out.bind h).imp (fun ds μ1 h1 => ?_) fun _ _ q => q⟩
  intro vs H1 r1 k pv
  split at h1
  · rename_i i j z
    by_cases hj : (rgOk i && rgOk j && decide (z = -1)) = true
    · rw [if_pos hj] at h1
      rw [Bool.and_eq_true, Bool.and_eq_true, decide_eq_true_eq] at hj
      obtain ⟨⟨hi, hj⟩, hz⟩ := hj
      subst hz
      cases pv with
      | cons q1 pv =>
        cases pv with
        | cons q2 pv =>
          cases pv with
          | cons q3 pv =>
            cases pv
            refine ⟨i, j, -1, (i - j).toNat, by rw [q1.inv_int, q2.inv_int, q3.inv_int], RgC.neg (rgOk_of hi).1 (rgOk_of hi).2 (rgOk_of hj).1 (rgOk_of hj).2, h1 _ H1 r1 k ⟨fun _ => True, fun _ _ => trivial, ?_⟩⟩
            rw [rangeC_len]
            exact walk_rangeC.mono (fun _ h => h) fun i H x H' hi _ y => ⟨_, rangeC_get hi, .inl ⟨y.1, by rw [y.2]; exact .int _⟩⟩
    · rw [if_neg hj] at h1
      exact h1.elim
  · exact h1.elim
end DC
set_option Elab.async false
set_option linter.all false
set_option maxRecDepth 100000
set_option maxHeartbeats 2000000
/-! DC: chains of three comparisons. -/
namespace DC
open PySem PySem.Spec PyProof.Rows L2
def tChain3 (r r' r'' : R2) (ta tb tc td : TE) : TE := fun σ H Q => ta σ H fun x H1 => tb σ H1 fun y H2 => r x y H2 fun z H3 => ∃ k, z = .bl k ∧
  (if k = true then tc σ H3 fun u H4 => r' y u H4 fun z2 H5 => ∃ k2, z2 = .bl k2 ∧ (if k2 = true then td σ H5 fun w' H6 => r'' u w' H6 Q else Q (.bl false) H5) else Q (.bl false) H3)
def xChain3 (g g' g'' : D → D → Option D) (f1 f2 f3 f4 : XD) : XD := fun ρ μ => (f1 ρ μ).bind fun a μ1 => (f2 ρ μ1).bind fun b μ2 => (Res.ofO ((g a b).bind asB) μ2).bind fun k μ2 =>
  if k then (f3 ρ μ2).bind fun c μ3 => (Res.ofO ((g' b c).bind asB) μ3).bind fun k2 μ3 => if k2 then (f4 ρ μ3).bind fun d μ4 => Res.ofO (g'' c d) μ4 else .ok (.bl false) μ3 else .ok (.bl false) μ2
section
variable {X : Cx} {cl : Nat → Addr} {W : WX} {a b c d : Expr} {f1 f2 f3 f4 : XD} {pos : Pos} {ta tb tc td : TE}
theorem pe_chain3 {op op' op'' : CmpOp} {r r' r'' : R2} (ho : OpR X (compareOp op) r) (ho' : OpR X (compareOp op') r') (ho'' : OpR X (compareOp op'') r'') (ha : PE X a ta) (hb : PE X b tb) (hc : PE X c tc) (hd : PE X d td)
    (hm : lastMarks [op, op', op''] [b, c, d] = false := by with_unfolding_all rfl) : PE X (.Compare a [op, op', op''] [b, c, d] pos) (tChain3 r r' r'' ta tb tc td) := by
  refine ⟨fun pins s σ H Q I h => ?_⟩
  refine Compare_chain (thn (ha.run pins s σ H _ I h) fun v s1 ⟨x, H1, I1, r1, q1⟩ => chain_link (thn (hb.run pins s1 σ H1 _ I1 q1) fun u s2 ⟨y, H2, I2, r2, q2⟩ =>
    thn (ho pins s2 σ H2 x y v u _ I2 r1 r2 q2) fun d s3 ⟨z, H3, I3, r3, k, e, q3⟩ => ?_)) hm
  subst e
  cases r3
  refine wpAny_truthy_bool ?_
  cases k with
  | false => exact ite_ff ⟨.bl false, H3, I3, rfl, q3⟩
  | true =>
    refine ite_tt (chain_link (thn (hc.run pins s3 σ H3 _ I3 q3) fun u2 s4 ⟨y2, H4, I4, r4, q4⟩ => thn (ho' pins s4 σ H4 y y2 u u2 _ I4 r2 r4 q4) fun d2 s5 ⟨z2, H5, I5, r5, k2, e2, q5⟩ => ?_))
    subst e2
    cases r5
    refine wpAny_truthy_bool ?_
    cases k2 with
    | false => exact ite_ff ⟨.bl false, H5, I5, rfl, q5⟩
    | true => exact ite_tt (chain_last (thn (hd.run pins s5 σ H5 _ I5 q5) fun w' s6 ⟨z', H6, I6, r6, q6⟩ => ho'' pins s6 σ H6 y2 z' u2 w' Q I6 r4 r6 q6))
theorem pt_chain3 {op op' op'' : CmpOp} {r r' r'' : R2} (ho : OpR X (compareOp op) r) (ho' : OpR X (compareOp op') r') (ho'' : OpR X (compareOp op'') r'') (ha : PE X a ta) (hb : PE X b tb) (hc : PE X c tc) (hd : PE X d td)
    (hm : lastMarks [op, op', op''] [b, c, d] = false := by with_unfolding_all rfl) : PT X (.Compare a [op, op', op''] [b, c, d] pos) (tTest (tChain3 r r' r'' ta tb tc td)) := by
  refine ⟨fun pins s σ H Q I h => ?_⟩
  refine isTrue_chain (thn (ha.run pins s σ H _ I h) fun v s1 ⟨x, H1, I1, r1, q1⟩ => test_link (thn (hb.run pins s1 σ H1 _ I1 q1) fun u s2 ⟨y, H2, I2, r2, q2⟩ =>
    thn (ho pins s2 σ H2 x y v u _ I2 r1 r2 q2) fun d s3 ⟨z, H3, I3, r3, k, e, q3⟩ => ?_)) hm
  subst e
  cases r3
  refine wpAny_truthy_bool ?_
  cases k with
  | false =>
    obtain ⟨k', e', q'⟩ := q3
    cases e'
    exact ite_ff ⟨H3, I3, q'⟩
  | true =>
    refine ite_tt (test_link (thn (hc.run pins s3 σ H3 _ I3 q3) fun u2 s4 ⟨y2, H4, I4, r4, q4⟩ => thn (ho' pins s4 σ H4 y y2 u u2 _ I4 r2 r4 q4) fun d2 s5 ⟨z2, H5, I5, r5, k2, e2, q5⟩ => ?_))
    subst e2
    cases r5
    refine wpAny_truthy_bool ?_
    cases k2 with
    | false =>
      obtain ⟨k', e', q'⟩ := q5
      cases e'
      exact ite_ff ⟨H5, I5, q'⟩
    | true =>
      refine ite_tt (test_last (thn (hd.run pins s5 σ H5 _ I5 q5) fun w' s6 ⟨z', H6, I6, r6, q6⟩ => thn (ho'' pins s6 σ H6 y2 z' u2 w' _ I6 r4 r6 q6) fun d' s7 ⟨z7, H7, I7, r7, k3, e3, q7⟩ => ?_))
      subst e3
      cases r7
      exact wpAny_truthy_bool ⟨H7, I7, q7⟩
theorem chain3_imp {r r' r'' : R2} {g g' g'' : D → D → Option D} (hs : Op2 X.K r g) (hs' : Op2 X.K r' g') (hs'' : Op2 X.K r'' g'') (σ : L2.St) (H : Hp) (Q : VK) (h : tE X.K cl W (xChain3 g g' g'' f1 f2 f3 f4) σ H Q) : tChain3 r r' r'' (tE X.K cl W f1) (tE X.K cl W f2) (tE X.K cl W f3) (tE X.K cl W f4) σ H Q := by
  obtain ⟨c, os, ρ, μ, r, h⟩ := h
  refine ⟨c, os, ρ, μ, r, (Out.bind h).imp (fun d1 μ1 h1 => ?_) fun _ _ q => q⟩
  intro v1 H1 r1 e1 p1
  refine ⟨c, os, ρ, μ1, r1, (Out.bind h1).imp (fun d2 μ2 h2 => ?_) fun _ _ q => q.mono e1⟩
  intro v2 H2 r2 e2 p2
  obtain ⟨k, e, h3⟩ := Out.ofO (Out.bind h2)
  obtain ⟨dk, ek, ek'⟩ := Option.bind_eq_some_iff.mp e
  refine hs r2 (p1.mono e2.vw) p2 ek (fun v3 H3 r3 e3 p3 => ?_)
  cases dk with
  | bl kk =>
    have z := p3.inv_bl
    subst z
    cases ek'
    refine ⟨k, rfl, ?_⟩
    have E3 := (e1.trans e2).trans e3
    cases k with
    | true =>
      rw [if_pos rfl]
      rw [if_pos rfl] at h3
      refine ⟨c, os, ρ, μ2, r3, (Out.bind h3).imp (fun d4 μ4 h4 => ?_) fun _ _ q => q.mono E3⟩
      intro v4 H4 r4 e4 p4
      obtain ⟨k2, e', h5⟩ := Out.ofO (Out.bind h4)
      obtain ⟨dk2, ek2, ek2'⟩ := Option.bind_eq_some_iff.mp e'
      refine hs' r4 (p2.mono (e3.trans e4).vw) p4 ek2 (fun v5 H5 r5 e5 p5 => ?_)
      cases dk2 with
      | bl kk2 =>
        have z := p5.inv_bl
        subst z
        cases ek2'
        refine ⟨k2, rfl, ?_⟩
        have E5 := (E3.trans e4).trans e5
        cases k2 with
        | true =>
          rw [if_pos rfl]
          rw [if_pos rfl] at h5
          refine ⟨c, os, ρ, μ4, r5, (Out.bind h5).imp (fun d6 μ6 h6 => ?_) fun _ _ q => q.mono E5⟩
          intro v6 H6 r6 e6 p6
          obtain ⟨d, e'', h7⟩ := Out.ofO h6
          exact hs'' r6 (p4.mono (e5.trans e6).vw) p6 e'' (VOk.mono (E5.trans e6) h7)
        | false =>
          rw [if_neg Bool.false_ne_true]
          rw [if_neg Bool.false_ne_true] at h5
          exact VOk.same (VOk.mono E5 h5) r5 (.bl false)
      | _ => cases ek2'
    | false =>
      rw [if_neg Bool.false_ne_true]
      rw [if_neg Bool.false_ne_true] at h3
      exact VOk.same (VOk.mono E3 h3) r3 (.bl false)
  | _ => cases ek'
theorem dChain3 {op op' op'' : CmpOp} {r r' r'' : R2} {g g' g'' : D → D → Option D} (ho : OpR X (compareOp op) r) (hs : Op2 X.K r g) (ho' : OpR X (compareOp op') r') (hs' : Op2 X.K r' g') (ho'' : OpR X (compareOp op'') r'') (hs'' : Op2 X.K r'' g'') (ha : PE X a (tE X.K cl W f1)) (hb : PE X b (tE X.K cl W f2)) (hc : PE X c (tE X.K cl W f3)) (hd : PE X d (tE X.K cl W f4))
    (hm : lastMarks [op, op', op''] [b, c, d] = false := by with_unfolding_all rfl) : PE X (.Compare a [op, op', op''] [b, c, d] pos) (tE X.K cl W (xChain3 g g' g'' f1 f2 f3 f4)) := pe_imp (pe_chain3 ho ho' ho'' ha hb hc hd hm) (chain3_imp hs hs' hs'')
theorem bChain3 {op op' op'' : CmpOp} {r r' r'' : R2} {g g' g'' : D → D → Option D} (ho : OpR X (compareOp op) r) (hs : Op2 X.K r g) (ho' : OpR X (compareOp op') r') (hs' : Op2 X.K r' g') (ho'' : OpR X (compareOp op'') r'') (hs'' : Op2 X.K r'' g'') (ha : PE X a (tE X.K cl W f1)) (hb : PE X b (tE X.K cl W f2)) (hc : PE X c (tE X.K cl W f3)) (hd : PE X d (tE X.K cl W f4))
    (hm : lastMarks [op, op', op''] [b, c, d] = false := by with_unfolding_all rfl) : PT X (.Compare a [op, op', op''] [b, c, d] pos) (tT X.K cl W (bVal (xChain3 g g' g'' f1 f2 f3 f4))) := pt_imp (pt_chain3 ho ho' ho'' ha hb hc hd hm) (val_imp (chain3_imp hs hs' hs''))
end
end DC
set_option Elab.async false
set_option linter.all false
set_option maxRecDepth 100000
set_option maxHeartbeats 2000000
/-! DC: own lists read, values to several names, what bears nothing. -/
namespace DC
open PySem PySem.Spec PyProof.Rows L2
/-- x[k], x perhaps an own list -/
def xIxO (i : Nat) (f2 : XD) : XD := fun ρ μ => match ρ[i]? with
  | some (.ow (.lst xs)) => (f2 ρ μ).bind fun b μ2 => match b with
    | .int k => Res.ofO (atI xs k) μ2
    | _ => .fail
  | _ => xIx (xVar i) f2 ρ μ
/-- the value to a target of several names -/
def sAsgG (f : XD) (g : Tg) : SD := fun ρ μ => (f ρ μ).st ρ fun d μ' => match g d ρ with
  | some ρ' => .nx ρ' μ'
  | none => .fail
section
variable {X : Cx} {cl : Nat → Addr} {W : WX} {fr : Bool} {f f2 : XD} {a b : Expr} {pos : Pos} {s0 : Stmt} {is : List Nat} {g : Tg}
theorem pe_orE {e : Expr} {t t' : TE} (h : PE X e t) (h' : PE X e t') : PE X e (fun σ H Q => t σ H Q ∨ t' σ H Q) := ⟨fun pins s σ H Q I q => q.elim (h.run pins s σ H Q I) (h'.run pins s σ H Q I)⟩
theorem ix_lstO (d1 : List D) {c : Ct} {os : List (Option Addr)} {ρ : Env} {μ : Store} {σ : L2.St} {H : Hp} {i : Nat} {k : Int} {d : D} (r : Rl X.K c os ρ μ σ H) (e0 : ρ[i]? = some (.ow (.lst d1))) (e : atI d1 k = some d) : ∃ p xs v, σ[i]? = some (some (.ref p)) ∧ H p = some (.lst xs) ∧ atI xs k = some v ∧ Rp X.K c.T (vw c os H) v d := by
  obtain ⟨p, g1, g2, g3⟩ := r.getOw e0
  cases g3 with
  | lst q kr =>
    obtain ⟨v, h1, h2⟩ := kr.atI e
    exact ⟨p, _, v, g1, q, h1, h2⟩
theorem dIxO {i : Nat} {x : Str} {p : Pos} (hv : PE X (.Name x p) (tVar i)) (hb : PE X b (tE X.K cl W f2)) (hs : PlainIx b) : PE X (.Subscript (.Name x p) b pos) (tE X.K cl W (xIxO i f2)) :=
  pe_imp (pe_orE (pe_ix ix_seq hv hb hs) (dIx (cl := cl) (W := W) (dVar hv) hb hs)) fun σ H Q => by
  rintro ⟨c, os, ρ, μ, r, h⟩
  unfold xIxO at h
  split at h
  · rename_i xs e0
    refine .inl ?_
    obtain ⟨p, g1, g2, g3⟩ := r.getOw e0
    refine ⟨.ref p, g1, c, os, ρ, μ, r, (Out.bind h).imp (fun d2 μ2 h2 => ?_) fun _ _ q => q⟩
    intro v2 H2 r2 e2 p2
    cases d2 with
    | int k =>
      obtain ⟨d, e, h3⟩ := Out.ofO h2
      obtain ⟨p', ys, v, q1, q2, q3, q4⟩ := ix_lstO xs r2 e0 e
      have ea : p' = p := by
        rw [g1] at q1
        have := Option.some.inj (Option.some.inj q1)
        cases this; rfl
      subst ea
      exact .inl ⟨p', ys, k, v, rfl, p2.inv_int, .inl (.inl q2), q3, VOk.same (VOk.mono e2 h3) r2 q4⟩
    | _ => exact h2.elim
  · exact .inr ⟨c, os, ρ, μ, r, h⟩
theorem hAsgG (h : PS X s0 (tAsg (tE X.K cl W f) (tG X.K is g))) : PS X s0 (tS X.K cl W fr (sAsgG f g)) := ps_imp h fun E σ H => by
  rintro ⟨c, os, ρ, μ, r, h⟩
  refine ⟨c, os, ρ, μ, r, (SOut.st h).imp (fun d μ1 h1 => ?_) fun _ _ q => q⟩
  intro v1 H1 r1 e1 p1
  split at h1
  · rename_i ρ' eg
    exact ⟨c, os, ρ, μ1, d, ρ', r1, p1, eg, fun os' σ' r' _ => h1 os' σ' H1 r'⟩
  · exact h1.elim
end
/-! ### what bears nothing -/
theorem pl_bind {α β : Type} {f : Env → Store → Res α} {k : Env → α → Env → Store → Res β} (hf : Plain f) (hk : ∀ ρ a, Plain (k ρ a)) : Plain fun ρ μ => (f ρ μ).bind fun a μ1 => k ρ a ρ μ1 := fun ρ μ x μ' h => by
  have h' : (f ρ μ).bind (fun a μ1 => k ρ a ρ μ1) = .exc x μ' := h
  cases e : f ρ μ with
  | fail => rw [e] at h'; cases h'
  | exc y μ1 =>
    rw [e] at h'
    cases h'
    exact hf _ _ _ _ e
  | ok a μ1 =>
    rw [e] at h'
    exact hk ρ a ρ μ1 x μ' h'
theorem pl_ofO {α : Type} {o : Option α} : Plain fun _ μ => Res.ofO o μ := fun ρ μ x μ' h => by
  cases o <;> cases h
theorem pl_ok {α : Type} {a : α} : Plain fun _ μ => Res.ok a μ := fun ρ μ x μ' h => by cases h
theorem pl_fail {α : Type} : Plain fun _ _ => (Res.fail : Res α) := fun ρ μ x μ' h => by cases h
theorem pl_ite {α : Type} {c : Prop} [Decidable c] {f g : Env → Store → Res α} (hf : Plain f) (hg : Plain g) : Plain fun ρ μ => if c then f ρ μ else g ρ μ := fun ρ μ x μ' h => by
  have h' : (if c then f ρ μ else g ρ μ) = .exc x μ' := h
  split at h'
  · exact hf _ _ _ _ h'
  · exact hg _ _ _ _ h'
theorem pl_C (d : D) : Plain (xC d) := pl_ok
theorem pl_Var (i : Nat) : Plain (xVar i) := fun ρ μ x μ' h => by
  unfold xVar at h
  split at h <;> cases h
theorem pl_Bin {g : D → D → Option D} {f1 f2 : XD} (h1 : Plain f1) (h2 : Plain f2) : Plain (xBin g f1 f2) :=
  pl_bind (k := fun _ a ρ μ1 => (f2 ρ μ1).bind fun b μ2 => Res.ofO (g a b) μ2) h1 fun _ a => pl_bind (k := fun _ b _ μ2 => Res.ofO (g a b) μ2) h2 fun _ _ => pl_ofO
theorem pl_Un {g : D → Option D} {f : XD} (h1 : Plain f) : Plain (xUn g f) := pl_bind (k := fun _ a _ μ1 => Res.ofO (g a) μ1) h1 fun _ _ => pl_ofO
theorem pl_lNil : Plain lNil := pl_ok
theorem pl_lCons {f : XD} {fs : XL} (h1 : Plain f) (h2 : Plain fs) : Plain (lCons f fs) :=
  pl_bind (k := fun _ d ρ μ1 => (fs ρ μ1).bind fun ds μ2 => .ok (d :: ds) μ2) h1 fun _ d => pl_bind (k := fun _ ds _ μ2 => .ok (d :: ds) μ2) h2 fun _ _ => pl_ok
theorem pl_Lst {fs : XL} (h : Plain fs) : Plain (xLst fs) := pl_bind (k := fun _ ds _ μ1 => if lenOk ds then Res.ok (D.lst ds) μ1 else Res.fail) h fun _ ds => pl_ite pl_ok pl_fail
theorem pl_Tup {fs : XL} (h : Plain fs) : Plain (xTup fs) := pl_bind (k := fun _ ds _ μ1 => if lenOk ds then Res.ok (D.tup ds) μ1 else Res.fail) h fun _ ds => pl_ite pl_ok pl_fail
theorem pl_NewK : Plain xNewK := pl_ok
theorem pl_NewT : Plain xNewT := pl_ok
theorem pl_Disp1 {k : Key} {d : D} : Plain (xDisp1 k d) := pl_ok
theorem pl_mNil : Plain mNil := pl_ok
theorem pl_mVal {f : XD} {fs : XM} (h1 : Plain f) (h2 : Plain fs) : Plain (mVal f fs) :=
  pl_bind (k := fun _ d ρ μ1 => (fs ρ μ1).bind fun ds μ2 => .ok ((false, d) :: ds) μ2) h1 fun _ d => pl_bind (k := fun _ ds _ μ2 => .ok ((false, d) :: ds) μ2) h2 fun _ _ => pl_ok
theorem pl_mNew {f : XD} {fs : XM} (h1 : Plain f) (h2 : Plain fs) : Plain (mNew f fs) :=
  pl_bind (k := fun _ d ρ μ1 => (fs ρ μ1).bind fun ds μ2 => .ok ((true, d) :: ds) μ2) h1 fun _ d => pl_bind (k := fun _ ds _ μ2 => .ok ((true, d) :: ds) μ2) h2 fun _ _ => pl_ok
theorem pl_Cb {g : List D → Option D} {fs : XL} (h : Plain fs) : Plain (xCb g fs) := pl_bind (k := fun _ ds _ μ1 => Res.ofO (g ds) μ1) h fun _ _ => pl_ofO
theorem pl_Ix {f1 f2 : XD} (h1 : Plain f1) (h2 : Plain f2) : Plain (xIx f1 f2) :=
  pl_bind (k := fun _ a ρ μ1 => (f2 ρ μ1).bind fun b μ2 => Res.ofO (ixS μ2 a b) μ2) h1 fun _ a => pl_bind (k := fun _ b _ μ2 => Res.ofO (ixS μ2 a b) μ2) h2 fun _ b => fun ρ μ x μ' e => pl_ofO (o := ixS μ a b) ρ μ x μ' e
theorem pl_GetK {f1 f2 : XD} (h1 : Plain f1) (h2 : Plain f2) : Plain (xGetK f1 f2) :=
  pl_bind (k := fun _ a ρ μ1 => (f2 ρ μ1).bind fun b μ2 => Res.ofO (getK a b) μ2) h1 fun _ a => pl_bind (k := fun _ b _ μ2 => Res.ofO (getK a b) μ2) h2 fun _ b => pl_ofO
theorem pl_Get2K {f1 f2 f3 : XD} (h1 : Plain f1) (h2 : Plain f2) (h3 : Plain f3) : Plain (xGet2K f1 f2 f3) := fun ρ μ x μ' h => by
  unfold xGet2K at h
  cases e : f1 ρ μ with
  | fail => rw [e] at h; cases h
  | exc y μ1 => rw [e] at h; cases h; exact h1 _ _ _ _ e
  | ok a μ1 =>
    rw [e] at h
    cases a with
    | dk ks vs => exact pl_bind (k := fun _ b ρ μ2 => (f3 ρ μ2).bind fun x μ3 => Res.ofO (get2K (D.dk ks vs) b x) μ3) h2 (fun _ b => pl_bind (k := fun _ x _ μ3 => Res.ofO (get2K (D.dk ks vs) b x) μ3) h3 fun _ _ => pl_ofO) ρ μ1 x μ' h
    | _ => cases h
theorem pl_GetT {f1 : XD} {fs : XL} (h1 : Plain f1) (h2 : Plain fs) : Plain (xGetT f1 fs) :=
  pl_bind (k := fun _ a ρ μ1 => (fs ρ μ1).bind fun bs μ2 => if lenOk bs then Res.ofO (getT a bs) μ2 else .fail) h1 fun _ a => pl_bind (k := fun _ bs _ μ2 => if lenOk bs then Res.ofO (getT a bs) μ2 else .fail) h2 fun _ bs => pl_ite pl_ofO pl_fail
theorem pl_Get2T {f1 f3 : XD} {fs : XL} (h1 : Plain f1) (h2 : Plain fs) (h3 : Plain f3) : Plain (xGet2T f1 fs f3) := fun ρ μ x μ' h => by
  unfold xGet2T at h
  cases e : f1 ρ μ with
  | fail => rw [e] at h; cases h
  | exc y μ1 => rw [e] at h; cases h; exact h1 _ _ _ _ e
  | ok a μ1 =>
    rw [e] at h
    cases a with
    | dt ks vs => exact pl_bind (k := fun _ bs ρ μ2 => if lenOk bs then (f3 ρ μ2).bind fun x μ3 => Res.ofO (get2T (D.dt ks vs) bs x) μ3 else Res.fail) h2 (fun _ bs => pl_ite (pl_bind (k := fun _ x _ μ3 => Res.ofO (get2T (D.dt ks vs) bs x) μ3) h3 fun _ _ => pl_ofO) pl_fail) ρ μ1 x μ' h
    | _ => cases h
/-! ### a def at no fuel -/
theorem ok0 {P : Program} {w : World} {K : PySem.W.Frag} {mg : Str → Option Value} {base : Heap} {cl : Nat → Addr} {x qual : Str} {st : Stmt} {f : Addr} {fd : FuncData} {N ps : List Str} {k : Nat} (F : Fun K x qual st f fd) (S : FnScope N ps (defScope st)) :
    FnOk P w K mg base (L2.CX P w) (k + 1) f fd ps (SpD K cl ps.length fun _ _ => .fail) :=
  F.okX S (fun vs H Q E h => by obtain ⟨A, T, μ, ds, r, p, hl, h⟩ := h; exact h.elim) fun cdv A outer s H vs Q E hr h => by
    obtain ⟨A, T, μ, ds, r, p, hl, h⟩ := h; exact h.elim
end DC
namespace DC
open PySem PySem.Spec PyProof.Rows L2
section
variable {X : Cx} {cl : Nat → Addr} {W : WX} {fr : Bool} {s0 : Stmt} {is : List Nat} {g : Tg} {b : List Stmt} {F : SD}
theorem tE_tF {K : PySem.W.Frag} {f : XD} {σ : L2.St} {H : Hp} {Q : VK} (h : tE K cl W f σ H Q) : tF K cl W f σ H Q := by
  obtain ⟨c, os, ρ, μ, r, h⟩ := h
  exact ⟨c, os, ρ, μ, r, h.imp (fun d μ' q => q.f) fun _ _ q => q⟩
/-- x = [.. for ..], the list never changed -/
theorem hAsgLcV {i : Nat} {f : XL} {t : XB} {fe : XD} {vs : List Nat} (h : PS X s0 (tAsg (tLc (tI X.K cl W f) (tG X.K is g) (tT X.K cl W0 t) (tE X.K cl W0 fe) vs) (gName i))) (hv : ∀ i ∈ is, i ∈ vs := by decide) : PS X s0 (tS X.K cl W fr (sAsg i (xLc f g t fe vs))) :=
  hAsg (ps_imp h fun E σ H q => lc_imp hv σ H _ (tE_tF q))
theorem hSeqF (h : PSs X b (tS X.K cl W fr F)) : PSs X b (tS X.K cl W fr (sSeq F sFail)) := pss_imp h fun E σ H => by
  rintro ⟨c, os, ρ, μ, r, h⟩
  refine ⟨c, os, ρ, μ, r, ?_⟩
  unfold sSeq at h
  cases e : F ρ μ with
  | nx ρ' μ' => rw [e] at h; exact h.elim
  | rt d μ' => rw [e] at h; exact h
  | bk ρ' μ' => rw [e] at h; exact h
  | ct ρ' μ' => rw [e] at h; exact h
  | exc x ρ' μ' => rw [e] at h; exact h
  | fail => rw [e] at h; exact h
end
end DC
namespace DC
open PySem PySem.Spec PyProof.Rows L2
section
variable {P : Program} {w : World} {K : PySem.W.Frag} {mg : Str → Option Value} {base : Heap} {cl : Nat → Addr}
theorem okD2 {x qual : Str} {st : Stmt} {f : Addr} {fd : FuncData} {N ps : List Str} {k np n : Nat} (FB : SD) (F : Fun K x qual st f fd) (S : FnScope N ps (defScope st)) (h1 : ps.length = np) (h2 : N.length = n) (hn : np ≤ n)
    (hb : ∀ (cdv : Value) (A : Around) (outer : List PySem.Env) (s : Shared) (H : Hp) (E : XK), Room k (A.deeper (envOfC qual (defScope st) s.heap.objs.size f cdv)) →
      PSs (cxOf (L2.CX P w) P w K mg base N qual (defScope st) f cdv A outer s H E) (defBody st) (tS K cl (WE0 E) false FB)) : FnOk P w K mg base (L2.CX P w) (k + 1) f fd ps (SpD K cl np (bodyD FB n)) := by
  subst h1 h2
  exact okD F S hn hb
theorem okF2 {x qual : Str} {st : Stmt} {f : Addr} {fd : FuncData} {N ps : List Str} {k np n : Nat} (FB : SD) (F : Fun K x qual st f fd) (S : FnScope N ps (defScope st)) (h1 : ps.length = np) (h2 : N.length = n) (hn : np ≤ n)
    (hb : ∀ (cdv : Value) (A : Around) (outer : List PySem.Env) (s : Shared) (H : Hp) (E : XK), Room k (A.deeper (envOfC qual (defScope st) s.heap.objs.size f cdv)) →
      PSs (cxOf (L2.CX P w) P w K mg base N qual (defScope st) f cdv A outer s H E) (defBody st) (tS K cl (WE0 E) true (sSeq FB sFail))) : FnOk P w K mg base (L2.CX P w) (k + 1) f fd ps (SpF K cl np (bodyF FB n)) := by
  subst h1 h2
  exact okF F S hn hb
theorem ok02 {x qual : Str} {st : Stmt} {f : Addr} {fd : FuncData} {N ps : List Str} {k np : Nat} (F : Fun K x qual st f fd) (S : FnScope N ps (defScope st)) (h1 : ps.length = np) :
    FnOk P w K mg base (L2.CX P w) (k + 1) f fd ps (SpD K cl np fun _ _ => .fail) := by
  subst h1
  exact ok0 F S
end
end DC
namespace DC
open PySem PySem.Spec PyProof.Rows L2
section
variable {X : Cx}
theorem call_sumA (hc : X.calm = true) : CallR X (.builtin "sum") (fun vs H Q => rSum X.K vs H Q ∨ ∃ (a : Addr) (ns : List Int), vs = [V.ref a] ∧ SqT X.K H a (ns.map V.int) ∧ Q (.int ns.sum) H) := L2.CallR.or (cr_sum hc) (call_sumT hc)
theorem call_sortA (hc : X.calm = true) : CallR X (.builtin "sorted") (fun xs H Q => rSortedI X.K xs H Q ∨ (rSortedDI xs H Q ∨ rSortedDT xs H Q)) := L2.CallR.or cr_sortedI (L2.CallR.or (call_sortedDI hc) (call_sortedDT hc))
end
end DC
set_option Elab.async false
set_option linter.all false
set_option maxRecDepth 100000
set_option maxHeartbeats 2000000
/-! DC: denotations evaluated. -/
namespace DC
open PySem
section
variable {α β : Type}
@[simp] theorem ev_bind_ok (a : α) (μ : Store) (k : α → Store → Res β) : (Res.ok a μ).bind k = k a μ := rfl
@[simp] theorem ev_bind_fail (k : α → Store → Res β) : (Res.fail : Res α).bind k = .fail := rfl
@[simp] theorem ev_bind_exc (x : Exn) (μ : Store) (k : α → Store → Res β) : (Res.exc x μ : Res α).bind k = .exc x μ := rfl
@[simp] theorem ev_st_ok (a : α) (μ : Store) (ρ : Env) (k : α → Store → SRes) : (Res.ok a μ).st ρ k = k a μ := rfl
@[simp] theorem ev_ofO_some (a : α) (μ : Store) : Res.ofO (some a) μ = .ok a μ := rfl
@[simp] theorem ev_ofO_none (μ : Store) : (Res.ofO none μ : Res α) = .fail := rfl
end
section
variable {ρ ρ' : Env} {μ μ' : Store} {f f1 f2 f3 f4 : XD} {fs : XL} {t t1 t2 : XB} {F G : SD} {g g' g'' : D → D → Option D}
/-- a slot read -/
def slV (s : Option Sl) (μ : Store) : Res D := match s with
  | some (.fz d) => .ok d μ
  | _ => .fail
@[simp] theorem slV_fz (d : D) : slV (some (.fz d)) μ = .ok d μ := rfl
@[simp] theorem ev_var (i : Nat) : xVar i ρ μ = slV ρ[i]? μ := rfl
@[simp] theorem ev_C (d : D) : xC d ρ μ = .ok d μ := rfl
@[simp] theorem ev_bin : xBin g f1 f2 ρ μ = (f1 ρ μ).bind fun a μ1 => (f2 ρ μ1).bind fun b μ2 => Res.ofO (g a b) μ2 := rfl
@[simp] theorem ev_un {h : D → Option D} : xUn h f ρ μ = (f ρ μ).bind fun a μ1 => Res.ofO (h a) μ1 := rfl
@[simp] theorem ev_chain : xChain g g' f1 f2 f3 ρ μ = (f1 ρ μ).bind fun a μ1 => (f2 ρ μ1).bind fun b μ2 => (Res.ofO ((g a b).bind asB) μ2).bind fun k μ2 =>
  if k then (f3 ρ μ2).bind fun c μ3 => Res.ofO (g' b c) μ3 else .ok (.bl false) μ2 := rfl
@[simp] theorem ev_chain3 : xChain3 g g' g'' f1 f2 f3 f4 ρ μ = (f1 ρ μ).bind fun a μ1 => (f2 ρ μ1).bind fun b μ2 => (Res.ofO ((g a b).bind asB) μ2).bind fun k μ2 =>
  if k then (f3 ρ μ2).bind fun c μ3 => (Res.ofO ((g' b c).bind asB) μ3).bind fun k2 μ3 => if k2 then (f4 ρ μ3).bind fun d μ4 => Res.ofO (g'' c d) μ4 else .ok (.bl false) μ3 else .ok (.bl false) μ2 := rfl
@[simp] theorem ev_and : xAnd f1 f2 ρ μ = (f1 ρ μ).bind fun a μ1 => (Res.ofO (asB a) μ1).bind fun k μ1 => if k then f2 ρ μ1 else .ok (.bl false) μ1 := rfl
@[simp] theorem ev_or : xOr f1 f2 ρ μ = (f1 ρ μ).bind fun a μ1 => (Res.ofO (asB a) μ1).bind fun k μ1 => if k then .ok (.bl true) μ1 else f2 ρ μ1 := rfl
@[simp] theorem ev_not : xNot f ρ μ = (f ρ μ).bind fun a μ1 => (Res.ofO (asB a) μ1).bind fun k μ1 => .ok (.bl (!k)) μ1 := rfl
@[simp] theorem ev_if : xIf t f1 f2 ρ μ = (t ρ μ).bind fun k μ1 => if k then f1 ρ μ1 else f2 ρ μ1 := rfl
@[simp] theorem ev_bVal : bVal f ρ μ = (f ρ μ).bind fun a μ1 => Res.ofO (asB a) μ1 := rfl
@[simp] theorem ev_bAnd : bAnd t1 t2 ρ μ = (t1 ρ μ).bind fun k μ1 => if k then t2 ρ μ1 else .ok false μ1 := rfl
@[simp] theorem ev_bOr : bOr t1 t2 ρ μ = (t1 ρ μ).bind fun k μ1 => if k then .ok true μ1 else t2 ρ μ1 := rfl
@[simp] theorem ev_bNot : bNot t ρ μ = (t ρ μ).bind fun k μ1 => .ok (!k) μ1 := rfl
@[simp] theorem ev_bTrue : bTrue ρ μ = .ok true μ := rfl
@[simp] theorem ev_asB (b : Bool) : asB (.bl b) = some b := rfl
@[simp] theorem ev_lNil : lNil ρ μ = .ok [] μ := rfl
@[simp] theorem ev_lCons : lCons f fs ρ μ = (f ρ μ).bind fun d μ1 => (fs ρ μ1).bind fun ds μ2 => .ok (d :: ds) μ2 := rfl
@[simp] theorem ev_tup : xTup fs ρ μ = (fs ρ μ).bind fun ds μ1 => if lenOk ds then .ok (.tup ds) μ1 else .fail := rfl
@[simp] theorem ev_lst : xLst fs ρ μ = (fs ρ μ).bind fun ds μ1 => if lenOk ds then .ok (.lst ds) μ1 else .fail := rfl
@[simp] theorem ev_call {h : List D → Store → Res D} : xCall h fs ρ μ = (fs ρ μ).bind fun ds μ1 => h ds μ1 := rfl
@[simp] theorem ev_cb {h : List D → Option D} : xCb h fs ρ μ = (fs ρ μ).bind fun ds μ1 => Res.ofO (h ds) μ1 := rfl
@[simp] theorem ev_ix : xIx f1 f2 ρ μ = (f1 ρ μ).bind fun a μ1 => (f2 ρ μ1).bind fun b μ2 => Res.ofO (ixS μ2 a b) μ2 := rfl
@[simp] theorem ev_sl {l h : Env → Store → Res (Option Int)} : xSl f l h ρ μ = (f ρ μ).bind fun a μ1 => (l ρ μ1).bind fun lo μ2 => (h ρ μ2).bind fun hi μ3 => Res.ofO (slT a lo hi) μ3 := rfl
@[simp] theorem ev_oNone : oNone ρ μ = .ok none μ := rfl
@[simp] theorem ev_oSome : oSome f ρ μ = (f ρ μ).bind fun d μ' => match d with
  | .int i => .ok (some i) μ'
  | _ => .fail := rfl
/-! statements -/
def SRes.seq (r : SRes) (G : SD) : SRes := match r with
  | .nx ρ μ => G ρ μ
  | r => r
@[simp] theorem seq_nx : (SRes.nx ρ μ).seq G = G ρ μ := rfl
@[simp] theorem seq_rt (d : D) : (SRes.rt d μ).seq G = .rt d μ := rfl
@[simp] theorem seq_bk : (SRes.bk ρ μ).seq G = .bk ρ μ := rfl
@[simp] theorem seq_ct : (SRes.ct ρ μ).seq G = .ct ρ μ := rfl
@[simp] theorem seq_fail : SRes.fail.seq G = .fail := rfl
@[simp] theorem ev_next : sNext ρ μ = .nx ρ μ := rfl
@[simp] theorem ev_seq : sSeq F G ρ μ = (F ρ μ).seq G := by
  unfold sSeq SRes.seq
  cases F ρ μ <;> rfl
@[simp] theorem ev_asg (i : Nat) : sAsg i f ρ μ = (f ρ μ).st ρ fun d μ' => .nx (ρ.set i (.fz d)) μ' := rfl
@[simp] theorem ev_asgF (i : Nat) : sAsgF i f ρ μ = (f ρ μ).st ρ fun d μ' => .nx (ρ.set i (.ow d)) μ' := rfl
@[simp] theorem ev_ret : sRet f ρ μ = (f ρ μ).st ρ fun d μ' => .rt d μ' := rfl
@[simp] theorem ev_retN : sRetN ρ μ = .rt .non μ := rfl
@[simp] theorem ev_sIf : sIf t F G ρ μ = (t ρ μ).st ρ fun b μ' => if b then F ρ μ' else G ρ μ' := rfl
@[simp] theorem ev_expr : sExpr f ρ μ = (f ρ μ).st ρ fun _ μ' => .nx ρ μ' := rfl
def frzE (ρ : Env) (i : Nat) : Env := match ρ[i]? with
  | some (.ow d) => ρ.set i (.fz d)
  | _ => ρ
@[simp] theorem ev_frz (i : Nat) : sFrz i F ρ μ = F (frzE ρ i) μ := by
  unfold sFrz frzE
  cases ρ[i]? with
  | none => rfl
  | some s => cases s <;> rfl
def appE (s : Option Sl) (i : Nat) (d : D) (ρ : Env) (μ : Store) : SRes := match s with
  | some (.ow (.lst ds)) => if Nat.ble ds.length 1000000 then .nx (ρ.set i (.ow (.lst (ds ++ [d])))) μ else .fail
  | _ => .fail
@[simp] theorem appE_ow (i : Nat) (d : D) (ds : List D) : appE (some (.ow (.lst ds))) i d ρ μ = if Nat.ble ds.length 1000000 then .nx (ρ.set i (.ow (.lst (ds ++ [d])))) μ else .fail := rfl
theorem ev_app {i : Nat} {ds : List D} {d : D} (h : ρ[i]? = some (.ow (.lst ds))) (hf : f ρ μ = .ok d μ') (hl : ds.length ≤ 1000000) : sApp i f ρ μ = .nx (ρ.set i (.ow (.lst (ds ++ [d])))) μ' := by
  unfold sApp
  rw [h, hf]
  show (if Nat.ble ds.length 1000000 = true then _ else _) = _
  rw [if_pos (Nat.ble_eq.mpr hl)]
@[simp] theorem ev_for {src : XL} {tg : Tg} : sFor src tg F ρ μ = (src ρ μ).st ρ fun ds μ' => sForL tg F ds ρ μ' := rfl
@[simp] theorem ev_gN (i : Nat) (d : D) : gN i d ρ = some (ρ.set i (.fz d)) := rfl
@[simp] theorem ev_gE : gE [] ρ = some ρ := rfl
@[simp] theorem ev_gC (tg : Tg) (gs : Tgs) (d : D) (ds : List D) : gC tg gs (d :: ds) ρ = (tg d ρ).bind fun ρ' => gs ds ρ' := rfl
@[simp] theorem ev_gT (gs : Tgs) (ds : List D) : gT gs (.tup ds) ρ = gs ds ρ := rfl
@[simp] theorem ev_seq_src : iSeq f ρ μ = (f ρ μ).bind fun d μ' => Res.ofO (iSeqD d) μ' := rfl
@[simp] theorem ev_iSeqD_lst (ds : List D) : iSeqD (.lst ds) = some ds := rfl
@[simp] theorem ev_iSeqD_tup (ds : List D) : iSeqD (.tup ds) = some ds := rfl
@[simp] theorem ev_iSeqD_str (z : Str) : iSeqD (.str z) = some (strD z) := rfl
@[simp] theorem ev_forL_nil {tg : Tg} : sForL tg F [] ρ μ = .nx ρ μ := rfl
/-- loops by a relation -/
theorem forL_rel {tg : Tg} {ds : List D} (R : Nat → Env → Store → Prop) (h0 : R 0 ρ μ)
    (hs : ∀ i d ρ μ, ds[i]? = some d → R i ρ μ → ∃ ρ1 ρ' μ', tg d ρ = some ρ1 ∧ F ρ1 μ = .nx ρ' μ' ∧ R (i + 1) ρ' μ') : ∃ ρ' μ', sForL tg F ds ρ μ = .nx ρ' μ' ∧ R ds.length ρ' μ' := by
  induction ds generalizing ρ μ R with
  | nil => exact ⟨ρ, μ, rfl, h0⟩
  | cons d ds ih =>
    obtain ⟨ρ1, ρ2, μ2, e1, e2, h1⟩ := hs 0 d ρ μ rfl h0
    obtain ⟨ρ3, μ3, e3, h3⟩ := ih (ρ := ρ2) (μ := μ2) (fun i => R (i + 1)) h1 fun i d' ρ μ hd hR => hs (i + 1) d' ρ μ (by simpa using hd) hR
    refine ⟨ρ3, μ3, ?_, h3⟩
    unfold sForL
    rw [e1]
    show (match F ρ1 μ with
      | .nx ρ' μ' => sForL tg F ds ρ' μ'
      | .ct ρ' μ' => sForL tg F ds ρ' μ'
      | .bk ρ' μ' => SRes.nx ρ' μ'
      | r => r) = _
    rw [e2]
    exact e3
theorem forL_cons {tg : Tg} {d : D} {ds : List D} {ρ1 ρ2 : Env} {μ2 : Store} (e1 : tg d ρ = some ρ1) (e2 : F ρ1 μ = .nx ρ2 μ2) : sForL tg F (d :: ds) ρ μ = sForL tg F ds ρ2 μ2 := by
  show (match tg d ρ with
    | none => SRes.fail
    | some ρ1 => match F ρ1 μ with
      | .nx ρ' μ' => sForL tg F ds ρ' μ'
      | .ct ρ' μ' => sForL tg F ds ρ' μ'
      | .bk ρ' μ' => SRes.nx ρ' μ'
      | r => r) = _
  rw [e1]
  show (match F ρ1 μ with
      | .nx ρ' μ' => sForL tg F ds ρ' μ'
      | .ct ρ' μ' => sForL tg F ds ρ' μ'
      | .bk ρ' μ' => SRes.nx ρ' μ'
      | r => r) = _
  rw [e2]
theorem forL_rt {tg : Tg} {d r : D} {ds : List D} {ρ1 : Env} {μ2 : Store} (e1 : tg d ρ = some ρ1) (e2 : F ρ1 μ = .rt r μ2) : sForL tg F (d :: ds) ρ μ = .rt r μ2 := by
  show (match tg d ρ with
    | none => SRes.fail
    | some ρ1 => match F ρ1 μ with
      | .nx ρ' μ' => sForL tg F ds ρ' μ'
      | .ct ρ' μ' => sForL tg F ds ρ' μ'
      | .bk ρ' μ' => SRes.nx ρ' μ'
      | r => r) = _
  rw [e1]
  show (match F ρ1 μ with
      | .nx ρ' μ' => sForL tg F ds ρ' μ'
      | .ct ρ' μ' => sForL tg F ds ρ' μ'
      | .bk ρ' μ' => SRes.nx ρ' μ'
      | r => r) = _
  rw [e2]
/-- comprehensions that change nothing -/
theorem lcL_map {tg : Tg} {e : XD} {ρw : Env} (p : D → Bool) (h : D → D) : ∀ {ds : List D}, (∀ d, d ∈ ds → ∃ ρ2, tg d ρw = some ρ2 ∧ t ρ2 μ = .ok (p d) μ ∧ (p d = true → e ρ2 μ = .ok (h d) μ)) → lcL tg t e ρw ds μ = .ok ((ds.filter p).map h) μ
  | [], _ => rfl
  | d :: ds, hh => by
    obtain ⟨ρ2, e1, e2, e3⟩ := hh d (by simp)
    have ih := lcL_map p h (ds := ds) fun x hx => hh x (List.mem_cons_of_mem _ hx)
    unfold lcL
    rw [e1]
    show (match t ρ2 μ with
      | .ok true μ1 => (match e ρ2 μ1 with
        | .ok y μ2 => (match lcL tg t e ρw ds μ2 with
          | .ok ys μ3 => Res.ok (y :: ys) μ3
          | _ => Res.fail)
        | _ => Res.fail)
      | .ok false μ1 => lcL tg t e ρw ds μ1
      | _ => Res.fail) = _
    rw [e2]
    cases hp : p d with
    | false =>
      rw [List.filter_cons_of_neg (by rw [hp]; decide)]
      exact ih
    | true =>
      rw [List.filter_cons_of_pos hp]
      show (match e ρ2 μ with
        | .ok y μ2 => (match lcL tg t e ρw ds μ2 with
          | .ok ys μ3 => Res.ok (y :: ys) μ3
          | _ => Res.fail)
        | _ => Res.fail) = _
      rw [e3 hp]
      show (match lcL tg t e ρw ds μ with
          | .ok ys μ3 => Res.ok (h d :: ys) μ3
          | _ => Res.fail) = _
      rw [ih]
      rfl
theorem ev_lc {src : XL} {tg : Tg} {e : XD} {vs : List Nat} {ds : List D} (p : D → Bool) (h : D → D) (hs : src ρ μ = .ok ds μ') (hv : vsOk ρ vs = true) (hl : ds.length ≤ 1000000)
    (hh : ∀ d, d ∈ ds → ∃ ρ2, tg d (wipeE ρ vs) = some ρ2 ∧ t ρ2 μ' = .ok (p d) μ' ∧ (p d = true → e ρ2 μ' = .ok (h d) μ')) : xLc src tg t e vs ρ μ = .ok (.lst ((ds.filter p).map h)) μ' := by
  unfold xLc
  rw [hs]
  show (if (vsOk ρ vs && lenOk ds) = true then (match lcL tg t e (wipeE ρ vs) ds μ' with
    | .ok ys μ2 => Res.ok (D.lst ys) μ2
    | _ => Res.fail) else Res.fail) = _
  rw [if_pos (by rw [hv, Bool.true_and]; exact Nat.ble_eq.mpr hl), lcL_map p h hh]
theorem filter_tt {α : Type} (l : List α) : l.filter (fun _ => true) = l := by
  induction l with
  | nil => rfl
  | cons a l ih => rw [List.filter_cons_of_pos rfl, ih]
/-- no test -/
theorem ev_lcT {src : XL} {tg : Tg} {e : XD} {vs : List Nat} {ds : List D} (h : D → D) (hs : src ρ μ = .ok ds μ') (hv : vsOk ρ vs = true) (hl : ds.length ≤ 1000000)
    (hh : ∀ d, d ∈ ds → ∃ ρ2, tg d (wipeE ρ vs) = some ρ2 ∧ e ρ2 μ' = .ok (h d) μ') : xLc src tg bTrue e vs ρ μ = .ok (.lst (ds.map h)) μ' := by
  have := ev_lc (t := bTrue) (p := fun _ => true) h hs hv hl fun d hd => by
    obtain ⟨ρ2, e1, e2⟩ := hh d hd
    exact ⟨ρ2, e1, rfl, fun _ => e2⟩
  rw [filter_tt] at this
  exact this
end
/-! bodies -/
def SRes.fin (r : SRes) : Res D := match r with
  | .rt d μ' => .ok d μ'
  | .nx _ μ' => .ok .non μ'
  | .exc x _ μ' => .exc x μ'
  | _ => .fail
@[simp] theorem fin_rt (d : D) (μ : Store) : (SRes.rt d μ).fin = .ok d μ := rfl
@[simp] theorem fin_nx (ρ : Env) (μ : Store) : (SRes.nx ρ μ).fin = .ok .non μ := rfl
@[simp] theorem ev_body (F : SD) (n : Nat) (ds : List D) (μ : Store) : bodyD F n ds μ = (F (entry n ds) μ).fin := rfl
@[simp] theorem ev_entry (n : Nat) (ds : List D) : entry n ds = ds.map Sl.fz ++ List.replicate (n - ds.length) Sl.no := rfl
@[simp] theorem ev_lenOk {α : Type} (xs : List α) : lenOk xs = Nat.ble xs.length 1000000 := rfl
@[simp] theorem ev_cmpI (p : Int → Int → Bool) (i j : Int) : cmpI p (.int i) (.int j) = some (.bl (p i j)) := rfl
@[simp] theorem ev_addI (i j : Int) : addD (.int i) (.int j) = some (.int (i + j)) := rfl
@[simp] theorem ev_subI (i j : Int) : subD (.int i) (.int j) = some (.int (i - j)) := rfl
@[simp] theorem ev_neg (i : Int) : negD (.int i) = some (.int (-i)) := rfl
@[simp] theorem ev_int (i : Int) : intD [.int i] = some (.int i) := rfl
@[simp] theorem ev_abs (i : Int) : absD [.int i] = some (.int (if i < 0 then -i else i)) := rfl
theorem ev_mul {i j : Int} (h : mulOk i j = true) : mulD (.int i) (.int j) = some (.int (i * j)) := by
  show (if mulOk i j = true then some (D.int (i * j)) else none) = _
  rw [if_pos h]
theorem small64_of {i : Int} (h : i.natAbs < 18446744073709551616) : small64 i = true := Nat.ble_eq.mpr h
theorem mulOk_r {i j : Int} (h : j.natAbs < 18446744073709551616) : mulOk i j = true := by
  unfold mulOk
  rw [small64_of h, Bool.or_true, Bool.true_or]
theorem mulOk_l {i j : Int} (h : i.natAbs < 18446744073709551616) : mulOk i j = true := by
  unfold mulOk
  rw [small64_of h, Bool.true_or, Bool.true_or]
theorem ev_mod {i j : Int} (h : 0 < j) : modD (.int i) (.int j) = some (.int (i % j)) := by
  show (if decide (0 < j) = true then some (D.int (i % j)) else none) = _
  rw [if_pos (decide_eq_true h)]
set_option exponentiation.threshold 10 in
theorem pow_big : (1000000000000000000 : Nat) < 2 ^ 8999 := Nat.lt_of_lt_of_le (show 1000000000000000000 < 2 ^ 60 by decide) (Nat.pow_le_pow_right (by decide) (by decide))
theorem ev_div {i j : Int} (h : 0 < j) (h2 : j < 1000000000000000000) : divD (.int i) (.int j) = some (.int (i / j)) := by
  show (if (decide (0 < j) && Nat.blt j.natAbs (2 ^ 8999)) = true then some (D.int (i / j)) else _) = _
  have : Nat.blt j.natAbs (2 ^ 8999) = true := Nat.ble_eq.mpr (Nat.lt_trans (by omega) pow_big)
  rw [this, decide_eq_true h]
  rfl
theorem ev_setI {ρ : Env} {μ μ1 μ2 : Store} {i n p : Nat} {fi fe : XD} {z j : Int} {ns : List Int} (h0 : ρ[i]? = some (.fz (.own n))) (he : fe ρ μ = .ok (.int z) μ1) (hi : fi ρ μ1 = .ok (.int j) μ2) (hn : μ2[n]? = some ns) (hp : L2.ixN ns.length j = some p) : sSetI i fi fe ρ μ = .nx ρ (μ2.set n (ns.set p z)) := by
  unfold sSetI
  rw [he]
  simp only [ev_st_ok, h0]
  rw [hi]
  simp only [ev_st_ok, hn, hp]
end DC
set_option Elab.async false
set_option linter.all false
set_option maxRecDepth 100000
set_option maxHeartbeats 2000000
/-! DC: while with its own count, tuples of the module, sorted sets. -/
namespace DC
open PySem PySem.Spec PyProof.Rows L2
/-! ### while, the turns counted from the slots -/
def fuelI (i : Nat) : Env → Store → Nat := fun ρ _ => match ρ[i]? with
  | some (.fz (.int z)) => z.natAbs + 1
  | _ => 0
def sWhileV (fu : Env → Store → Nat) (t : XB) (F : SD) : SD := fun ρ μ => sWhile (fu ρ μ) t F ρ μ
section
variable {X : Cx} {cl : Nat → Addr} {W : WX} {fr : Bool} {t : XB} {F : SD} {body : List Stmt} {pos : Pos}
theorem hWhileV (fu : Env → Store → Nat) {c : Expr} (hp : PassesOwn (model X.prog X.w) X.A X.env X.xe) (hc : PT X c (tT X.K cl W t)) (hb : PSs X body (tS X.K cl W fr F)) : PS X (.While c body [] pos) (tS X.K cl W fr (sWhileV fu t F)) :=
  ⟨fun pins s σ H E I q => by
    obtain ⟨c, os, ρ, μ, r, h⟩ := q
    exact (hWhile (fu ρ μ) hp hc hb).run pins s σ H E I ⟨c, os, ρ, μ, r, h⟩⟩
end
/-! ### a tuple of ints of the module -/
theorem rp_tup2 {K : PySem.W.Frag} {a : Addr} {d : Option Addr} {x y : Int} {t u : Tok} {n : Nat} {sl : Array (Option Value)} (h : K.lookup a = some ⟨.type "tuple", d, .seq #[.int x t, .int y u] n, sl⟩) : ∀ T Hv, Rp K T Hv (.ref a) (.tup [.int x, .int y]) := fun T Hv =>
  .tup (xs := [.int x, .int y]) (.inr ⟨_, _, _, h, rfl, rfl, by rw [sizeLine_eq]; show 2 ≤ _; decide, .cons (show RelV (.int x) (.int x t) from ⟨t, rfl⟩) (.cons (show RelV (.int y) (.int y u) from ⟨u, rfl⟩) .nil)⟩) (.cons (.int x) (.cons (.int y) .nil)) (.no rfl)
/-! ### sorted(set(xs)) of ints -/
def insU (x : Int) : List Int → List Int
  | [] => [x]
  | y :: r => if x < y then x :: y :: r else if x = y then y :: r else y :: insU x r
def sortU : List Int → List Int
  | [] => []
  | x :: r => insU x (sortU r)
theorem insU_mem (x k : Int) : ∀ l : List Int, k ∈ insU x l ↔ k = x ∨ k ∈ l
  | [] => by simp [insU]
  | y :: r => by
    unfold insU
    split
    · simp
    · split
      · rename_i h1 h2
        subst h2
        simp
      · rw [List.mem_cons, insU_mem x k r, List.mem_cons]
        constructor
        · rintro (h | h | h)
          · exact .inr (.inl h)
          · exact .inl h
          · exact .inr (.inr h)
        · rintro (h | h | h)
          · exact .inr (.inl h)
          · exact .inl h
          · exact .inr (.inr h)
theorem sortU_mem (k : Int) : ∀ l : List Int, k ∈ sortU l ↔ k ∈ l
  | [] => Iff.rfl
  | x :: r => by
    unfold sortU
    rw [insU_mem, sortU_mem k r, List.mem_cons]
theorem insU_asc (x : Int) : ∀ l : List Int, l.Pairwise (· < ·) → (insU x l).Pairwise (· < ·)
  | [], _ => by unfold insU; exact List.pairwise_singleton _ _
  | y :: r, h => by
    have h1 := List.pairwise_cons.mp h
    unfold insU
    split
    · rename_i hx
      refine List.pairwise_cons.mpr ⟨fun z hz => ?_, h⟩
      rcases List.mem_cons.mp hz with e | hz
      · rw [e]; exact hx
      · have := h1.1 z hz; omega
    · split
      · exact h
      · refine List.pairwise_cons.mpr ⟨fun z hz => ?_, insU_asc x r h1.2⟩
        rcases (insU_mem x z r).mp hz with e | hz
        · omega
        · exact h1.1 z hz
theorem sortU_asc : ∀ l : List Int, (sortU l).Pairwise (· < ·)
  | [] => List.Pairwise.nil
  | x :: r => insU_asc x _ (sortU_asc r)
theorem asc_uniq : ∀ {l m : List Int}, (∀ k, k ∈ l ↔ k ∈ m) → l.Pairwise (· < ·) → m.Pairwise (· < ·) → l = m
  | [], [], _, _, _ => rfl
  | [], y :: s, h, _, _ => by have := (h y).mpr (by simp); cases this
  | x :: r, [], h, _, _ => by have := (h x).mp (by simp); cases this
  | x :: r, y :: s, h, h1, h2 => by
    have a1 := List.pairwise_cons.mp h1
    have a2 := List.pairwise_cons.mp h2
    have e : x = y := by
      have m1 : x ∈ y :: s := (h x).mp (by simp)
      have m2 : y ∈ x :: r := (h y).mpr (by simp)
      rcases List.mem_cons.mp m1 with z1 | z1
      · exact z1
      · rcases List.mem_cons.mp m2 with z2 | z2
        · exact z2.symm
        · have := a2.1 x z1
          have := a1.1 y z2
          omega
    subst e
    rw [asc_uniq (l := r) (m := s) (fun k => ?_) a1.2 a2.2]
    constructor
    · intro hk
      rcases List.mem_cons.mp ((h k).mp (List.mem_cons_of_mem _ hk)) with z | z
      · subst z; have := a1.1 _ hk; omega
      · exact z
    · intro hk
      rcases List.mem_cons.mp ((h k).mpr (List.mem_cons_of_mem _ hk)) with z | z
      · subst z; have := a2.1 _ hk; omega
      · exact z
theorem nodup_len : ∀ {l m : List Int}, l.Nodup → m.Nodup → (∀ k, k ∈ l ↔ k ∈ m) → l.length = m.length := fun {l m} h1 h2 h =>
  (List.perm_iff_count.mpr fun k => by
    rw [List.Nodup.count h1, List.Nodup.count h2]
    by_cases hk : k ∈ l
    · rw [if_pos hk, if_pos ((h k).mp hk)]
    · rw [if_neg hk, if_neg fun z => hk ((h k).mpr z)]).length_eq
section
variable {P : Program} {w : World} {A : Around} {E : Value → Shared → Prop} {s : Shared}
abbrev emptySet (w : World) : Obj := { cls := .type "set", dict := none, data := .set #[] 0 (.fresh 0 0 (!w.params.followText "set-order")) }
set_option maxRecDepth 100000 in
set_option maxHeartbeats 3200000 in
/-- set(xs), xs a list of ints -/
theorem set_of_list {l : Addr} {items : Array Value} (ns : List Int) {Q : Value → Shared → Prop} (hh : A.handled = none) (hl : s.heap.IsList l items) (hit : IntsAre items.toList ns) (hb : ns.length + 1 < scanBound)
    (h : ∀ (h' : Heap) (tk c : Nat), SetR w h' s.heap.objs.size (fun j => decide (j ∈ ns)) c → (∀ b o, s.heap.get? b = some o → h'.get? b = some o) → Q (.ref s.heap.objs.size) { s with heap := h', toks := tk }) :
    wpAny (model P w) A (call (.type "set") [.ref l]) Q E s := by
  have nItems : items.size = ns.length := (Array.length_toList ▸ IntsAre.length hit :)
  obtain ⟨c0, tl0, inMro⟩ := PySem.F.called_set.mro
  have f1 := PySem.F.called_set.made; have f2 := PySem.F.called_set.sub; have f3 := PySem.F.called_set.notType; have f4 := PySem.F.called_set.canCreate; have f5 := PySem.F.typeCall_set_1 (.ref l)
  refine wpAny_call (codeAny_of_tree (show wpAny _ _ (callAny (.type "set") _) _ _ _ from wpAny_pure ⟨Code.quiet_builtin _ (by decide +kernel), codeAny_builtin PySem.F.entry_type_call ?_⟩))
  rw [Around.under_plain (weight_type_call_type "set" [.ref l] []) rfl]
  (repeat (any_goals (first | assumption | wp_step)))
  refine codeAny_mono (code_set_led1 (.ref l) (E := E) (Q₁ := fun obj s₁ => obj = .ref s.heap.objs.size ∧ s₁ = { s with heap := s.heap.push (emptySet w) }) ⟨rfl, rfl⟩) fun r s₁ got => ?_
  rcases r with e | fl
  · exact got
  cases fl with
  | ret obj =>
    obtain ⟨rfl, rfl⟩ := got
    have newAt : (s.heap.push (emptySet w)).get? s.heap.objs.size = some (emptySet w) := Heap.get?_push_size _ rfl
    have newTy : Shared.TypeIs { s with heap := s.heap.push (emptySet w) } (.ref s.heap.objs.size) "set" := ⟨_, newAt, rfl⟩
    have g1 := PySem.F.called_set.init.lookup; have g2 := PySem.F.called_set.init.bind (.ref s.heap.objs.size)
    (repeat (any_goals (first | assumption | wp_step)))
    refine codeAny_mono (codeAny_call_builtin (R := wants (fun r s₂ => r = .none ∧ ∃ h' tk c, s₂ = { s with heap := h', toks := tk } ∧ SetR w h' s.heap.objs.size (fun j => decide (j ∈ ns)) c ∧ (∀ b o, s.heap.get? b = some o → h'.get? b = some o)) E) PySem.F.called_set.init.plain PySem.F.entry_set_init (check_set_init_1 newTy ?_)) fun r₂ s₂ got₂ => ?_
    · obtain ⟨ol, hol, ecls, nl, edat⟩ := hl
      obtain ⟨ocls, odict, odata, oslots⟩ := ol
      simp only at ecls edat
      subst ecls edat
      have there : (s.heap.push (emptySet w)).get? l = some { cls := .type "list", dict := odict, data := .seq items nl, slots := oslots } := Heap.get?_push_of_some _ hol
      have s1 := PySem.F.sub_list_set; have s2 := PySem.F.sub_list_frozenset
      have s3 : (Value.type "list" == Value.type "dict") = false := by decide
      have isL : (s.heap.push (emptySet w)).IsList l items := ⟨_, there, rfl, nl, rfl⟩
      unfold Builtin.«set.__init__» noKeywords Builtin.Frozenset.updateFrom
      generalize hPI : pyIter = PI
      wp_walk
      subst hPI
      refine wpAny_pyIter_list isL (wpAny_bind (wpAny_runValue ?_))
      have ltS : l < s.heap.objs.size := Heap.lt_size hol
      have noH : A.in1.in1.in1.handled = none := by simp [hh]
      have nI : (s.heap.push (emptySet w)).objs.size = s.heap.objs.size + 1 := Heap.size_push ..
      have neI : l ≠ (s.heap.push (emptySet w)).objs.size := fun z => absurd (z.trans nI) (Nat.ne_of_lt (Nat.lt_succ_of_lt ltS))
      have out2 : s.heap.objs.size ∉ [(s.heap.push (emptySet w)).objs.size, l] := by
        rw [List.mem_cons, List.mem_singleton, nI]
        exact fun z => z.elim (Nat.ne_of_lt (Nat.lt_succ_self _)) (Nat.ne_of_gt ltS)
      have vals : ∀ (i : Nat) (v : Value), items[i]? = some v → ∃ k t, ns[i]? = some k ∧ v = .int k t := fun i v hv => by
        have lt : i < ns.length := nItems ▸ (Array.getElem?_eq_some_iff.mp hv).1
        obtain ⟨t, e⟩ := IntsAre.int_at hit i v (Array.getElem?_toList ▸ hv)
        exact ⟨ns[i], t, List.getElem?_eq_getElem lt, by rw [e, List.getD_eq_getElem?_getD, List.getElem?_eq_getElem lt]; rfl⟩
      refine set_update_ints ((Walks.list noH _ l neI items).toS) s.heap.objs.size out2 ns nItems hb vals (items.size - 0) 0 _ (by omega) (Nat.zero_le _) ⟨⟨_, Heap.get?_push_size _ rfl, rfl, rfl⟩, (isL.push _)⟩ ⟨0, Nat.le_refl 0, setR_new_at (Heap.get?_push_of_some _ newAt)⟩ fun s' c' hm hc' hS' => ?_
      obtain ⟨h', g2, d', tk', os'⟩ := s'
      obtain ⟨e1, e2, e3⟩ : g2 = s.gens ∧ d' = s.drawn ∧ os' = s.os := ⟨hm.gens, hm.drawn, hm.os⟩
      subst e1 e2 e3
      refine wpAny_pure ?_
      show wpAny _ _ (ret Value.none) _ _ _
      refine wpAny_pure ⟨rfl, h', tk', c', rfl, hS', fun b o e => ?_⟩
      have lb : b < s.heap.objs.size := Heap.lt_size e
      refine hm.heap b o ?_ (Heap.get?_push_of_some _ (Heap.get?_push_of_some _ e))
      rw [List.mem_cons, List.mem_singleton, nI]
      exact fun z => z.elim (Nat.ne_of_lt lb) (Nat.ne_of_lt (Nat.lt_succ_of_lt lb))
    · rcases r₂ with e | fl₂
      · exact got₂
      cases fl₂ with
      | ret r =>
        obtain ⟨rfl, h', tk, c', rfl, hS', hk'⟩ := got₂
        (repeat (any_goals (first | assumption | wp_step)))
        exact h _ _ _ hS' hk'
      | _ => exact got₂.elim
  | _ => exact got.elim
end
end DC
set_option Elab.async false
set_option linter.all false
set_option maxRecDepth 4000
set_option maxHeartbeats 2000000
/-! DC: sorted(set(xs)), xs a list of ints. -/
namespace DC
open PySem PySem.Spec PyProof.Rows L2
theorem asc_nodup {l : List Int} (h : l.Pairwise (· < ·)) : l.Nodup := h.imp fun {a b} h e => by omega
def rSetL (K : PySem.W.Frag) (w : World) : List V → Hp → VK → Prop := fun xs H Q => ∃ (l : Addr) (ns : List Int), xs = [V.ref l] ∧ SqL K H l (ns.map V.int) ∧ ns.length ≤ 4000 ∧
  ∀ (a : Addr) (n : Nat), H a = none → n = (sortU ns).length → Q (.ref a) (upd H a (SetO w a (fun j => decide (j ∈ ns)) n))
section
variable {X : Cx} {cl : Nat → Addr} {W : WX} {fs : XL}
theorem cr_setL (hc : X.calm = true) : CallR X (.type "set") (rSetL X.K X.w) := by
  intro pins s σ H xs us Q I r h
  obtain ⟨l, ns, rfl, hl, hb, q⟩ := h
  rw [Vals.ref1 r]
  obtain ⟨its, rv, pl, hz⟩ := I.list hl
  have hn : H s.heap.objs.size = none := I.hok.fresh (Nat.le_refl _)
  refine set_of_list ns (I.ok.hd hc) pl.isList (by simpa using RZ.intsAre_vals rv) (by unfold scanBound; omega) fun h' tk c R k => ?_
  refine ⟨.ref s.heap.objs.size, upd H s.heap.objs.size (SetO X.w s.heap.objs.size _ c), I.laid (t' := tk) k (Nat.le_refl _) (setO_new R), rfl, q _ c hn ?_⟩
  obtain ⟨o, es, ep, t, _, _, _, _, nd, mem, _, _, hsz, _, _⟩ := R
  have h1 := nodup_len nd (asc_nodup (sortU_asc ns)) fun k => (mem k).symm.trans ((decide_eq_true_iff).trans (sortU_mem k ns).symm)
  rw [List.length_map, Array.length_toList] at h1
  omega
def sortSetD : List D → Option D
  | [.lst ds] => (D.ints ds).bind fun ns => if Nat.ble ns.length 4000 && Nat.blt (sortU ns).length 64 then some (.lst ((sortU ns).map D.int)) else none
  | _ => none
theorem dSortSet {a : Expr} {p p2 q pos : Pos} (hc : X.calm = true) (hg : Gl X "sorted") (hm : X.mg "sorted" = none) (hv : bootBuiltins "sorted" = some (.builtin "sorted")) (hg2 : Gl X "set") (hm2 : X.mg "set" = none) (hv2 : bootBuiltins "set" = some (.type "set")) (ha : PA X [a] (tL X.K cl W fs))
    (he : starEach [a] X.env = (false, eval a X.env) :: starEach [] X.env := by rfl) (hpl : (backTo q (starEach [] X.env)).any (·.1) = false := by rfl)
    (he' : starEach [.Call (.Name "set" p2) [a] [] q] X.env = (false, eval (.Call (.Name "set" p2) [a] [] q) X.env) :: starEach [] X.env := by rfl) (hpl' : (backTo pos (starEach [] X.env)).any (·.1) = false := by rfl) :
    PE X (.Call (.Name "sorted" p) [.Call (.Name "set" p2) [a] [] q] [] pos) (tF X.K cl W (xCb sortSetD fs)) :=
  pe_imp (pe_callB (cr_sortedSet hc) hg hm hv (pa_cons (pe_callTy (cr_setL hc) hg2 hm2 hv2 ha (by decide) (by decide) he hpl) pa_nil he') (by decide) (by decide) he' hpl') fun σ H Q h => by
    obtain ⟨c, os, ρ, μ, r, h⟩ := h
    refine ⟨c, os, ρ, μ, r, (Out.bind h).imp (fun ds μ1 h1 => ?_) fun _ _ q => q⟩
    intro vs H1 r1 e1 p1
    obtain ⟨d, e, q⟩ := Out.ofO h1
    unfold sortSetD at e
    split at e
    · rename_i ds
      obtain ⟨ns, e2, e3⟩ := Option.bind_eq_some_iff.mp e
      split at e3
      · rename_i hl
        cases e3
        have hl1 := Nat.le_of_ble_eq_true (Bool.and_eq_true_iff.mp hl).1
        have hl2 : (sortU ns).length < 64 := Nat.le_of_ble_eq_true (Bool.and_eq_true_iff.mp hl).2
        have z := D.ints_eq e2
        subst z
        obtain ⟨v, z, pv⟩ := p1.one
        subst z
        obtain ⟨l, xs, z, g1, g2⟩ := pv.inv_lst
        subst z
        have z := g2.ints
        subst z
        refine ⟨l, ns, rfl, SqL.of (vw_le _ _ g1), hl1, fun a n hn en => ?_⟩
        refine ⟨a, _, n, rfl, upd_same, by omega, fun us p2 hs hmem hlen hp => ?_⟩
        have eu : us = sortU ns := asc_uniq (fun k => (hmem k).trans ((decide_eq_true_iff).trans (sortU_mem k ns).symm)) hs (sortU_asc ns)
        subst eu
        exact FOk.newL ((q.mono e1).mono (Kp.new hn)) (r1.new hn) (RpA.of_ints _) hp
      · cases e3
    · cases e
end
end DC
namespace DC
open PySem PySem.Spec PyProof.Rows L2
/-- a comprehension within another one's element -/
theorem blkOk_blk {X : Cx} {s : Shared} {H : Hp} {scope : Scope} {cl : List (PySem.Str × Addr)} {C : Addr} {fp : List Addr} {N : List PySem.Str} {sc inner : Scope} {own : List (PySem.Str × Nat)} (hN : X.N = N) (hs : X.env.scope = sc) (h : blkC N (relS scope sc) inner own = true) :
    BlkOk (X.blk s H scope (compEnvC scope cl C X.env) fp).N (X.blk s H scope (compEnvC scope cl C X.env) fp).env.scope inner own := by
  subst hN hs
  exact blkOk_by h
end DC
set_option Elab.async false
set_option linter.all false
set_option maxRecDepth 100000
set_option maxHeartbeats 2000000
/-! DC: max of a tuple or list of ints; list(range). -/
namespace DC
open PySem PySem.Spec PyProof.Rows L2
def rMaxT (K : PySem.W.Frag) : List V → Hp → VK → Prop := fun vs H Q => ∃ (a : Addr) (ns : List Int), vs = [V.ref a] ∧ SqT K H a (ns.map V.int) ∧ 0 < ns.length ∧ ∀ m, m ∈ ns → (∀ y, y ∈ ns → y ≤ m) → Q (.int m) H
section
variable {X : Cx}
theorem cr_maxT (hc : X.calm = true) : CallR X (.builtin "max") (rMaxT X.K) := by
  intro pins s σ H vs us Q I r h
  obtain ⟨a, ns, rfl, hs, hne, q⟩ := h
  obtain ⟨its, rv, hl, _⟩ := I.tuple hs
  have hT : s.heap.IsTuple a its.toArray := hl
  rw [Vals.ref1 r]
  have hlen : its.length = ns.length := by rw [← rv.length, List.length_map]
  have hal : a < s.heap.objs.size := by obtain ⟨o, ho, _⟩ := hT; exact Heap.lt_size ho
  have hval : ∀ (i : Nat) (v : Value), its.toArray[i]? = some v → ∃ t, v = .int (ns.getD i 0) t := fun i v hv => by
    have e1 : its[i]? = some v := by simpa using hv
    have hlt : i < ns.length := by rw [← hlen]; exact (List.getElem?_eq_some_iff.mp e1).1
    have hz : ns[i]? = some ns[i] := List.getElem?_eq_getElem hlt
    obtain ⟨u, hu, ru⟩ := rv.get (x := V.int ns[i]) (by rw [List.getElem?_map, hz]; rfl)
    rw [e1] at hu
    cases hu
    obtain ⟨t, rfl⟩ := ru
    exact ⟨t, by simp [hz]⟩
  refine call_max_walkS (wpAny_pyIter_tuple hT ?_)
  refine ⟨s.heap.objs.size, _, _, _, _, _, _, _, rfl, (Walks.tuple (A := X.A.in1) (I.ok.hd hc) s.heap.objs.size a (Nat.ne_of_lt hal) its.toArray).toS, ⟨⟨_, Heap.get?_push_size _ rfl, rfl, rfl⟩, hT.at fun o e => Heap.get?_push_of_some _ e⟩, fun b hb => ?_, by rw [List.size_toArray, hlen]; exact hne, CmpOf.ints_gt (fun i => ns.getD i 0) hval, fun v s' hP hm => ?_⟩
  · show b < (s.heap.push _).objs.size
    rw [size_push']
    rcases List.mem_cons.mp hb with e | hb
    · rw [e]; exact Nat.lt_succ_self _
    · rw [List.mem_singleton.mp hb]; exact Nat.lt_succ_of_lt hal
  · have hk : ∀ b o, s.heap.get? b = some o → s'.heap.get? b = some o := fun b o e =>
      hm.heap b o (fun hI => absurd (Heap.lt_size e) (by rw [List.mem_singleton.mp hI]; exact Nat.lt_irrefl _)) (Heap.get?_push_of_some _ e)
    obtain ⟨t, rfl⟩ := hval _ v hP
    obtain ⟨b1, b2⟩ := argBest_gt (fun i => ns.getD i 0) (its.toArray.size - 1)
    rw [Moved.eq_with hm]
    have hsz : its.toArray.size = ns.length := by rw [List.size_toArray, hlen]
    refine ⟨.int _, H, I.kept (t' := s'.toks) hk, ⟨_, rfl⟩, q _ ?_ fun y hy => ?_⟩
    · have hlt : argBest (fun i j => decide (ns.getD i 0 > ns.getD j 0)) (its.toArray.size - 1) < ns.length := by omega
      rw [List.getD_eq_getElem?_getD, List.getElem?_eq_getElem hlt]
      exact List.getElem_mem hlt
    · obtain ⟨j, hj, rfl⟩ := List.getElem_of_mem hy
      have := b2 j (by omega)
      rw [List.getD_eq_getElem?_getD, List.getElem?_eq_getElem hj] at this
      exact this
end
/-- the greatest -/
def maxI : Int → List Int → Int
  | x, [] => x
  | x, y :: r => maxI (if y > x then y else x) r
theorem maxI_mem : ∀ (r : List Int) (x : Int), maxI x r = x ∨ maxI x r ∈ r
  | [], x => .inl rfl
  | y :: r, x => by
    unfold maxI
    split
    · rcases maxI_mem r y with h | h
      · exact .inr (by rw [h]; simp)
      · exact .inr (List.mem_cons_of_mem _ h)
    · rcases maxI_mem r x with h | h
      · exact .inl h
      · exact .inr (List.mem_cons_of_mem _ h)
theorem maxI_ge : ∀ (r : List Int) (x : Int), x ≤ maxI x r ∧ ∀ y, y ∈ r → y ≤ maxI x r
  | [], x => ⟨Int.le_refl _, fun y h => by cases h⟩
  | y :: r, x => by
    unfold maxI
    obtain ⟨h1, h2⟩ := maxI_ge r (if y > x then y else x)
    have h3 : x ≤ (if y > x then y else x) ∧ y ≤ (if y > x then y else x) := by split <;> omega
    refine ⟨by omega, fun z hz => ?_⟩
    rcases List.mem_cons.mp hz with e | hz
    · subst e; omega
    · exact h2 z hz
def maxTD : List D → Option D
  | [.tup ds] => (D.ints ds).bind fun ns => match ns with
    | [] => none
    | x :: r => some (.int (maxI x r))
  | _ => none
theorem c_maxT {K : PySem.W.Frag} : CbD K (rMaxT K) maxTD := fun {c os ρ μ σ H vs ds d Q} r p e q => by
  unfold maxTD at e
  split at e
  · rename_i ds
    obtain ⟨ns, e1, e2⟩ := Option.bind_eq_some_iff.mp e
    have z := D.ints_eq e1
    subst z
    obtain ⟨v, z, pv⟩ := p.one
    subst z
    obtain ⟨a, xs, z, g1, g2⟩ := pv.inv_tup
    subst z
    have z := g2.ints
    subst z
    split at e2
    · cases e2
    · rename_i x l
      cases e2
      refine ⟨a, x :: l, rfl, vw_le.sqT g1, by simp, fun m hm hb => ?_⟩
      have hm' : m = maxI x l := by
        obtain ⟨h1, h2⟩ := maxI_ge l x
        have h3 : maxI x l ≤ m := by
          rcases maxI_mem l x with h | h
          · rw [h]; exact hb x (by simp)
          · exact hb _ (List.mem_cons_of_mem _ h)
        have h4 : m ≤ maxI x l := by
          rcases List.mem_cons.mp hm with h | h
          · rw [h]; exact h1
          · exact h2 m h
        omega
      subst hm'
      exact VOk.same q r (.int _)
  · cases e
/-! ### list(range(n)) -/
end DC
set_option Elab.async false
set_option linter.all false
set_option maxRecDepth 4000
set_option maxHeartbeats 2000000
/-! DC: list(range(n)). -/
namespace DC
open PySem PySem.Spec PyProof.Rows L2
def listRgD : D → Option D
  | .int n => if decide (-1000 ≤ n) && decide (n ≤ 1000) then some (.lst (rangeD 0 n.toNat)) else none
  | _ => none
section
variable {X : Cx} {cl : Nat → Addr} {W : WX} {f : XD}
theorem rgV_ints (n : Int) : ∃ ns : List Int, rgV 0 n = ns.map V.int ∧ rangeD 0 n.toNat = ns.map D.int := by
  refine ⟨(List.range n.toNat).map fun i => 0 + (i : Nat), ?_, ?_⟩
  · unfold rgV
    rw [Int.sub_zero, List.map_map]; rfl
  · unfold rangeD
    rw [List.map_map]; rfl
theorem dListRg {a : Expr} {p p2 q pos : Pos} (hc : X.calm = true) (hg : Gl X "list") (hm : X.mg "list" = none) (hg2 : Gl X "range") (hm2 : X.mg "range" = none) (ha : PE X a (tE X.K cl W f))
    (na : starEach [a] X.env = (false, eval a X.env) :: starEach [] X.env := by rfl)
    (na' : starEach [.Call (.Name "range" p2) [a] [] q] X.env = (false, eval (.Call (.Name "range" p2) [a] [] q) X.env) :: starEach [] X.env := by rfl) :
    PE X (.Call (.Name "list" p) [.Call (.Name "range" p2) [a] [] q] [] pos) (tF X.K cl W (xUn listRgD f)) :=
  pe_imp (pe_listRg hc hg hm (prg_1 hg2 hm2 ha na) na') fun σ H Q h => by
    obtain ⟨c, os, ρ, μ, r, h⟩ := h
    refine ⟨c, os, ρ, μ, r, (Out.bind h).imp (fun d1 μ1 h1 => ?_) fun _ _ q => q⟩
    intro v1 H1 r1 e1 p1
    obtain ⟨d, e, h3⟩ := Out.ofO h1
    unfold listRgD at e
    split at e
    · rename_i n
      split at e
      · rename_i hl
        cases e
        have h1 := of_decide_eq_true (Bool.and_eq_true_iff.mp hl).1
        have h2 := of_decide_eq_true (Bool.and_eq_true_iff.mp hl).2
        have z := p1.inv_int
        subst z
        obtain ⟨ns, g1, g2⟩ := rgV_ints n
        refine ⟨n, rfl, ⟨by omega, by omega, by omega, by omega, by omega⟩, fun q hq => ?_⟩
        rw [g1]
        rw [g2] at h3
        exact FOk.newL (h3.mono e1) r1 (RpA.of_ints _) hq
      · cases e
    · cases e
end
end DC
namespace DC
open PySem PySem.Spec PyProof.Rows L2
section
variable {X : Cx} {cl : Nat → Addr} {W : WX} {pos p : Pos} {k : Nat} {f : Addr} {fd : FuncData} {ps : List Str} {x : Str} {g : List D → Store → Res D}
theorem pe_callSD0 {CX : CXT} {sp : Sp} {dvs : List V} {ds : List Value} {E : L2.St → XK} (F : FnOk X.prog X.w X.K X.mg X.base CX k f fd ps sp) (hr : Room k X.A) (hg : Gl X x) (hm : X.mg x = some (.ref f)) (hk : PySem.W.keepIn X.K (.ref f) = true) (hb : Binds X.K fd ps ds) (hd : Vals dvs ds) (hx : ∀ σ, PassesAt CX X σ (E σ))
    (hdb : (x == ("__debug__" : Str)) = false := by decide) : PE X (.Call (.Name x p) [] [] pos) (tCallSD sp dvs E tNil) := by
  refine ⟨fun pins s σ H Q I h => ?_⟩
  refine wpAny_Call_Name_kw (ld_glob I hg hm ?_ hdb)
  exact PySem.W.callWith_K0 I.kIn hk (run_fnSD (us := []) F hr hb hd (hx σ) I .nil h)
theorem dCall0 (F : FnOk X.prog X.w X.K X.mg X.base (L2.CX X.prog X.w) k f fd ps (SpD X.K cl 0 g)) (hr : Room k X.A) (hg : Gl X x) (hm : X.mg x = some (.ref f)) (hk : PySem.W.keepIn X.K (.ref f) = true) (hb : Binds X.K fd ps []) (tk : Takes X W)
    (hdb : (x == ("__debug__" : Str)) = false := by decide) :
    PE X (.Call (.Name x p) [] [] pos) (tE X.K cl W (xCall g lNil)) := pe_imp (pe_callSD0 (dvs := []) F hr hg hm hk hb .nil (fun σ => passAt tk σ) hdb) fun σ H Q => by
  rintro ⟨c, os, ρ, μ, r, h⟩
  have h' : Out (g [] μ) (VOk X.K c os ρ σ H Q) (EOk X.K cl W c os ρ σ H) := h
  show SpD X.K cl 0 g ([] ++ []) H Q _
  rw [List.append_nil]
  refine ⟨fun b => c.A b ∨ some b ∈ os, c.T, μ, [], r.callIn, ?_, rfl, ?_⟩
  · exact .nil
  · refine Out.imp h' (fun d μ2 q v H2 r2 p2 => ?_) (fun y μ2 q v dx H2 r2 p2 => ?_)
    · obtain ⟨r3, e3⟩ := r.callOut r2
      exact q v H2 r3 e3 ((vw_in c os H H2) ▸ p2)
    · obtain ⟨r3, e3⟩ := r.callOut r2
      exact q v dx H2 r3 e3 p2.of_in
end
end DC
namespace DC
open PySem PySem.Spec PyProof.Rows L2
/-- x in l: data of any depth in a list -/
def inLD (a b : D) : Option D := match b with
  | .lst ys => if a.pd 60 && (D.lst ys).pd 60 then some (.bl (ys.any fun z => D.eqv z a)) else none
  | _ => none
theorem toPyA_any (a : D) : ∀ ys : List D, ((D.toPyA ys).any fun z => PyData.eqv z a.toPy) = ys.any fun z => D.eqv z a
  | [] => rfl
  | y :: ys => by
    show (PyData.eqv y.toPy a.toPy || (D.toPyA ys).any fun z => PyData.eqv z a.toPy) = (D.eqv y a || ys.any fun z => D.eqv z a)
    rw [toPyA_any a ys]
    rfl
theorem o_inL {K : PySem.W.Frag} : Op2 K (rInD K) inLD := fun {c os ρ μ σ H x y d1 d2 d Q} r p1 p2 e q => by
  unfold inLD at e
  split at e
  · split at e
    · rename_i ys hl
      cases e
      rw [Bool.and_eq_true] at hl
      obtain ⟨a1, a2, a3⟩ := py_of vw_le _ _ _ hl.1 p1
      obtain ⟨b1, b2, b3⟩ := py_of vw_le _ _ _ hl.2 p2
      refine ⟨_, D.toPyA ys, a1, b1, shaped_of a2 a3, shaped_of b2 b3, ?_⟩
      rw [toPyA_any]
      exact VOk.same q r (.bl _)
    · cases e
  · cases e
end DC
namespace DC
open PySem PySem.Spec PyProof.Rows L2
theorem room65 {k : Nat} {A : Around} (r : Room (k + 1) A) : A.units + 65 < cLine := by have := r.un; omega
end DC
set_option Elab.async false
set_option linter.all false
set_option maxRecDepth 4000
set_option maxHeartbeats 2000000
/-! DC: a, b = xs.pop(), xs a list of its own. -/
namespace DC
open PySem PySem.Spec PyProof.Rows L2
def sPopG (i : Nat) (g : Tg) : SD := fun ρ μ => match ρ[i]? with
  | some (.ow (.lst ds)) => match ds.getLast? with
    | some d => match g d (ρ.set i (.ow (.lst ds.dropLast))) with
      | some ρ' => .nx ρ' μ
      | none => .fail
    | none => .fail
  | _ => .fail
theorem vw_own {c : Ct} {os : List (Option Addr)} {H : Hp} {a : Addr} {o : HO} (hm : some a ∈ os) : vw c os (upd H a o) = vw c os H := by
  funext b
  unfold vw
  by_cases hb : (c.A b ∨ b ∈ c.T ∨ some b ∈ os)
  · rw [if_pos hb, if_pos hb]
  · rw [if_neg hb, if_neg hb, upd_ne (fun z => hb (.inr (.inr (by rw [z]; exact hm))))]
section
variable {X : Cx} {cl : Nat → Addr} {W : WX} {s0 : Stmt} {is : List Nat} {g : Tg} {fr : Bool}
theorem hPopG {i : Nat} (h : PS X s0 (tAsg (tBM0 X.K "list" rPop (tVar i)) (tG X.K is g))) : PS X s0 (tS X.K cl W fr (sPopG i g)) := ps_imp h fun E σ H => by
  rintro ⟨c, os, ρ, μ, r, h⟩
  unfold sPopG at h
  split at h
  · rename_i ds e0
    obtain ⟨a, h1, h2, h3⟩ := r.getOw e0
    have hm : some a ∈ os := List.mem_of_getElem? h2
    cases h3 with
    | lst q k =>
      rename_i ys
      split at h
      · rename_i d e1
        split at h
        · rename_i ρ' eg
          have hl := k.length
          have e2 : ds[ds.length - 1]? = some d := by rw [← List.getLast?_eq_getElem?]; exact e1
          obtain ⟨y, hy, py⟩ := k.get (show ds[ys.length - 1]? = some d by rw [hl]; exact e2)
          refine ⟨.ref a, h1, .inl ⟨rfl, ys, .inl (.inl q)⟩, ?_⟩
          refine ⟨a, ys, y, rfl, rfl, q, hy, ?_⟩
          have kd : RpA X.K c.T (vw c os H) ys.dropLast ds.dropLast := by
            rw [List.dropLast_eq_take, List.dropLast_eq_take, ← hl]
            exact k.take _
          have r2 := r.change (o := .lst ys.dropLast) (d' := .lst ds.dropLast) h1 h2 (.lst upd_same kd)
          refine ⟨c, os, _, μ, d, ρ', r2, ?_, eg, fun os' σ' r' _ => h os' σ' _ r'⟩
          rw [vw_own hm]
          exact py
        · exact h.elim
      · exact h.elim
  · exact h.elim
end
end DC
namespace DC
theorem pl_Val {f : XD} (h : Plain f) : Plain (bVal f) := pl_bind (k := fun _ a _ μ1 => Res.ofO (asB a) μ1) h fun _ _ => pl_ofO
end DC
set_option Elab.async false
set_option linter.all false
set_option maxRecDepth 100000
set_option maxHeartbeats 2000000
/-! DCy: dict(chances), list(d), list(zip(a, b)). -/
namespace DC
open PySem PySem.Spec PyProof.Rows L2
section
variable {X : Cx}
theorem pairsN {pins : List (Addr × Obj)} {σ : L2.St} {H : Hp} {s : Shared} (I : Inv X pins σ H s) : ∀ {ps : List Addr} {kvs : List (Key × V)}, Paired (fun p kv => SqT X.K H p [kV kv.1, kv.2]) ps kvs →
    ∃ (prs : List (Key × Value)) (pv : List (Value × Value)), KV kvs prs ∧ prs.length = ps.length ∧ pv.length = ps.length ∧ ∀ (j : Nat) (b : Addr), ps[j]? = some b → ∃ k u y, prs[j]? = some (k, y) ∧ pv[j]? = some (u, y) ∧ IsTup s.heap b #[u, y] ∧ keyIs k u = true
  | _, _, .nil => ⟨[], [], .nil, rfl, rfl, fun j q e => by simp at e⟩
  | _, _, .cons (a := p) (b := kv) h t => by
    obtain ⟨prs, pv, r, hl, hl2, hp⟩ := pairsN I t
    obtain ⟨its, rv, ht, _⟩ := I.tuple h
    obtain ⟨u, y, ei, ru, ry⟩ := vals2 rv
    subst ei
    refine ⟨(kv.1, y) :: prs, (u, y) :: pv, .cons ⟨rfl, ry⟩ r, by rw [List.length_cons, List.length_cons, hl], by rw [List.length_cons, List.length_cons, hl2], fun j q e => ?_⟩
    cases j with
    | zero =>
      have e' : p = q := Option.some.inj e
      subst e'
      exact ⟨kv.1, u, y, rfl, rfl, ht, kV_is (P := X.prog) (w := X.w) ru⟩
    | succ j =>
      obtain ⟨k, u', y', e1, e2, e3, e4⟩ := hp j q (by simpa using e)
      exact ⟨k, u', y', by simpa using e1, by simpa using e2, e3, e4⟩
/-- dict(t) of a tuple of pairs (key, value) whose object has no dict -/
theorem call_dictT (hcalm : X.calm = true) : CallR X (.type "dict") (fun xs H Q => ∃ (a : Addr) (o : Obj) (ps : List Addr) (kvs : List (Key × V)), xs = [.ref a] ∧ H a = some (.frz o (.tup (ps.map V.ref))) ∧ o.dict = none ∧ Paired (fun p kv => SqT X.K H p [kV kv.1, kv.2]) ps kvs ∧
    ∀ p, H p = none → Q (.ref p) (upd H p (.dK (mergeK [] kvs)))) := by
  intro pins s σ H xs us Q I r q
  obtain ⟨a, o, ps, kvs, ex, hq, hdn, hp, q⟩ := q
  subst ex
  obtain ⟨u, eu, rx⟩ := vals1 r
  subst eu
  cases rx
  obtain ⟨ho, hz, its, rv, o', ho', hc, n, hdat⟩ := (show ObjOk X.prog X.w H s.heap a (.frz o (.tup (ps.map V.ref))) from I.hok a _ hq)
  rw [ho] at ho'
  cases ho'
  have ei := refs_at rv
  subst ei
  rw [List.length_map] at hz
  obtain ⟨prs, pv, rel, hl, hl2, hpr⟩ := pairsN I hp
  have at_ : ∀ {j : Nat}, j < ps.length → ps[j]? = some (ps.getD j 0) := fun {j} h => by rw [List.getD_eq_getElem?_getD, List.getElem?_eq_getElem h]; rfl
  refine PySem.call_dict_pairs (knd := mixKind X.prog X.w) (kvs := prs) (PairArg.tuple (prog := X.prog) (w := X.w) a (ps.map Value.ref).toArray (fun j => ps.getD j 0) pv) (I.ok.hd hcalm) ⟨⟨o, n, ho, hc, hdn, hdat⟩, ⟨by rw [List.size_toArray, List.length_map, hl2], fun j k v e => ?_⟩⟩ ⟨by rw [hl, hl2], fun i key v e => ?_⟩ (by rw [hl2]; exact hz) fun h' tk hd' k => ?_
  · have hj : j < ps.length := by rw [← hl2]; exact (List.getElem?_eq_some_iff.mp e).1
    obtain ⟨k', u, y, e1, e2, e3, e4⟩ := hpr j _ (at_ hj)
    rw [e] at e2
    cases e2
    exact ⟨by rw [List.getElem?_toArray, List.getElem?_map, at_ hj]; rfl, .inl e3⟩
  · have hj : i < ps.length := by rw [← hl2]; exact (List.getElem?_eq_some_iff.mp e).1
    obtain ⟨k', u, y, e1, e2, e3, e4⟩ := hpr i _ (at_ hj)
    rw [show pv[i]? = some (key, v) from e] at e2
    cases e2
    exact ⟨k', e1, e4⟩
  · have hm : (s.heap.objs.size == sysModules) = false := beq_eq_false_iff_ne.mpr (Nat.ne_of_gt I.big)
    have hlen : (mergeK [] kvs).length ≤ sizeLine := by
      refine Nat.le_trans (length_mergeK kvs []) ?_
      rw [List.length_nil, Nat.zero_add, rel.length, hl]
      exact hz
    exact ⟨.ref s.heap.objs.size, upd H s.heap.objs.size (.dK (mergeK [] kvs)), I.laid (t' := tk) (fun b o e => k b o List.not_mem_nil e) (Nat.le_refl _) (show ObjOk X.prog X.w _ _ _ (.dK (mergeK [] kvs)) from ⟨hlen, hm, merged [] prs, KV.merge rel .nil, hd'⟩), rfl, q _ (I.hok.fresh (Nat.le_refl _))⟩
end
theorem putK_new {k : Key} {v : V} : ∀ {kvs : List (Key × V)}, k ∉ kvs.map Prod.fst → putK kvs k v = kvs ++ [(k, v)] := by
  intro kvs h
  unfold putK
  rw [if_neg]
  simpa using h
theorem mergeK_new : ∀ (more kvs : List (Key × V)), ((kvs ++ more).map Prod.fst).Nodup → mergeK kvs more = kvs ++ more
  | [], kvs, _ => by simp [mergeK]
  | (k, v) :: more, kvs, h => by
    have h' : ((kvs ++ [(k, v)] ++ more).map Prod.fst).Nodup := by simpa using h
    have hk : k ∉ kvs.map Prod.fst := by
      rw [List.map_append] at h
      intro z
      exact (List.nodup_append.mp h).2.2 k z k (by simp) rfl
    show mergeK (putK kvs k v) more = _
    rw [putK_new hk, mergeK_new more _ h']
    simp
/-- what a pair bears -/
def prV : D → D
  | .tup [_, d] => d
  | d => d
def dictTD : List D → Option D
  | [.tup ds] => if isCh ds then (match prKs ds with
    | some ks => some (.dk (ks.map Sum.inl) (ds.map prV))
    | none => none) else none
  | _ => none
theorem rises_lt : ∀ (b : Int) (r : List Int), rises (b :: r) = true → ∀ x ∈ r, b < x
  | b, [], _, x, hx => by cases hx
  | b, c :: r, h, x, hx => by
    have h' : (decide (b < c) && rises (c :: r)) = true := h
    rw [Bool.and_eq_true] at h'
    have h1 : b < c := of_decide_eq_true h'.1
    rcases List.mem_cons.mp hx with rfl | hx
    · exact h1
    · exact Int.lt_trans h1 (rises_lt c r h'.2 x hx)
theorem rises_tl {b : Int} {r : List Int} (h : rises (b :: r) = true) : rises r = true := by
  cases r with
  | nil => rfl
  | cons c r =>
    have h' : (decide (b < c) && rises (c :: r)) = true := h
    rw [Bool.and_eq_true] at h'
    exact h'.2
theorem rises_nd : ∀ (ks : List Int), rises ks = true → ks.Nodup
  | [], _ => List.nodup_nil
  | b :: r, h => by
    refine List.nodup_cons.mpr ⟨fun z => ?_, rises_nd r (rises_tl h)⟩
    exact Int.lt_irrefl _ (rises_lt b r h b z)
theorem prK_eq {d : D} {k : Int} (h : prK d = some k) : ∃ a b, d = .tup [.int k, .tup [.int a, .int b]] := by
  unfold prK at h
  split at h
  · cases h; exact ⟨_, _, rfl⟩
  · cases h
/-- pairs as they lie -/
theorem prs_lie {K : PySem.W.Frag} {T : List Addr} {Hv H : Hp} (e : Exts Hv H) : ∀ {ds : List D} {ks : List Int} {vs : List V}, prKs ds = some ks → RpA K T Hv vs ds →
    ∃ (ps : List Addr) (kvs : List (Key × V)), vs = ps.map V.ref ∧ kvs.map Prod.fst = ks.map Sum.inl ∧ Paired (fun p (kv : Key × V) => SqT K H p [kV kv.1, kv.2]) ps kvs ∧ RpA K T Hv (kvs.map Prod.snd) (ds.map prV)
  | [], ks, _, h, r => by
    cases r
    cases h
    exact ⟨[], [], rfl, rfl, .nil, .nil⟩
  | d :: ds, ks, _, h, r => by
    cases r with
    | cons q r =>
      unfold prKs at h
      cases e1 : prK d with
      | none => rw [e1] at h; cases h
      | some k =>
        rw [e1] at h
        cases e2 : prKs ds with
        | none => simp only [e2] at h; cases h
        | some ks' =>
          simp only [e2] at h
          cases h
          obtain ⟨a, b, rfl⟩ := prK_eq e1
          obtain ⟨ps, kvs, g1, g2, g3, g4⟩ := prs_lie e e2 r
          obtain ⟨p, us, rfl, f1, f2⟩ := Rp.inv_tup q
          cases f2 with
          | cons q1 f2 =>
            cases f2 with
            | cons q2 f2 =>
              cases f2
              cases q1
              rename_i y
              exact ⟨p :: ps, (.inl k, y) :: kvs, by rw [List.map_cons, g1], by rw [List.map_cons, List.map_cons, g2], .cons (e.sqT f1) g3, .cons q2 g4⟩
theorem isCh_rises {xs : List D} {ks : List Int} (hc : isCh xs = true) (ek : prKs xs = some ks) : rises ks = true := by
  cases xs with
  | nil => cases hc
  | cons x xs =>
    have hc' : (match prKs (x :: xs) with | none => false | some ks => rises ks) = true := hc
    rw [ek] at hc'
    exact hc'
theorem inl_nd {β : Type} : ∀ {ks : List Int}, ks.Nodup → (ks.map (Sum.inl (β := β))).Nodup
  | [], _ => List.nodup_nil
  | k :: ks, n0 => by
    rw [List.nodup_cons] at n0
    rw [List.map_cons, List.nodup_cons]
    refine ⟨fun z => ?_, inl_nd n0.2⟩
    obtain ⟨k', h1, h2⟩ := List.mem_map.mp z
    cases h2
    exact n0.1 h1
theorem rp_ix {K : PySem.W.Frag} {T : List Addr} {H : Hp} : ∀ {ts : List Addr} {ds : List D}, ts.length = ds.length → (∀ (j : Nat) (t : Addr), ts[j]? = some t → ∃ d, ds[j]? = some d ∧ Rp K T H (.ref t) d) → RpA K T H (ts.map V.ref) ds
  | [], [], _, _ => .nil
  | [], _ :: _, h, _ => by cases h
  | _ :: _, [], h, _ => by cases h
  | t :: ts, d :: ds, h, f => by
    refine .cons ?_ (rp_ix (Nat.succ.inj h) fun j t' e => ?_)
    · obtain ⟨d', e, q⟩ := f 0 t rfl
      cases e
      exact q
    · obtain ⟨d', e', q⟩ := f (j + 1) t' (by simpa using e)
      exact ⟨d', by simpa using e', q⟩
theorem c_dictT {K : PySem.W.Frag} : CbF K (fun xs H Q => ∃ (a : Addr) (o : Obj) (ps : List Addr) (kvs : List (Key × V)), xs = [.ref a] ∧ H a = some (.frz o (.tup (ps.map V.ref))) ∧ o.dict = none ∧ Paired (fun p kv => SqT K H p [kV kv.1, kv.2]) ps kvs ∧
    ∀ p, H p = none → Q (.ref p) (upd H p (.dK (mergeK [] kvs)))) dictTD := fun {c os ρ μ σ H vs ds d Q} r p e q => by
  unfold dictTD at e
  split at e
  · rename_i xs
    by_cases hc : isCh xs = true
    · rw [if_pos hc] at e
      cases ek : prKs xs with
      | none => rw [ek] at e; cases e
      | some ks =>
        rw [ek] at e
        cases e
        obtain ⟨v, z, pv⟩ := p.one
        subst z
        obtain ⟨a, us, rfl, g1, g2, g3⟩ := pv.inv_tupN
        obtain ⟨o, w1, w2⟩ := g3 hc
        obtain ⟨ps, kvs, rfl, f2, f3, f4⟩ := prs_lie (vw_le (H := H)) ek g2
        refine ⟨a, o, ps, kvs, rfl, vw_le _ _ w1, w2, f3, fun p n => ?_⟩
        have nd : ((([] : List (Key × V)) ++ kvs).map Prod.fst).Nodup := by
          rw [List.nil_append, f2]
          exact inl_nd (rises_nd ks (isCh_rises hc ek))
        rw [mergeK_new _ _ nd, List.nil_append]
        obtain ⟨f, k⟩ := r.frK f2 f4 n
        exact q p _ f k n
    · rw [if_neg hc] at e
      cases e
  · cases e
/-- list(d) of a dict with ints and texts as keys -/
def listKD : List D → Option D
  | [.dk ks _] => if ks.all keyOk then some (.lst (ks.map keyD)) else none
  | _ => none
theorem keysD_ok {K : PySem.W.Frag} {T : List Addr} {H : Hp} : ∀ {ks : List Key}, ks.all keyOk = true → RpA K T H (ks.map kV) (ks.map keyD)
  | [], _ => .nil
  | k :: ks, h => by
    rw [List.all_cons, Bool.and_eq_true] at h
    exact .cons (keyD_ok h.1) (keysD_ok h.2)
theorem c_listK {K : PySem.W.Frag} : CbF K (fun xs H Q => ∃ (a : Addr) (kvs : List (Key × V)), xs = [.ref a] ∧ Rd H a (.dK kvs) ∧ ∀ p, H p = none → Q (.ref p) (upd H p (.lst (kvs.map fun kv => kV kv.1)))) listKD := fun {c os ρ μ σ H vs ds d Q} r p e q => by
  unfold listKD at e
  split at e
  · rename_i ks xs
    by_cases hc : ks.all keyOk = true
    · rw [if_pos hc] at e
      cases e
      obtain ⟨v, z, pv⟩ := p.one
      subst z
      cases pv with
      | dk g1 g2 g3 =>
        rename_i a kvs
        refine ⟨a, kvs, rfl, vw_le.rd g1, fun p n => ?_⟩
        have e1 : (kvs.map fun kv => kV kv.1) = ks.map kV := by rw [← g2, List.map_map]; rfl
        rw [e1]
        exact FOk.newL q r (keysD_ok hc) n
    · rw [if_neg hc] at e
      cases e
  · cases e
/-- a new list, behind other new things -/
theorem FOk.newLX {K : PySem.W.Frag} {c : Ct} {os : List (Option Addr)} {ρ : Env} {μ : Store} {σ : L2.St} {H H' : Hp} {Q : VK} {ds : List D} {xs : List V} (h : FOk K c os ρ σ H Q (.lst ds) μ) (r : Rl K c os ρ μ σ H) (e : ∀ b o, H b = some o → H' b = some o) {a : Addr} (n : H a = none) (ha : H' a = some (.lst xs))
    (p : ∀ H2, (∀ b o, H2 b = some o → b ≠ a → H' b = some o) → (∀ b o, H' b = some o → b ≠ a → H2 b = some o) → Exts H H2 → Rl K c os ρ μ σ H2 → RpA K c.T (vw c os H2) xs ds) : Q (.ref a) H' := by
  let H2 : Hp := fun b => if b = a then none else H' b
  have e2 : Exts H H2 := fun b o hb => by
    show (if b = a then none else H' b) = some o
    rw [if_neg (ne_of_none hb n)]
    exact e b o hb
  have n2 : H2 a = none := if_pos rfl
  have r2 := r.grow e2
  have eu : upd H2 a (.lst xs) = H' := by
    funext b
    by_cases hb : b = a
    · subst hb; rw [upd_same, ha]
    · rw [upd_ne hb]; exact if_neg hb
  have q := FOk.newL (FOk.mono (fun b o hb _ => e2 b o hb) h) r2 (p H2 (fun b o hb nb => by
    have hb' : (if b = a then none else H' b) = some o := hb
    rw [if_neg nb] at hb'; exact hb') (fun b o hb nb => by
    show (if b = a then none else H' b) = some o
    rw [if_neg nb]; exact hb) e2 r2) n2
  rw [eu] at q
  exact q
def zipD : List D → Option (List D)
  | [.lst xs, .lst ys] => some (List.zipWith pairD xs ys)
  | [.tup xs, .tup ys] => some (List.zipWith pairD xs ys)
  | [.tup xs, .lst ys] => some (List.zipWith pairD xs ys)
  | [.lst xs, .tup ys] => some (List.zipWith pairD xs ys)
  | _ => none
def xListZip (fs : XL) : XD := fun ρ μ => (fs ρ μ).bind fun ds μ' => Res.ofO ((zipD ds).map D.lst) μ'
section
variable {X : Cx} {cl : Nat → Addr} {W : WX} {e e2 : Expr} {fs : XL} {p p2 pos2 pos : Pos}
theorem dListZip (hc : X.calm = true) (hg : Gl X "list") (hm : X.mg "list" = none) (hg2 : Gl X "zip") (hm2 : X.mg "zip" = none) (ha : PA X [e, e2] (tL X.K cl W fs))
    (hs : starEach [e, e2] X.env = (false, eval e X.env) :: starEach [e2] X.env := by rfl) (hpl : (backTo pos2 (starEach [e2] X.env)).any (·.1) = false := by rfl)
    (na : starEach [.Call (.Name "zip" p2) [e, e2] [] pos2] X.env = (false, eval (.Call (.Name "zip" p2) [e, e2] [] pos2) X.env) :: starEach [] X.env := by rfl) :
    PE X (.Call (.Name "list" p) [.Call (.Name "zip" p2) [e, e2] [] pos2] [] pos) (tF X.K cl W (xListZip fs)) := pe_imp (pe_listZip hc hg hm hg2 hm2 ha hs hpl na) fun σ H Q => by
  rintro ⟨c, os, ρ, μ, r, h⟩
  refine ⟨c, os, ρ, μ, r, (Out.bind h).imp (fun ds μ1 h1 => ?_) fun _ _ q => q⟩
  intro vs H1 r1 k pv
  have main : ∀ (k1 k2 : Bool) (xs ys : List D), ds = [if k1 then .tup xs else .lst xs, if k2 then .tup ys else .lst ys] → FOk X.K c os ρ σ H Q (.lst (List.zipWith pairD xs ys)) μ1 →
      ∃ k1 k2 a b xs ys, vs = [.ref a, .ref b] ∧ SqK X.K k1 H1 a xs ∧ SqK X.K k2 H1 b ys ∧
        ∀ (H' : Hp) (p : Addr) (ts : List Addr), (∀ b o, H1 b = some o → H' b = some o) → H1 p = none → ts.length = min xs.length ys.length → H' p = some (.lst (ts.map V.ref)) →
          (∀ (j : Nat) (t : Addr), ts[j]? = some t → ∃ x y o, o.dict = none ∧ xs[j]? = some x ∧ ys[j]? = some y ∧ H' t = some (.frz o (.tup [x, y])) ∧ t ≠ p ∧ H1 t = none) → Q (.ref p) H' := by
    intro k1 k2 xs ys ed q
    subst ed
    obtain ⟨v, w, z, pu, pw⟩ := pv.two
    subst z
    obtain ⟨a, us, rfl, g1, g2⟩ := seqK_of pu
    obtain ⟨b, ws, rfl, g3, g4⟩ := seqK_of pw
    refine ⟨k1, k2, a, b, us, ws, rfl, g1 _ vw_le, g3 _ vw_le, fun H' p ts hk n hl hp ht => ?_⟩
    refine FOk.newLX (FOk.mono k q) r1 hk n hp fun H2 w1 w2 w3 r2 => ?_
    have lus := g2.length
    have lws := g4.length
    have G1 := g2.mono (vw_mono (c := c) (os := os) w3)
    have G2 := g4.mono (vw_mono (c := c) (os := os) w3)
    -- pointwise
    have pt : ∀ (j : Nat) (t : Addr), ts[j]? = some t → ∃ d, (List.zipWith pairD xs ys)[j]? = some d ∧ Rp X.K c.T (vw c os H2) (.ref t) d := fun j t hj => by
      obtain ⟨x, y, o, ho, h1, h2, h3, h4, hn⟩ := ht j t hj
      obtain ⟨d1, e1, q1⟩ := G1.getV h1
      obtain ⟨d2, e2, q2⟩ := G2.getV h2
      obtain ⟨m1, m2, m3, m4⟩ := r1.fresh hn
      have sn : vw c os H2 t = some (.frz o (.tup [x, y])) := vw_some.mpr ⟨w2 _ _ h3 h4, m1, m2, m3⟩
      refine ⟨.tup [d1, d2], ?_, .tup (.inl (.inr ⟨o, sn⟩)) (.cons q1 (.cons q2 .nil)) fun _ => ⟨o, sn, ho⟩⟩
      rw [List.getElem?_zipWith, e1, e2]
      rfl
    have hl2 : ts.length = (List.zipWith pairD xs ys).length := by rw [List.length_zipWith, hl, lus, lws]
    exact rp_ix hl2 pt
  obtain ⟨d, e1, q⟩ := Out.ofO h1
  unfold zipD at e1
  split at e1
  · cases e1; exact main false false _ _ rfl q
  · cases e1; exact main true true _ _ rfl q
  · cases e1; exact main true false _ _ rfl q
  · cases e1; exact main false true _ _ rfl q
  · cases e1
end
end DC
set_option Elab.async false
set_option linter.all false
set_option maxRecDepth 100000
set_option maxHeartbeats 2000000
/-! DCz: x is True, x is not False, of bools. -/
namespace DC
open PySem PySem.Spec PyProof.Rows L2
section
variable {X : Cx}
theorem op_isB : OpR X (compareOp .Is) (fun x y H Q => ∃ a b, x = .bl a ∧ y = .bl b ∧ Q (.bl (a == b)) H) := by
  intro pins s σ H x y v u Q I rx ry h
  obtain ⟨a, b, rfl, rfl, q⟩ := h
  cases rx
  cases ry
  show wpAny _ _ ((isSame (Value.bool a) (Value.bool b)) >>= fun z => pure (Value.bool z)) _ _ s
  refine wpAny_bind (wpAny_pure (wpAny_pure (fin_bl I q ?_)))
  cases a <;> cases b <;> rfl
theorem op_notB : OpR X (compareOp .IsNot) (fun x y H Q => ∃ a b, x = .bl a ∧ y = .bl b ∧ Q (.bl (!(a == b))) H) := by
  intro pins s σ H x y v u Q I rx ry h
  obtain ⟨a, b, rfl, rfl, q⟩ := h
  cases rx
  cases ry
  show wpAny _ _ ((isSame (Value.bool a) (Value.bool b)) >>= fun z => pure (Value.bool (!z))) _ _ s
  refine wpAny_bind (wpAny_pure (wpAny_pure (fin_bl I q ?_)))
  cases a <;> cases b <;> rfl
end
def isBD (a b : D) : Option D := match a, b with
  | .bl x, .bl y => some (.bl (x == y))
  | _, _ => none
def notBD (a b : D) : Option D := match a, b with
  | .bl x, .bl y => some (.bl (!(x == y)))
  | _, _ => none
section
variable {K : PySem.W.Frag}
theorem o_isB : Op2 K (fun x y H Q => ∃ a b, x = .bl a ∧ y = .bl b ∧ Q (.bl (a == b)) H) isBD := fun {c os ρ μ σ H x y d1 d2 d Q} r p1 p2 e q => by
  unfold isBD at e
  split at e
  · cases e
    exact ⟨_, _, p1.inv_bl, p2.inv_bl, VOk.same q r (.bl _)⟩
  · cases e
theorem o_notB : Op2 K (fun x y H Q => ∃ a b, x = .bl a ∧ y = .bl b ∧ Q (.bl (!(a == b))) H) notBD := fun {c os ρ μ σ H x y d1 d2 d Q} r p1 p2 e q => by
  unfold notBD at e
  split at e
  · cases e
    exact ⟨_, _, p1.inv_bl, p2.inv_bl, VOk.same q r (.bl _)⟩
  · cases e
end
end DC
set_option Elab.async false
set_option linter.all false
set_option maxRecDepth 100000
set_option maxHeartbeats 4000000
namespace K80
open PySem PySem.Spec PyProof.Rows L2 DC
def topS (i : Nat) : Stmt := PySem.Challenge.pw_exacttests_k80_whole_rules_and_quotients.main.body.getD i (.Pass ⟨0, 0, 0, 0⟩)
abbrev st__law_cup : Stmt := topS 46
theorem sc__law_cup : FnScope ["script", "cell"] ["script"] (defScope st__law_cup) := ⟨rfl, rfl, rfl, by decide +kernel, rfl, by decide +kernel, by decide +kernel⟩
def F__law_cup : SD := (sSeq (sAsg 1 (xCb absD (lCons (xIx (xBin addD (xCb listD (lCons (xVar 0) lNil)) (xLst (lCons (xC (.int 0)) lNil))) (xC (.int 0))) lNil)))
    (sRet (xLst (lCons (xIf (bVal (xBin geD (xVar 1) (xBin powD (xC (.int 10)) (xC (.int 18))))) (xBin divD (xVar 1) (xC (.int 73))) (xC (.int 0))) (lCons (xBin addD (xBin modD (xCb intD (lCons (xBin addD (xBin mulD (xVar 1) (xC (.int 283))) (xC (.int 3907))) lNil)) (xC (.int 2077503167))) (xC (.int 167))) lNil)))))
def g__law_cup : List D → Store → Res D := bodyF F__law_cup 2
abbrev st_is_rising : Stmt := topS 14
theorem sc_is_rising : FnScope ["things", "one", "other"] ["things"] (defScope st_is_rising) := ⟨rfl, rfl, rfl, by decide +kernel, rfl, by decide +kernel, by decide +kernel⟩
abbrev C_is_rising_1 : XD := (xLc (wZipA (lCons (xVar 0) (lCons (xSl (xVar 0) (oSome (xC (.int 1))) oNone) lNil))) (gT (gC (gN 1) (gC (gN 2) gE))) bTrue (xBin ltD (xVar 1) (xVar 2)) [1, 2])
def F_is_rising : SD := (sRet (xCb allD (lCons C_is_rising_1 lNil)))
def g_is_rising : List D → Store → Res D := bodyD F_is_rising 3
abbrev st_is_tuple_of : Stmt := topS 13
theorem sc_is_tuple_of : FnScope ["value", "low", "high"] ["value", "low", "high"] (defScope st_is_tuple_of) := ⟨rfl, rfl, rfl, by decide +kernel, rfl, by decide +kernel, by decide +kernel⟩
def F_is_tuple_of : SD := (sRet (xAnd (xUn (isiD Ty.tuple) (xVar 0)) (xChain leD leD (xVar 1) (xCb lenD (lCons (xVar 0) lNil)) (xVar 2))))
def g_is_tuple_of : List D → Store → Res D := bodyD F_is_tuple_of 3
abbrev st_divisor_of : Stmt := topS 15
theorem sc_divisor_of : FnScope ["one", "other"] ["one", "other"] (defScope st_divisor_of) := ⟨rfl, rfl, rfl, by decide +kernel, rfl, by decide +kernel, by decide +kernel⟩
abbrev T_divisor_of_1 : XB := (bVal (xBin neD (xVar 1) (xC (.int 0))))
abbrev L_divisor_of_2 : SD := (sPar [0, 1] (mVal (xVar 1) (mVal (xBin modD (xVar 0) (xVar 1)) mNil)))
def F_divisor_of : SD := (sSeq (sPar [0, 1] (mVal (xCb absD (lCons (xVar 0) lNil)) (mVal (xCb absD (lCons (xVar 1) lNil)) mNil)))
    (sSeq (sWhileV (fuelI 1) T_divisor_of_1 L_divisor_of_2)
    (sRet (xVar 0))))
def g_divisor_of : List D → Store → Res D := bodyD F_divisor_of 2
abbrev st_lowest : Stmt := topS 16
theorem sc_lowest : FnScope ["above", "below", "part"] ["above", "below"] (defScope st_lowest) := ⟨rfl, rfl, rfl, by decide +kernel, rfl, by decide +kernel, by decide +kernel⟩
def F_lowest : SD := (sSeq (sAsg 2 (xBin mulD (xCall g_divisor_of (lCons (xVar 0) (lCons (xVar 1) lNil))) (xIf (bVal (xBin gtD (xVar 1) (xC (.int 0)))) (xC (.int 1)) (xUn negD (xC (.int 1))))))
    (sRet (xTup (lCons (xBin divD (xVar 0) (xVar 2)) (lCons (xBin divD (xVar 1) (xVar 2)) lNil)))))
def g_lowest : List D → Store → Res D := bodyD F_lowest 3
abbrev st_sum_in : Stmt := topS 17
theorem sc_sum_in : FnScope ["one", "other"] ["one", "other"] (defScope st_sum_in) := ⟨rfl, rfl, rfl, by decide +kernel, rfl, by decide +kernel, by decide +kernel⟩
def F_sum_in : SD := (sRet (xCall g_lowest (lCons (xBin addD (xBin mulD (xIx (xVar 0) (xC (.int 0))) (xIx (xVar 1) (xC (.int 1)))) (xBin mulD (xIx (xVar 1) (xC (.int 0))) (xIx (xVar 0) (xC (.int 1))))) (lCons (xBin mulD (xIx (xVar 0) (xC (.int 1))) (xIx (xVar 1) (xC (.int 1)))) lNil))))
def g_sum_in : List D → Store → Res D := bodyD F_sum_in 2
abbrev st_sum_over : Stmt := topS 18
theorem sc_sum_over : FnScope ["fractions", "found", "fraction"] ["fractions"] (defScope st_sum_over) := ⟨rfl, rfl, rfl, by decide +kernel, rfl, by decide +kernel, by decide +kernel⟩
abbrev L_sum_over_1 : SD := (sAsg 1 (xCall g_sum_in (lCons (xVar 1) (lCons (xVar 2) lNil))))
def F_sum_over : SD := (sSeq (sAsg 1 (xC (.tup [(.int 0), (.int 1)])))
    (sSeq (sFor (iSeq (xVar 0)) (gN 2) L_sum_over_1)
    (sRet (xVar 1))))
def g_sum_over : List D → Store → Res D := bodyD F_sum_over 3
abbrev st_is_integer : Stmt := topS 11
theorem sc_is_integer : FnScope ["value"] ["value"] (defScope st_is_integer) := ⟨rfl, rfl, rfl, by decide +kernel, rfl, by decide +kernel, by decide +kernel⟩
def F_is_integer : SD := (sRet (xAnd (xUn (isiD Ty.int) (xVar 0)) (xNot (xUn (isiD Ty.bool) (xVar 0)))))
def g_is_integer : List D → Store → Res D := bodyD F_is_integer 1
abbrev st_fits_fraction : Stmt := topS 22
theorem sc_fits_fraction : FnScope ["value", "number"] ["value"] (defScope st_fits_fraction) := ⟨rfl, rfl, rfl, by decide +kernel, rfl, by decide +kernel, by decide +kernel⟩
abbrev C_fits_fraction_1 : XD := (xLc (iSeq (xVar 0)) (gN 1) bTrue (xAnd (xCall g_is_integer (lCons (xVar 1) lNil)) (xChain ltD ltD (xUn negD (xC (.int 1000000000000000000000000000000000000000000000000000000000000))) (xVar 1) (xC (.int 1000000000000000000000000000000000000000000000000000000000000)))) [1])
def F_fits_fraction : SD := (sSeq (sIf (bOr (bNot (bVal (xCall g_is_tuple_of (lCons (xVar 0) (lCons (xC (.int 2)) (lCons (xC (.int 2)) lNil)))))) (bNot (bVal (xCb allD (lCons C_fits_fraction_1 lNil))))) (sRet (xC (.bl false))) sNext)
    (sRet (xAnd (xBin geD (xIx (xVar 0) (xC (.int 1))) (xC (.int 1))) (xBin eqD (xCall g_divisor_of (lCons (xIx (xVar 0) (xC (.int 0))) (lCons (xIx (xVar 0) (xC (.int 1))) lNil))) (xC (.int 1))))))
def g_fits_fraction : List D → Store → Res D := bodyD F_fits_fraction 2
abbrev st_fits_chance : Stmt := topS 23
theorem sc_fits_chance : FnScope ["value"] ["value"] (defScope st_fits_chance) := ⟨rfl, rfl, rfl, by decide +kernel, rfl, by decide +kernel, by decide +kernel⟩
def F_fits_chance : SD := (sRet (xAnd (xCall g_fits_fraction (lCons (xVar 0) lNil)) (xChain leD leD (xC (.int 0)) (xIx (xVar 0) (xC (.int 0))) (xIx (xVar 0) (xC (.int 1))))))
def g_fits_chance : List D → Store → Res D := bodyD F_fits_chance 1
abbrev st_is_whole : Stmt := topS 12
theorem sc_is_whole : FnScope ["value", "low", "high"] ["value", "low", "high"] (defScope st_is_whole) := ⟨rfl, rfl, rfl, by decide +kernel, rfl, by decide +kernel, by decide +kernel⟩
def F_is_whole : SD := (sRet (xAnd (xCall g_is_integer (lCons (xVar 0) lNil)) (xChain leD leD (xVar 1) (xVar 0) (xVar 2))))
def g_is_whole : List D → Store → Res D := bodyD F_is_whole 3
abbrev st_is_share : Stmt := topS 24
theorem sc_is_share : FnScope ["value"] ["value"] (defScope st_is_share) := ⟨rfl, rfl, rfl, by decide +kernel, rfl, by decide +kernel, by decide +kernel⟩
def F_is_share : SD := (sSeq (sIf (bOr (bNot (bVal (xCall g_is_tuple_of (lCons (xVar 0) (lCons (xC (.int 2)) (lCons (xC (.int 2)) lNil)))))) (bNot (bVal (xCall g_is_whole (lCons (xIx (xVar 0) (xC (.int 0))) (lCons (xUn negD (xC (.int 1000000))) (lCons (xC (.int 1000000)) lNil))))))) (sRet (xC (.bl false))) sNext)
    (sRet (xAnd (xCall g_fits_chance (lCons (xIx (xVar 0) (xC (.int 1))) lNil)) (xBin gtD (xIx (xIx (xVar 0) (xC (.int 1))) (xC (.int 0))) (xC (.int 0))))))
def g_is_share : List D → Store → Res D := bodyD F_is_share 1
abbrev st_fits_chances : Stmt := topS 25
theorem sc_fits_chances : FnScope ["value", "share"] ["value"] (defScope st_fits_chances) := ⟨rfl, rfl, rfl, by decide +kernel, rfl, by decide +kernel, by decide +kernel⟩
abbrev C_fits_chances_1 : XD := (xLc (iSeq (xVar 0)) (gN 1) bTrue (xCall g_is_share (lCons (xVar 1) lNil)) [1])
abbrev C_fits_chances_2 : XD := (xLc (iSeq (xVar 0)) (gN 1) bTrue (xIx (xVar 1) (xC (.int 0))) [1])
abbrev C_fits_chances_3 : XD := (xLc (iSeq (xVar 0)) (gN 1) bTrue (xIx (xVar 1) (xC (.int 1))) [1])
def F_fits_chances : SD := (sSeq (sIf (bOr (bNot (bVal (xCall g_is_tuple_of (lCons (xVar 0) (lCons (xC (.int 1)) (lCons (xC (.int 40)) lNil)))))) (bNot (bVal (xCb allD (lCons C_fits_chances_1 lNil))))) (sRet (xC (.bl false))) sNext)
    (sRet (xAnd (xCall g_is_rising (lCons C_fits_chances_2 lNil)) (xBin eqD (xCall g_sum_over (lCons C_fits_chances_3 lNil)) (xC (.tup [(.int 1), (.int 1)]))))))
def g_fits_chances : List D → Store → Res D := bodyD F_fits_chances 2
abbrev st_need_chances : Stmt := topS 26
theorem sc_need_chances : FnScope ["value"] ["value"] (defScope st_need_chances) := ⟨rfl, rfl, rfl, by decide +kernel, rfl, by decide +kernel, by decide +kernel⟩
def F_need_chances : SD := (sIf (bNot (bVal (xCall g_fits_chances (lCons (xVar 0) lNil)))) sFail sNext)
def g_need_chances : List D → Store → Res D := bodyD F_need_chances 1
abbrev st_mean_in : Stmt := topS 27
theorem sc_mean_in : FnScope ["chances", "value", "chance"] ["chances"] (defScope st_mean_in) := ⟨rfl, rfl, rfl, by decide +kernel, rfl, by decide +kernel, by decide +kernel⟩
abbrev C_mean_in_1 : XD := (xLc (iSeq (xVar 0)) (gT (gC (gN 1) (gC (gN 2) gE))) bTrue (xCall g_lowest (lCons (xBin mulD (xVar 1) (xIx (xVar 2) (xC (.int 0)))) (lCons (xIx (xVar 2) (xC (.int 1))) lNil))) [1, 2])
def F_mean_in : SD := (sRet (xCall g_sum_over (lCons C_mean_in_1 lNil)))
def g_mean_in : List D → Store → Res D := bodyD F_mean_in 3
abbrev st_mean_of : Stmt := topS 30
theorem sc_mean_of : FnScope ["chances"] ["chances"] (defScope st_mean_of) := ⟨rfl, rfl, rfl, by decide +kernel, rfl, by decide +kernel, by decide +kernel⟩
def F_mean_of : SD := (sSeq (sExpr (xCall g_need_chances (lCons (xVar 0) lNil)))
    (sRet (xCall g_mean_in (lCons (xVar 0) lNil))))
def g_mean_of : List D → Store → Res D := bodyD F_mean_of 1
abbrev st__law_sort : Stmt := topS 48
theorem sc__law_sort : FnScope ["value"] ["value"] (defScope st__law_sort) := ⟨rfl, rfl, rfl, by decide +kernel, rfl, by decide +kernel, by decide +kernel⟩
def F__law_sort : SD := (sSeq (sIf (bOr (bVal (xBin isN (xVar 0) (xC .non))) (bVal (xUn (isiD Ty.bool) (xVar 0)))) (sRet (xIf (bVal (xBin isN (xVar 0) (xC .non))) (xC (.int 0)) (xC (.int 1)))) sNext)
    (sSeq (sIf (bOr (bVal (xUn (isiD Ty.int) (xVar 0))) (bVal (xUn (isiD Ty.str) (xVar 0)))) (sRet (xIf (bVal (xUn (isiD Ty.int) (xVar 0))) (xC (.int 2)) (xC (.int 3)))) sNext)
    (sRet (xIf (bVal (xUn (isiD Ty.tuple) (xVar 0))) (xC (.int 4)) (xIf (bVal (xUn (isiD Ty.list) (xVar 0))) (xC (.int 5)) (xC (.int 6)))))))
def g__law_sort : List D → Store → Res D := bodyD F__law_sort 1
abbrev st__law_like : Stmt := topS 49
theorem sc__law_like : FnScope ["one", "other", "sort", "first", "second"] ["one", "other"] (defScope st__law_like) := ⟨rfl, rfl, rfl, by decide +kernel, rfl, by decide +kernel, by decide +kernel⟩
abbrev C__law_like_1 (self : List D → Store → Res D) : XD := (xLc (wZipA (lCons (xVar 0) (lCons (xVar 1) lNil))) (gT (gC (gN 3) (gC (gN 4) gE))) (bNot (bVal (xCall self (lCons (xVar 3) (lCons (xVar 4) lNil))))) (xC (.int 1)) [3, 4])
def F__law_like (self : List D → Store → Res D) : SD := (sSeq (sAsg 2 (xCall g__law_sort (lCons (xVar 1) lNil)))
    (sSeq (sIf (bOr (bVal (xBin neD (xCall g__law_sort (lCons (xVar 0) lNil)) (xVar 2))) (bVal (xBin eqD (xVar 2) (xC (.int 6))))) (sRet (xC (.bl false))) sNext)
    (sSeq (sIf (bVal (xBin (inSq false) (xVar 2) (xTup (lCons (xC (.int 4)) (lCons (xC (.int 5)) lNil))))) (sRet (xAnd (xBin eqD (xCb lenD (lCons (xVar 0) lNil)) (xCb lenD (lCons (xVar 1) lNil))) (xBin eqD (C__law_like_1 self) (xLst lNil)))) sNext)
    (sRet (xBin eqD (xVar 0) (xVar 1))))))
def g__law_like : Nat → List D → Store → Res D
  | 0 => fun _ _ => .fail
  | n + 1 => bodyD (F__law_like (g__law_like n)) 5
abbrev st_need_both : Stmt := topS 35
theorem sc_need_both : FnScope ["first", "second"] ["first", "second"] (defScope st_need_both) := ⟨rfl, rfl, rfl, by decide +kernel, rfl, by decide +kernel, by decide +kernel⟩
def F_need_both : SD := (sSeq (sExpr (xCall g_need_chances (lCons (xVar 0) lNil)))
    (sExpr (xCall g_need_chances (lCons (xVar 1) lNil))))
def g_need_both : List D → Store → Res D := bodyD F_need_both 2
abbrev st_part_by : Stmt := topS 20
theorem sc_part_by : FnScope ["one", "other"] ["one", "other"] (defScope st_part_by) := ⟨rfl, rfl, rfl, by decide +kernel, rfl, by decide +kernel, by decide +kernel⟩
def F_part_by : SD := (sRet (xCall g_lowest (lCons (xBin mulD (xIx (xVar 0) (xC (.int 0))) (xIx (xVar 1) (xC (.int 1)))) (lCons (xBin mulD (xIx (xVar 0) (xC (.int 1))) (xIx (xVar 1) (xC (.int 0)))) lNil))))
def g_part_by : List D → Store → Res D := bodyD F_part_by 2
abbrev st_quotient_in : Stmt := topS 33
theorem sc_quotient_in : FnScope ["one", "other"] ["one", "other"] (defScope st_quotient_in) := ⟨rfl, rfl, rfl, by decide +kernel, rfl, by decide +kernel, by decide +kernel⟩
def F_quotient_in : SD := (sRet (xIf (bVal (xBin neD (xVar 0) (xC (.tup [(.int 0), (.int 1)])))) (xCall g_part_by (lCons (xVar 1) (lCons (xVar 0) lNil))) (xC .non)))
def g_quotient_in : List D → Store → Res D := bodyD F_quotient_in 2
abbrev st_values_in : Stmt := topS 32
theorem sc_values_in : FnScope ["first", "second", "one", "other", "value"] ["first", "second"] (defScope st_values_in) := ⟨rfl, rfl, rfl, by decide +kernel, rfl, by decide +kernel, by decide +kernel⟩
abbrev C_values_in_1 : XD := (xLc (iSeq (xCb sortSetD (lCons (xBin addD (xCb listKD (lCons (xVar 2) lNil)) (xCb listKD (lCons (xVar 3) lNil))) lNil))) (gN 4) bTrue (xTup (lCons (xVar 4) (lCons (xGet2K (xVar 2) (xVar 4) (xC (.tup [(.int 0), (.int 1)]))) (lCons (xGet2K (xVar 3) (xVar 4) (xC (.tup [(.int 0), (.int 1)]))) lNil)))) [4])
def F_values_in : SD := (sSeq (sPar [2, 3] (mVal (xCb dictTD (lCons (xVar 0) lNil)) (mVal (xCb dictTD (lCons (xVar 1) lNil)) mNil)))
    (sRet C_values_in_1))
def g_values_in : List D → Store → Res D := bodyD F_values_in 5
abbrev st_quotient_of : Stmt := topS 40
theorem sc_quotient_of : FnScope ["first", "second", "value", "rows", "row"] ["first", "second", "value"] (defScope st_quotient_of) := ⟨rfl, rfl, rfl, by decide +kernel, rfl, by decide +kernel, by decide +kernel⟩
abbrev C_quotient_of_1 : XD := (xLc (iSeq (xCall g_values_in (lCons (xVar 0) (lCons (xVar 1) lNil)))) (gN 4) (bAnd (bVal (xCall g_is_integer (lCons (xVar 2) lNil))) (bVal (xBin eqD (xIx (xVar 4) (xC (.int 0))) (xVar 2)))) (xVar 4) [4])
def F_quotient_of : SD := (sSeq (sExpr (xCall g_need_both (lCons (xVar 0) (lCons (xVar 1) lNil))))
    (sSeq (sAsg 3 C_quotient_of_1)
    (sSeq (sIf (bVal (xBin eqD (xVar 3) (xLst lNil))) sFail sNext)
    (sRet (xCall g_quotient_in (lCons (xIx (xIx (xVar 3) (xC (.int 0))) (xC (.int 1))) (lCons (xIx (xIx (xVar 3) (xC (.int 0))) (xC (.int 2))) lNil)))))))
def g_quotient_of : List D → Store → Res D := bodyD F_quotient_of 5
abbrev st_is_under : Stmt := topS 21
theorem sc_is_under : FnScope ["one", "other"] ["one", "other"] (defScope st_is_under) := ⟨rfl, rfl, rfl, by decide +kernel, rfl, by decide +kernel, by decide +kernel⟩
def F_is_under : SD := (sRet (xBin ltD (xBin mulD (xIx (xVar 0) (xC (.int 0))) (xIx (xVar 1) (xC (.int 1)))) (xBin mulD (xIx (xVar 1) (xC (.int 0))) (xIx (xVar 0) (xC (.int 1))))))
def g_is_under : List D → Store → Res D := bodyD F_is_under 2
abbrev st_is_lesser : Stmt := topS 34
theorem sc_is_lesser : FnScope ["one", "other"] ["one", "other"] (defScope st_is_lesser) := ⟨rfl, rfl, rfl, by decide +kernel, rfl, by decide +kernel, by decide +kernel⟩
def F_is_lesser : SD := (sSeq (sIf (bOr (bVal (xBin isN (xVar 0) (xC .non))) (bVal (xBin isN (xVar 1) (xC .non)))) (sRet (xBin notN (xVar 0) (xC .non))) sNext)
    (sRet (xCall g_is_under (lCons (xVar 0) (lCons (xVar 1) lNil)))))
def g_is_lesser : List D → Store → Res D := bodyD F_is_lesser 2
abbrev st_are_rising : Stmt := topS 41
theorem sc_are_rising : FnScope ["first", "second", "quotients", "value", "one", "other"] ["first", "second"] (defScope st_are_rising) := ⟨rfl, rfl, rfl, by decide +kernel, rfl, by decide +kernel, by decide +kernel⟩
abbrev C_are_rising_1 : XD := (xLc (iSeq (xCall g_values_in (lCons (xVar 0) (lCons (xVar 1) lNil)))) (gT (gC (gN 3) (gC (gN 4) (gC (gN 5) gE)))) bTrue (xCall g_quotient_in (lCons (xVar 4) (lCons (xVar 5) lNil))) [3, 4, 5])
abbrev C_are_rising_2 : XD := (xLc (wZipA (lCons (xVar 2) (lCons (xSl (xVar 2) (oSome (xC (.int 1))) oNone) lNil))) (gT (gC (gN 4) (gC (gN 5) gE))) bTrue (xCall g_is_lesser (lCons (xVar 5) (lCons (xVar 4) lNil))) [4, 5])
def F_are_rising : SD := (sSeq (sExpr (xCall g_need_both (lCons (xVar 0) (lCons (xVar 1) lNil))))
    (sSeq (sAsg 2 C_are_rising_1)
    (sRet (xNot (xCb anyD (lCons C_are_rising_2 lNil))))))
def g_are_rising : List D → Store → Res D := bodyD F_are_rising 6
abbrev st__law_roll : Stmt := topS 47
theorem sc__law_roll : FnScope ["cup", "many", "found", "deep"] ["cup", "many"] (defScope st__law_roll) := ⟨rfl, rfl, rfl, by decide +kernel, rfl, by decide +kernel, by decide +kernel⟩
def F__law_roll : SD := (sSeq (sIf (bVal (xBin gtD (xIx (xVar 0) (xC (.int 0))) (xC (.int 0)))) (sSeq (sAsg 2 (xBin modD (xCb intD (lCons (xIx (xVar 0) (xC (.int 0))) lNil)) (xVar 1)))
    (sSeq (sSetI 0 (xC (.int 0)) (xBin divD (xIx (xVar 0) (xC (.int 0))) (xVar 1)))
    (sRet (xVar 2)))) sNext)
    (sSeq (sSetI 0 (xC (.int 1)) (xBin modD (xCb intD (lCons (xBin addD (xBin mulD (xIx (xVar 0) (xC (.int 1))) (xC (.int 31051))) (xC (.int 7993))) lNil)) (xC (.int 2147483543))))
    (sSeq (sAsg 3 (xBin modD (xCb intD (lCons (xBin mulD (xIx (xVar 0) (xC (.int 1))) (xBin addD (xIx (xVar 0) (xC (.int 1))) (xC (.int 229)))) lNil)) (xC (.int 2147483587))))
    (sRet (xBin modD (xCb intD (lCons (xBin divD (xVar 3) (xC (.int 821))) lNil)) (xVar 1))))))
def g__law_roll : List D → Store → Res D := bodyD F__law_roll 4
abbrev st__law_divisor : Stmt := topS 50
theorem sc__law_divisor : FnScope ["one", "other"] ["one", "other"] (defScope st__law_divisor) := ⟨rfl, rfl, rfl, by decide +kernel, rfl, by decide +kernel, by decide +kernel⟩
abbrev T__law_divisor_1 : XB := (bVal (xBin neD (xVar 1) (xC (.int 0))))
abbrev L__law_divisor_2 : SD := (sPar [0, 1] (mVal (xVar 1) (mVal (xBin modD (xCb intD (lCons (xVar 0) lNil)) (xVar 1)) mNil)))
def F__law_divisor : SD := (sSeq (sPar [0, 1] (mVal (xCb absD (lCons (xVar 0) lNil)) (mVal (xCb absD (lCons (xVar 1) lNil)) mNil)))
    (sSeq (sWhileV (fuelI 1) T__law_divisor_1 L__law_divisor_2)
    (sRet (xVar 0))))
def g__law_divisor : List D → Store → Res D := bodyD F__law_divisor 2
abbrev st__law_least : Stmt := topS 51
theorem sc__law_least : FnScope ["above", "below", "sign", "whole"] ["above", "below"] (defScope st__law_least) := ⟨rfl, rfl, rfl, by decide +kernel, rfl, by decide +kernel, by decide +kernel⟩
def F__law_least : SD := (sSeq (sAsg 2 (xIf (bVal (xBin ltD (xVar 1) (xC (.int 0)))) (xUn negD (xC (.int 1))) (xC (.int 1))))
    (sSeq (sAsg 3 (xCb max2D (lCons (xC (.int 1)) (lCons (xCall g__law_divisor (lCons (xVar 0) (lCons (xVar 1) lNil))) lNil))))
    (sRet (xTup (lCons (xCb intD (lCons (xBin divD (xBin mulD (xVar 2) (xVar 0)) (xVar 3)) lNil)) (lCons (xCb intD (lCons (xBin divD (xBin mulD (xVar 2) (xVar 1)) (xVar 3)) lNil)) lNil))))))
def g__law_least : List D → Store → Res D := bodyD F__law_least 4
abbrev st__law_chances : Stmt := topS 53
theorem sc__law_chances : FnScope ["cup", "most", "many", "shares", "value", "found", "turn", "whole", "share"] ["cup", "most"] (defScope st__law_chances) := ⟨rfl, rfl, rfl, by decide +kernel, rfl, by decide +kernel, by decide +kernel⟩
abbrev L__law_chances_1 : SD := (sApp 3 (xBin addD (xC (.int 1)) (xCall g__law_roll (lCons (xVar 0) (lCons (xC (.int 6)) lNil)))))
abbrev L__law_chances_2 : SD := (sSeq (sAsg 4 (xBin addD (xBin addD (xVar 4) (xC (.int 1))) (xCall g__law_roll (lCons (xVar 0) (lCons (xC (.int 3)) lNil)))))
    (sApp 5 (xTup (lCons (xVar 4) (lCons (xCall g__law_least (lCons (xVar 8) (lCons (xVar 7) lNil))) lNil)))))
def F__law_chances : SD := (sSeq (sPar [2, 3, 4, 5] (mVal (xBin addD (xC (.int 1)) (xCall g__law_roll (lCons (xVar 0) (lCons (xVar 1) lNil)))) (mNew (xLst lNil) (mVal (xUn negD (xC (.int 3))) (mNew (xLst lNil) mNil)))))
    (sSeq (sFor (iRg1 (lCons (xVar 2) lNil)) (gN 6) L__law_chances_1)
    (sSeq (sFrz 3 (sAsg 7 (xCb sumA (lCons (xVar 3) lNil))))
    (sSeq (sFrz 3 (sFor (iSeq (xVar 3)) (gN 8) L__law_chances_2))
    (sFrz 5 (sRet (xCb tupleD (lCons (xVar 5) lNil))))))))
def g__law_chances : List D → Store → Res D := bodyD F__law_chances 9
abbrev st__law_two : Stmt := topS 54
theorem sc__law_two : FnScope ["cup", "most", "one", "way", "other", "weights", "at", "whole", "value", "chance", "weight"] ["cup", "most"] (defScope st__law_two) := ⟨rfl, rfl, rfl, by decide +kernel, rfl, by decide +kernel, by decide +kernel⟩
abbrev L__law_two_1 : SD := (sApp 5 (xIf (bVal (xBin eqD (xVar 3) (xC (.int 2)))) (xCall g__law_roll (lCons (xVar 0) (lCons (xC (.int 4)) lNil))) (xBin addD (xBin addD (xC (.int 1)) (xIf (bBor 5 (bVal (xBin neD (xVar 5) (xLst lNil)))) (xIxO 5 (xUn negD (xC (.int 1)))) (xC (.int 0)))) (xCall g__law_roll (lCons (xVar 0) (lCons (xC (.int 2)) lNil))))))
abbrev C__law_two_2 : XD := (xLc (wZipA (lCons (xVar 2) (lCons (xVar 5) lNil))) (gT (gC (gT (gC (gN 8) (gC (gN 9) gE))) (gC (gN 10) gE))) (bVal (xBin gtD (xVar 10) (xC (.int 0)))) (xTup (lCons (xVar 8) (lCons (xCall g__law_least (lCons (xVar 10) (lCons (xVar 7) lNil))) lNil))) [8, 9, 10])
def F__law_two : SD := (sSeq (sPar [2, 3] (mVal (xCall g__law_chances (lCons (xVar 0) (lCons (xVar 1) lNil))) (mVal (xCall g__law_roll (lCons (xVar 0) (lCons (xC (.int 4)) lNil))) mNil)))
    (sSeq (sAsg 4 (xCall g__law_chances (lCons (xVar 0) (lCons (xVar 1) lNil))))
    (sSeq (sIf (bVal (xBin gtD (xVar 3) (xC (.int 1)))) (sSeq (sAsgF 5 (xLst lNil))
    (sSeq (sFor (iRg1 (lCons (xCb lenD (lCons (xVar 2) lNil)) lNil)) (gN 6) L__law_two_1)
    (sSeq (sFrz 5 (sAsg 5 (xIf (bVal (xBin gtD (xCb sumA (lCons (xVar 5) lNil)) (xC (.int 0)))) (xVar 5) (xBin repL (xLst (lCons (xC (.int 1)) lNil)) (xCb lenD (lCons (xVar 2) lNil))))))
    (sSeq (sFrz 5 (sAsg 7 (xCb sumA (lCons (xVar 5) lNil))))
    (sFrz 5 (sAsg 4 (xCb tupleD (lCons C__law_two_2 lNil)))))))) sNext)
    (sRet (xIf (bOr (bVal (xBin eqD (xCall g__law_roll (lCons (xVar 0) (lCons (xC (.int 2)) lNil))) (xC (.int 0)))) (bVal (xBin eqD (xVar 3) (xC (.int 3))))) (xTup (lCons (xVar 2) (lCons (xVar 4) lNil))) (xTup (lCons (xVar 4) (lCons (xVar 2) lNil))))))))
def g__law_two : List D → Store → Res D := bodyD F__law_two 11
abbrev st_fits_share : Stmt := topS 36
theorem sc_fits_share : FnScope ["value", "number"] ["value"] (defScope st_fits_share) := ⟨rfl, rfl, rfl, by decide +kernel, rfl, by decide +kernel, by decide +kernel⟩
abbrev C_fits_share_1 : XD := (xLc (iSeq (xVar 0)) (gN 1) bTrue (xCall g_is_integer (lCons (xVar 1) lNil)) [1])
def F_fits_share : SD := (sSeq (sIf (bOr (bNot (bVal (xCall g_is_tuple_of (lCons (xVar 0) (lCons (xC (.int 2)) (lCons (xC (.int 2)) lNil)))))) (bNot (bVal (xCb allD (lCons C_fits_share_1 lNil))))) (sRet (xC (.bl false))) sNext)
    (sRet (xAnd (xChain leD leD (xC (.int 0)) (xIx (xVar 0) (xC (.int 0))) (xIx (xVar 0) (xC (.int 1)))) (xAnd (xBin geD (xIx (xVar 0) (xC (.int 1))) (xC (.int 1))) (xBin eqD (xCall g_divisor_of (lCons (xIx (xVar 0) (xC (.int 0))) (lCons (xIx (xVar 0) (xC (.int 1))) lNil))) (xC (.int 1)))))))
def g_fits_share : List D → Store → Res D := bodyD F_fits_share 2
abbrev st_fits_rule : Stmt := topS 37
theorem sc_fits_rule : FnScope ["first", "second", "value", "values", "good", "pair", "own"] ["first", "second", "value"] (defScope st_fits_rule) := ⟨rfl, rfl, rfl, by decide +kernel, rfl, by decide +kernel, by decide +kernel⟩
abbrev C_fits_rule_1 : XD := (xLc (iSeq (xVar 2)) (gN 5) bTrue (xCall g_is_tuple_of (lCons (xVar 5) (lCons (xC (.int 2)) (lCons (xC (.int 2)) lNil)))) [5])
abbrev C_fits_rule_2 : XD := (xLc (wZipA (lCons (xVar 2) (lCons (xVar 3) lNil))) (gT (gC (gN 5) (gC (gN 6) gE))) bTrue (xAnd (xCall g_is_integer (lCons (xIx (xVar 5) (xC (.int 0))) lNil)) (xAnd (xBin eqD (xIx (xVar 5) (xC (.int 0))) (xIx (xVar 6) (xC (.int 0)))) (xCall g_fits_share (lCons (xIx (xVar 5) (xC (.int 1))) lNil)))) [5, 6])
def F_fits_rule : SD := (sSeq (sAsg 3 (xCall g_values_in (lCons (xVar 0) (lCons (xVar 1) lNil))))
    (sSeq (sIf (bOr (bNot (bVal (xCall g_is_tuple_of (lCons (xVar 2) (lCons (xCb lenD (lCons (xVar 3) lNil)) (lCons (xCb lenD (lCons (xVar 3) lNil)) lNil)))))) (bNot (bVal (xCb allD (lCons C_fits_rule_1 lNil))))) (sRet (xC (.bl false))) sNext)
    (sSeq (sAsg 4 C_fits_rule_2)
    (sRet (xCb allD (lCons (xVar 4) lNil))))))
def g_fits_rule : List D → Store → Res D := bodyD F_fits_rule 7
abbrev st_need_rule : Stmt := topS 39
theorem sc_need_rule : FnScope ["first", "second", "rule"] ["first", "second", "rule"] (defScope st_need_rule) := ⟨rfl, rfl, rfl, by decide +kernel, rfl, by decide +kernel, by decide +kernel⟩
def F_need_rule : SD := (sSeq (sExpr (xCall g_need_both (lCons (xVar 0) (lCons (xVar 1) lNil))))
    (sIf (bNot (bVal (xCall g_fits_rule (lCons (xVar 0) (lCons (xVar 1) (lCons (xVar 2) lNil)))))) sFail sNext))
def g_need_rule : List D → Store → Res D := bodyD F_need_rule 3
abbrev st_product_in : Stmt := topS 19
theorem sc_product_in : FnScope ["one", "other"] ["one", "other"] (defScope st_product_in) := ⟨rfl, rfl, rfl, by decide +kernel, rfl, by decide +kernel, by decide +kernel⟩
def F_product_in : SD := (sRet (xCall g_lowest (lCons (xBin mulD (xIx (xVar 0) (xC (.int 0))) (xIx (xVar 1) (xC (.int 0)))) (lCons (xBin mulD (xIx (xVar 0) (xC (.int 1))) (xIx (xVar 1) (xC (.int 1)))) lNil))))
def g_product_in : List D → Store → Res D := bodyD F_product_in 2
abbrev st_both_shares : Stmt := topS 38
theorem sc_both_shares : FnScope ["first", "second", "rule", "rows", "false", "pair", "own"] ["first", "second", "rule"] (defScope st_both_shares) := ⟨rfl, rfl, rfl, by decide +kernel, rfl, by decide +kernel, by decide +kernel⟩
abbrev C_both_shares_1 : XD := (xLc (iSeq (xVar 3)) (gT (gC (gN 5) (gC (gN 6) gE))) bTrue (xCall g_product_in (lCons (xIx (xVar 5) (xC (.int 1))) (lCons (xIx (xVar 6) (xC (.int 1))) lNil))) [5, 6])
abbrev C_both_shares_2 : XD := (xLc (iSeq (xVar 3)) (gT (gC (gN 5) (gC (gN 6) gE))) bTrue (xCall g_product_in (lCons (xIx (xVar 5) (xC (.int 1))) (lCons (xIx (xVar 6) (xC (.int 2))) lNil))) [5, 6])
def F_both_shares : SD := (sSeq (sAsg 3 (xListZip (lCons (xVar 2) (lCons (xCall g_values_in (lCons (xVar 0) (lCons (xVar 1) lNil))) lNil))))
    (sSeq (sAsg 4 (xCall g_sum_over (lCons C_both_shares_1 lNil)))
    (sRet (xTup (lCons (xVar 4) (lCons (xCall g_sum_over (lCons C_both_shares_2 lNil)) lNil))))))
def g_both_shares : List D → Store → Res D := bodyD F_both_shares 7
abbrev st_false_share : Stmt := topS 43
theorem sc_false_share : FnScope ["first", "second", "rule"] ["first", "second", "rule"] (defScope st_false_share) := ⟨rfl, rfl, rfl, by decide +kernel, rfl, by decide +kernel, by decide +kernel⟩
def F_false_share : SD := (sSeq (sExpr (xCall g_need_rule (lCons (xVar 0) (lCons (xVar 1) (lCons (xVar 2) lNil)))))
    (sRet (xIx (xCall g_both_shares (lCons (xVar 0) (lCons (xVar 1) (lCons (xVar 2) lNil)))) (xC (.int 0)))))
def g_false_share : List D → Store → Res D := bodyD F_false_share 3
abbrev st_is_rule : Stmt := topS 42
theorem sc_is_rule : FnScope ["first", "second", "value"] ["first", "second", "value"] (defScope st_is_rule) := ⟨rfl, rfl, rfl, by decide +kernel, rfl, by decide +kernel, by decide +kernel⟩
def F_is_rule : SD := (sSeq (sExpr (xCall g_need_both (lCons (xVar 0) (lCons (xVar 1) lNil))))
    (sRet (xCall g_fits_rule (lCons (xVar 0) (lCons (xVar 1) (lCons (xVar 2) lNil))))))
def g_is_rule : List D → Store → Res D := bodyD F_is_rule 3
abbrev st_power_of_rule : Stmt := topS 44
theorem sc_power_of_rule : FnScope ["first", "second", "rule"] ["first", "second", "rule"] (defScope st_power_of_rule) := ⟨rfl, rfl, rfl, by decide +kernel, rfl, by decide +kernel, by decide +kernel⟩
def F_power_of_rule : SD := (sSeq (sExpr (xCall g_need_rule (lCons (xVar 0) (lCons (xVar 1) (lCons (xVar 2) lNil)))))
    (sRet (xIx (xCall g_both_shares (lCons (xVar 0) (lCons (xVar 1) (lCons (xVar 2) lNil)))) (xC (.int 1)))))
def g_power_of_rule : List D → Store → Res D := bodyD F_power_of_rule 3
abbrev st__law_values : Stmt := topS 55
theorem sc__law_values : FnScope ["first", "second", "one", "other", "every", "value", "chance"] ["first", "second"] (defScope st__law_values) := ⟨rfl, rfl, rfl, by decide +kernel, rfl, by decide +kernel, by decide +kernel⟩
abbrev C__law_values_1 : XD := (xLc (iSeq (xBin addD (xVar 0) (xVar 1))) (gT (gC (gN 5) (gC (gN 6) gE))) bTrue (xVar 5) [5, 6])
abbrev C__law_values_2 : XD := (xLc (iSeq (xVar 4)) (gN 5) bTrue (xTup (lCons (xVar 5) (lCons (xGet2K (xVar 2) (xVar 5) (xTup (lCons (xC (.int 0)) (lCons (xC (.int 1)) lNil)))) (lCons (xGet2K (xVar 3) (xVar 5) (xTup (lCons (xC (.int 0)) (lCons (xC (.int 1)) lNil)))) lNil)))) [5])
def F__law_values : SD := (sSeq (sPar [2, 3] (mVal (xCb dictTD (lCons (xVar 0) lNil)) (mVal (xCb dictTD (lCons (xVar 1) lNil)) mNil)))
    (sSeq (sAsg 4 (xCb sortSetD (lCons C__law_values_1 lNil)))
    (sRet C__law_values_2)))
def g__law_values : List D → Store → Res D := bodyD F__law_values 7
abbrev st_are_chances : Stmt := topS 29
theorem sc_are_chances : FnScope ["value"] ["value"] (defScope st_are_chances) := ⟨rfl, rfl, rfl, by decide +kernel, rfl, by decide +kernel, by decide +kernel⟩
def F_are_chances : SD := (sRet (xCall g_fits_chances (lCons (xVar 0) lNil)))
def g_are_chances : List D → Store → Res D := bodyD F_are_chances 1
abbrev st_is_chance : Stmt := topS 28
theorem sc_is_chance : FnScope ["value"] ["value"] (defScope st_is_chance) := ⟨rfl, rfl, rfl, by decide +kernel, rfl, by decide +kernel, by decide +kernel⟩
def F_is_chance : SD := (sRet (xCall g_fits_chance (lCons (xVar 0) lNil)))
def g_is_chance : List D → Store → Res D := bodyD F_is_chance 1
abbrev st__law_under : Stmt := topS 56
theorem sc__law_under : FnScope ["one", "other"] ["one", "other"] (defScope st__law_under) := ⟨rfl, rfl, rfl, by decide +kernel, rfl, by decide +kernel, by decide +kernel⟩
def F__law_under : SD := (sRet (xBin ltD (xBin mulD (xIx (xVar 0) (xC (.int 0))) (xIx (xVar 1) (xC (.int 1)))) (xBin mulD (xIx (xVar 1) (xC (.int 0))) (xIx (xVar 0) (xC (.int 1))))))
def g__law_under : List D → Store → Res D := bodyD F__law_under 2
abbrev st__law_chance : Stmt := topS 59
theorem sc__law_chance : FnScope ["cup", "below"] ["cup"] (defScope st__law_chance) := ⟨rfl, rfl, rfl, by decide +kernel, rfl, by decide +kernel, by decide +kernel⟩
def F__law_chance : SD := (sSeq (sAsg 1 (xBin addD (xC (.int 1)) (xCall g__law_roll (lCons (xVar 0) (lCons (xC (.int 24)) lNil)))))
    (sRet (xCall g__law_least (lCons (xCall g__law_roll (lCons (xVar 0) (lCons (xBin addD (xVar 1) (xC (.int 1))) lNil))) (lCons (xVar 1) lNil)))))
def g__law_chance : List D → Store → Res D := bodyD F__law_chance 2
abbrev st__law_plus : Stmt := topS 52
theorem sc__law_plus : FnScope ["one", "other"] ["one", "other"] (defScope st__law_plus) := ⟨rfl, rfl, rfl, by decide +kernel, rfl, by decide +kernel, by decide +kernel⟩
def F__law_plus : SD := (sRet (xCall g__law_least (lCons (xBin addD (xBin mulD (xIx (xVar 0) (xC (.int 0))) (xIx (xVar 1) (xC (.int 1)))) (xBin mulD (xIx (xVar 1) (xC (.int 0))) (xIx (xVar 0) (xC (.int 1))))) (lCons (xBin mulD (xIx (xVar 0) (xC (.int 1))) (xIx (xVar 1) (xC (.int 1)))) lNil))))
def g__law_plus : List D → Store → Res D := bodyD F__law_plus 2
abbrev st__law_times : Stmt := topS 57
theorem sc__law_times : FnScope ["one", "other"] ["one", "other"] (defScope st__law_times) := ⟨rfl, rfl, rfl, by decide +kernel, rfl, by decide +kernel, by decide +kernel⟩
def F__law_times : SD := (sRet (xCall g__law_least (lCons (xBin mulD (xIx (xVar 0) (xC (.int 0))) (xIx (xVar 1) (xC (.int 0)))) (lCons (xBin mulD (xIx (xVar 0) (xC (.int 1))) (xIx (xVar 1) (xC (.int 1)))) lNil))))
def g__law_times : List D → Store → Res D := bodyD F__law_times 2
abbrev st__law_shares : Stmt := topS 58
theorem sc__law_shares : FnScope ["first", "second", "rule", "false", "power", "value", "share", "same", "one", "other"] ["first", "second", "rule"] (defScope st__law_shares) := ⟨rfl, rfl, rfl, by decide +kernel, rfl, by decide +kernel, by decide +kernel⟩
abbrev L__law_shares_1 : SD := (sPar [3, 4] (mVal (xCall g__law_plus (lCons (xVar 3) (lCons (xCall g__law_times (lCons (xVar 6) (lCons (xVar 8) lNil))) lNil))) (mVal (xCall g__law_plus (lCons (xVar 4) (lCons (xCall g__law_times (lCons (xVar 6) (lCons (xVar 9) lNil))) lNil))) mNil)))
def F__law_shares : SD := (sSeq (sPar [3, 4] (mVal (xTup (lCons (xC (.int 0)) (lCons (xC (.int 1)) lNil))) (mVal (xTup (lCons (xC (.int 0)) (lCons (xC (.int 1)) lNil))) mNil)))
    (sSeq (sFor (wZipA (lCons (xVar 2) (lCons (xCall g__law_values (lCons (xVar 0) (lCons (xVar 1) lNil))) lNil))) (gT (gC (gT (gC (gN 5) (gC (gN 6) gE))) (gC (gT (gC (gN 7) (gC (gN 8) (gC (gN 9) gE)))) gE))) L__law_shares_1)
    (sRet (xTup (lCons (xVar 3) (lCons (xVar 4) lNil))))))
def g__law_shares : List D → Store → Res D := bodyD F__law_shares 10
abbrev st__law_is_share : Stmt := topS 60
theorem sc__law_is_share : FnScope ["value", "one"] ["value"] (defScope st__law_is_share) := ⟨rfl, rfl, rfl, by decide +kernel, rfl, by decide +kernel, by decide +kernel⟩
abbrev C__law_is_share_1 : XD := (xLc (iSeq (xVar 0)) (gN 1) (bVal (xBin neD (xCall g__law_sort (lCons (xVar 1) lNil)) (xC (.int 2)))) (xVar 1) [1])
def F__law_is_share : SD := (sSeq (sIf (bOr (bNot (bVal (xUn (isiD Ty.tuple) (xVar 0)))) (bOr (bVal (xBin neD (xCb lenD (lCons (xVar 0) lNil)) (xC (.int 2)))) (bVal (xBin neD C__law_is_share_1 (xLst lNil))))) (sRet (xC (.bl false))) sNext)
    (sRet (xAnd (xBin geD (xIx (xVar 0) (xC (.int 1))) (xC (.int 1))) (xAnd (xChain leD leD (xC (.int 0)) (xIx (xVar 0) (xC (.int 0))) (xIx (xVar 0) (xC (.int 1)))) (xBin eqD (xCall g__law_divisor (lCons (xIx (xVar 0) (xC (.int 0))) (lCons (xIx (xVar 0) (xC (.int 1))) lNil))) (xC (.int 1)))))))
def g__law_is_share : List D → Store → Res D := bodyD F__law_is_share 2
abbrev st__law_is_rule : Stmt := topS 61
theorem sc__law_is_rule : FnScope ["first", "second", "value", "values", "own", "pair"] ["first", "second", "value"] (defScope st__law_is_rule) := ⟨rfl, rfl, rfl, by decide +kernel, rfl, by decide +kernel, by decide +kernel⟩
abbrev C__law_is_rule_1 : XD := (xLc (iSeq (xCall g__law_values (lCons (xVar 0) (lCons (xVar 1) lNil)))) (gN 4) bTrue (xIx (xVar 4) (xC (.int 0))) [4])
abbrev C__law_is_rule_2 : XD := (xLc (iSeq (xVar 2)) (gN 5) (bOr (bNot (bVal (xUn (isiD Ty.tuple) (xVar 5)))) (bVal (xBin neD (xCb lenD (lCons (xVar 5) lNil)) (xC (.int 2))))) (xVar 5) [5])
abbrev C__law_is_rule_3 : XD := (xLc (iSeq (xVar 2)) (gN 5) (bOr (bVal (xBin neD (xCall g__law_sort (lCons (xIx (xVar 5) (xC (.int 0))) lNil)) (xC (.int 2)))) (bNot (bVal (xCall g__law_is_share (lCons (xIx (xVar 5) (xC (.int 1))) lNil))))) (xVar 5) [5])
abbrev C__law_is_rule_4 : XD := (xLc (iSeq (xVar 2)) (gN 5) bTrue (xIx (xVar 5) (xC (.int 0))) [5])
def F__law_is_rule : SD := (sSeq (sAsg 3 C__law_is_rule_1)
    (sSeq (sIf (bOr (bNot (bVal (xUn (isiD Ty.tuple) (xVar 2)))) (bOr (bVal (xBin neD (xCb lenD (lCons (xVar 2) lNil)) (xCb lenD (lCons (xVar 3) lNil)))) (bVal (xBin neD C__law_is_rule_2 (xLst lNil))))) (sRet (xC (.bl false))) sNext)
    (sSeq (sIf (bVal (xBin neD C__law_is_rule_3 (xLst lNil))) (sRet (xC (.bl false))) sNext)
    (sRet (xBin eqD C__law_is_rule_4 (xVar 3))))))
def g__law_is_rule : List D → Store → Res D := bodyD F__law_is_rule 6
abbrev st__law_right : Stmt := topS 62
theorem sc__law_right : FnScope ["cup", "first", "second", "values", "quotients", "rising", "low", "high", "rule", "told", "every", "none", "at", "odds", "value", "odd", "one", "other"] ["cup", "first", "second"] (defScope st__law_right) := ⟨rfl, rfl, rfl, by decide +kernel, rfl, by decide +kernel, by decide +kernel⟩
abbrev C__law_right_1 : XD := (xLc (iSeq (xVar 3)) (gT (gC (gN 14) (gC (gN 16) (gC (gN 17) gE)))) bTrue (xIf (bVal (xBin gtD (xIx (xVar 16) (xC (.int 0))) (xC (.int 0)))) (xCall g__law_least (lCons (xBin mulD (xIx (xVar 17) (xC (.int 0))) (xIx (xVar 16) (xC (.int 1)))) (lCons (xBin mulD (xIx (xVar 17) (xC (.int 1))) (xIx (xVar 16) (xC (.int 0)))) lNil))) (xC .non)) [14, 16, 17])
abbrev C__law_right_2 : XD := (xLc (iSeq (xVar 3)) (gT (gC (gN 14) (gC (gN 16) (gC (gN 17) gE)))) bTrue (xCall g_quotient_of (lCons (xVar 1) (lCons (xVar 2) (lCons (xVar 14) lNil)))) [14, 16, 17])
abbrev L__law_right_3 : SD := (sIf (bOr (bAnd (bVal (xBin isN (xVar 6) (xC .non))) (bVal (xBin notN (xVar 7) (xC .non)))) (bAnd (bVal (xBin notN (xVar 6) (xC .non))) (bAnd (bVal (xBin notN (xVar 7) (xC .non))) (bVal (xCall g__law_under (lCons (xVar 7) (lCons (xVar 6) lNil))))))) (sAsg 5 (xC (.bl false))) sNext)
abbrev C__law_right_4 : XD := (xLc (iSeq (xVar 3)) (gT (gC (gN 14) (gC (gN 16) (gC (gN 17) gE)))) bTrue (xTup (lCons (xVar 14) (lCons (xCall g__law_chance (lCons (xVar 0) lNil)) lNil))) [14, 16, 17])
abbrev C__law_right_5 : XD := (xLc (iSeq (xVar 3)) (gT (gC (gN 14) (gC (gN 16) (gC (gN 17) gE)))) bTrue (xTup (lCons (xVar 14) (lCons (xTup (lCons (xC (.int 1)) (lCons (xC (.int 1)) lNil))) lNil))) [14, 16, 17])
abbrev C__law_right_6 : XD := (xLc (iSeq (xVar 3)) (gT (gC (gN 14) (gC (gN 16) (gC (gN 17) gE)))) bTrue (xTup (lCons (xVar 14) (lCons (xTup (lCons (xC (.int 0)) (lCons (xC (.int 1)) lNil))) lNil))) [14, 16, 17])
abbrev L__law_right_7 : SD := (sApp 13 (xBin addD (xBin addD (xSl (xVar 8) oNone (oSome (xVar 12))) (xTup (lCons (xVar 15) lNil))) (xSl (xVar 8) (oSome (xBin addD (xVar 12) (xC (.int 1)))) oNone)))
abbrev L__law_right_8 : SD := (sApp 13 (xBin addD (xBin addD (xSl (xVar 8) oNone (oSome (xVar 12))) (xTup (lCons (xVar 15) lNil))) (xSl (xVar 8) (oSome (xBin addD (xVar 12) (xC (.int 1)))) oNone)))
abbrev C__law_right_9 : XD := (xLc (iSeq (xVar 13)) (gN 15) (bNot (bVal (xCall (g__law_like 12) (lCons (xCall g_is_rule (lCons (xVar 1) (lCons (xVar 2) (lCons (xVar 15) lNil)))) (lCons (xCall g__law_is_rule (lCons (xVar 1) (lCons (xVar 2) (lCons (xVar 15) lNil)))) lNil))))) (xVar 15) [15])
def F__law_right : SD := (sSeq (sAsg 3 (xCall g__law_values (lCons (xVar 1) (lCons (xVar 2) lNil))))
    (sSeq (sIf (bOr (bVal (xBin notBD (xCall g_are_chances (lCons (xVar 1) lNil)) (xC (.bl true)))) (bVal (xBin notBD (xCall g_are_chances (lCons (xVar 2) lNil)) (xC (.bl true))))) (sRet (xC (.bl false))) sNext)
    (sSeq (sAsg 4 C__law_right_1)
    (sSeq (sIf (bNot (bVal (xCall (g__law_like 12) (lCons C__law_right_2 (lCons (xVar 4) lNil))))) (sRet (xC (.bl false))) sNext)
    (sSeq (sAsg 5 (xC (.bl true)))
    (sSeq (sFor (wZipA (lCons (xVar 4) (lCons (xSl (xVar 4) (oSome (xC (.int 1))) oNone) lNil))) (gT (gC (gN 6) (gC (gN 7) gE))) L__law_right_3)
    (sSeq (sIf (bNot (bVal (xCall (g__law_like 12) (lCons (xCall g_are_rising (lCons (xVar 1) (lCons (xVar 2) lNil))) (lCons (xVar 5) lNil))))) (sRet (xC (.bl false))) sNext)
    (sSeq (sAsg 8 (xCb tupleD (lCons C__law_right_4 lNil)))
    (sSeq (sAsg 9 (xLst (lCons (xCall g_is_rule (lCons (xVar 1) (lCons (xVar 2) (lCons (xVar 8) lNil)))) (lCons (xCall g_false_share (lCons (xVar 1) (lCons (xVar 2) (lCons (xVar 8) lNil)))) (lCons (xCall g_power_of_rule (lCons (xVar 1) (lCons (xVar 2) (lCons (xVar 8) lNil)))) lNil)))))
    (sSeq (sIf (bOr (bNot (bVal (xCall (g__law_like 12) (lCons (xVar 9) (lCons (xBin addD (xLst (lCons (xC (.bl true)) lNil)) (xCb listD (lCons (xCall g__law_shares (lCons (xVar 1) (lCons (xVar 2) (lCons (xVar 8) lNil)))) lNil))) lNil))))) (bOr (bVal (xBin notBD (xCall g_is_chance (lCons (xIx (xVar 9) (xC (.int 1))) lNil)) (xC (.bl true)))) (bVal (xBin notBD (xCall g_is_chance (lCons (xIx (xVar 9) (xC (.int 2))) lNil)) (xC (.bl true)))))) (sRet (xC (.bl false))) sNext)
    (sSeq (sPar [10, 11] (mVal (xCb tupleD (lCons C__law_right_5 lNil)) (mVal (xCb tupleD (lCons C__law_right_6 lNil)) mNil)))
    (sSeq (sAsg 9 (xLst (lCons (xCall g_false_share (lCons (xVar 1) (lCons (xVar 2) (lCons (xVar 10) lNil)))) (lCons (xCall g_power_of_rule (lCons (xVar 1) (lCons (xVar 2) (lCons (xVar 11) lNil)))) (lCons (xCall g_false_share (lCons (xVar 2) (lCons (xVar 1) (lCons (xVar 8) lNil)))) lNil)))))
    (sSeq (sIf (bNot (bVal (xCall (g__law_like 12) (lCons (xVar 9) (lCons (xLst (lCons (xTup (lCons (xC (.int 1)) (lCons (xC (.int 1)) lNil))) (lCons (xTup (lCons (xC (.int 0)) (lCons (xC (.int 1)) lNil))) (lCons (xCall g_power_of_rule (lCons (xVar 1) (lCons (xVar 2) (lCons (xVar 8) lNil)))) lNil)))) lNil))))) (sRet (xC (.bl false))) sNext)
    (sSeq (sAsg 12 (xCall g__law_roll (lCons (xVar 0) (lCons (xCb lenD (lCons (xVar 8) lNil)) lNil))))
    (sSeq (sAsgF 13 (xLst (lCons (xVar 8) (lCons (xUn revTD (xVar 8)) (lCons (xCb listD (lCons (xVar 8) lNil)) (lCons (xSl (xVar 8) (oSome (xC (.int 1))) oNone) (lCons (xBin addD (xVar 8) (xSl (xVar 8) (oSome (xUn negD (xC (.int 1)))) oNone)) (lCons (xC .non) (lCons (xTup lNil) (lCons (xC (.int 5)) (lCons (xVar 10) (lCons (xVar 11) (lCons (xVar 1) (lCons (xVar 2) lNil))))))))))))))
    (sSeq (sAsg 14 (xIx (xIx (xVar 8) (xVar 12)) (xC (.int 0))))
    (sSeq (sFor (iSeq (xTup (lCons (xC .non) (lCons (xTup lNil) (lCons (xSl (xIx (xVar 8) (xVar 12)) oNone (oSome (xC (.int 1)))) (lCons (xCb listD (lCons (xIx (xVar 8) (xVar 12)) lNil)) (lCons (xTup (lCons (xVar 14) (lCons (xTup (lCons (xC (.int 2)) (lCons (xC (.int 4)) lNil))) lNil))) (lCons (xTup (lCons (xVar 14) (lCons (xTup (lCons (xC (.int 3)) (lCons (xC (.int 2)) lNil))) lNil))) (lCons (xTup (lCons (xVar 14) (lCons (xTup (lCons (xUn negD (xC (.int 1))) (lCons (xC (.int 2)) lNil))) lNil))) (lCons (xTup (lCons (xVar 14) (lCons (xC .non) lNil))) (lCons (xTup (lCons (xC (.bl true)) (lCons (xTup (lCons (xC (.int 1)) (lCons (xC (.int 2)) lNil))) lNil))) lNil))))))))))) (gN 15) L__law_right_7)
    (sSeq (sFor (iSeq (xTup (lCons (xTup (lCons (xBin addD (xVar 14) (xC (.int 1))) (lCons (xTup (lCons (xC (.int 1)) (lCons (xC (.int 2)) lNil))) lNil))) (lCons (xTup (lCons (xVar 14) (lCons (xTup (lCons (xC (.int 1)) (lCons (xC (.int 0)) lNil))) lNil))) (lCons (xTup (lCons (xVar 14) (lCons (xTup (lCons (xC (.bl true)) (lCons (xC (.int 1)) lNil))) lNil))) (lCons (xTup (lCons (xC (.str "0")) (lCons (xTup (lCons (xC (.int 1)) (lCons (xC (.int 2)) lNil))) lNil))) lNil)))))) (gN 15) L__law_right_8)
    (sFrz 13 (sRet (xBin eqD C__law_right_9 (xLst lNil))))))))))))))))))))))
def g__law_right : List D → Store → Res D := bodyD F__law_right 18
abbrev st_law : Stmt := topS 63
theorem sc_law : FnScope ["script", "cup", "third", "fall", "one", "other", "some", "told", "most", "first", "second", "many", "rule", "mean", "at", "value", "chance"] ["script"] (defScope st_law) := ⟨rfl, rfl, rfl, by decide +kernel, rfl, by decide +kernel, by decide +kernel⟩
abbrev L_law_1 : SD := (sSeq (sAsgG (xCall g__law_two (lCons (xVar 1) (lCons (xVar 8) lNil))) (gT (gC (gN 9) (gC (gN 10) gE))))
    (sIf (bNot (bVal (xCall g__law_right (lCons (xVar 1) (lCons (xVar 9) (lCons (xVar 10) lNil)))))) (sRet (xC (.bl false))) sNext))
abbrev C_law_2 : XD := (xLc (iRg1 (lCons (xBin addD (xVar 11) (xC (.int 1))) lNil)) (gN 14) bTrue (xTup (lCons (xVar 14) (lCons (xCall g__law_least (lCons (xC (.int 1)) (lCons (xBin addD (xVar 11) (xC (.int 1))) lNil))) lNil))) [14])
abbrev C_law_3 : XD := (xLc (wEnumA (xVar 10)) (gT (gC (gN 14) (gC (gT (gC (gN 15) (gC (gN 16) gE))) gE))) bTrue (xTup (lCons (xVar 14) (lCons (xVar 16) lNil))) [14, 15, 16])
abbrev C_law_4 : XD := (xLc (iRg1 (lCons (xBin addD (xVar 11) (xC (.int 1))) lNil)) (gN 14) bTrue (xTup (lCons (xVar 14) (lCons (xCall g__law_least (lCons (xVar 14) (lCons (xVar 11) lNil))) lNil))) [14])
def F_law : SD := (sSeq (sAsgF 1 (xCall g__law_cup (lCons (xVar 0) lNil))) (sProm 1 (sSeq (sPar [2, 3] (mVal (xTup (lCons (xTup (lCons (xC (.int 0)) (lCons (xTup (lCons (xC (.int 1)) (lCons (xC (.int 3)) lNil))) lNil))) (lCons (xTup (lCons (xC (.int 1)) (lCons (xTup (lCons (xC (.int 1)) (lCons (xC (.int 3)) lNil))) lNil))) (lCons (xTup (lCons (xC (.int 2)) (lCons (xTup (lCons (xC (.int 1)) (lCons (xC (.int 3)) lNil))) lNil))) lNil)))) (mVal (xTup (lCons (xTup (lCons (xC (.int 0)) (lCons (xTup (lCons (xC (.int 1)) (lCons (xC (.int 3)) lNil))) lNil))) (lCons (xTup (lCons (xC (.int 1)) (lCons (xTup (lCons (xC (.int 1)) (lCons (xC (.int 6)) lNil))) lNil))) (lCons (xTup (lCons (xC (.int 2)) (lCons (xTup (lCons (xC (.int 1)) (lCons (xC (.int 2)) lNil))) lNil))) lNil)))) mNil)))
    (sSeq (sPar [4, 5] (mVal (xTup (lCons (xTup (lCons (xC (.int 0)) (lCons (xTup (lCons (xC (.int 1)) (lCons (xC (.int 2)) lNil))) lNil))) (lCons (xTup (lCons (xC (.int 1)) (lCons (xTup (lCons (xC (.int 1)) (lCons (xC (.int 2)) lNil))) lNil))) lNil))) (mVal (xTup (lCons (xTup (lCons (xC (.int 0)) (lCons (xTup (lCons (xC (.int 1)) (lCons (xC (.int 4)) lNil))) lNil))) (lCons (xTup (lCons (xC (.int 1)) (lCons (xTup (lCons (xC (.int 3)) (lCons (xC (.int 4)) lNil))) lNil))) lNil))) mNil)))
    (sSeq (sIf (bNot (bVal (xCall (g__law_like 12) (lCons (xLst (lCons (xCall g_are_rising (lCons (xVar 2) (lCons (xVar 3) lNil))) (lCons (xCall g_is_rule (lCons (xVar 4) (lCons (xVar 5) (lCons (xTup (lCons (xTup (lCons (xC (.int 0)) (lCons (xTup (lCons (xC (.int 0)) (lCons (xC (.int 1)) lNil))) lNil))) (lCons (xTup (lCons (xC (.int 1)) (lCons (xTup (lCons (xC (.int 3)) (lCons (xC (.int 2)) lNil))) lNil))) lNil))) lNil)))) lNil))) (lCons (xLst (lCons (xC (.bl false)) (lCons (xC (.bl false)) lNil))) lNil))))) (sRet (xC (.bl false))) sNext)
    (sSeq (sPar [4, 5] (mVal (xTup (lCons (xTup (lCons (xC (.int 0)) (lCons (xTup (lCons (xC (.int 1)) (lCons (xC (.int 2)) lNil))) lNil))) (lCons (xTup (lCons (xC (.int 1)) (lCons (xTup (lCons (xC (.int 1)) (lCons (xC (.int 2)) lNil))) lNil))) lNil))) (mVal (xTup (lCons (xTup (lCons (xC (.int 0)) (lCons (xTup (lCons (xC (.int 1)) (lCons (xC (.int 4)) lNil))) lNil))) (lCons (xTup (lCons (xC (.int 1)) (lCons (xTup (lCons (xC (.int 3)) (lCons (xC (.int 4)) lNil))) lNil))) lNil))) mNil)))
    (sSeq (sAsg 6 (xTup (lCons (xTup (lCons (xC (.int 0)) (lCons (xTup (lCons (xC (.int 0)) (lCons (xC (.int 1)) lNil))) lNil))) (lCons (xTup (lCons (xC (.int 1)) (lCons (xTup (lCons (xC (.int 1)) (lCons (xC (.int 2)) lNil))) lNil))) lNil))))
    (sSeq (sAsg 7 (xLst (lCons (xCall g_quotient_of (lCons (xVar 4) (lCons (xVar 5) (lCons (xC (.int 1)) lNil)))) (lCons (xCall g_quotient_of (lCons (xTup (lCons (xTup (lCons (xC (.int 0)) (lCons (xTup (lCons (xC (.int 1)) (lCons (xC (.int 1)) lNil))) lNil))) lNil)) (lCons (xVar 4) (lCons (xC (.int 1)) lNil)))) (lCons (xCall g_are_rising (lCons (xVar 4) (lCons (xVar 5) lNil))) (lCons (xCall g_are_rising (lCons (xVar 5) (lCons (xVar 4) lNil))) lNil))))))
    (sSeq (sAsg 7 (xBin addD (xVar 7) (xLst (lCons (xCall g_is_rule (lCons (xVar 4) (lCons (xVar 5) (lCons (xVar 6) lNil)))) (lCons (xCall g_is_rule (lCons (xVar 4) (lCons (xVar 5) (lCons (xSl (xVar 6) (oSome (xC (.int 1))) oNone) lNil)))) (lCons (xCall g_false_share (lCons (xVar 4) (lCons (xVar 5) (lCons (xVar 6) lNil)))) (lCons (xCall g_power_of_rule (lCons (xVar 4) (lCons (xVar 5) (lCons (xVar 6) lNil)))) lNil)))))))
    (sSeq (sIf (bNot (bVal (xCall (g__law_like 12) (lCons (xVar 7) (lCons (xLst (lCons (xTup (lCons (xC (.int 3)) (lCons (xC (.int 2)) lNil))) (lCons (xC .non) (lCons (xC (.bl true)) (lCons (xC (.bl false)) (lCons (xC (.bl true)) (lCons (xC (.bl false)) (lCons (xTup (lCons (xC (.int 1)) (lCons (xC (.int 4)) lNil))) (lCons (xTup (lCons (xC (.int 3)) (lCons (xC (.int 8)) lNil))) lNil))))))))) lNil))))) (sRet (xC (.bl false))) sNext)
    (sSeq (sFor (iSeq (xTup (lCons (xC (.int 1)) (lCons (xC (.int 3)) (lCons (xC (.int 6)) (lCons (xC (.int 12)) lNil)))))) (gN 8) L_law_1)
    (sSeq (sAsg 11 (xBin addD (xC (.int 1)) (xCall g__law_roll (lCons (xVar 1) (lCons (xC (.int 12)) lNil)))))
    (sSeq (sPar [9, 10] (mVal (xCb tupleD (lCons C_law_2 lNil)) (mVal (xCall g__law_chances (lCons (xVar 1) (lCons (xC (.int 1)) lNil))) mNil)))
    (sSeq (sAsg 10 (xCb tupleD (lCons C_law_3 lNil)))
    (sSeq (sAsg 12 (xCb tupleD (lCons C_law_4 lNil)))
    (sSeq (sAsg 13 (xCall g_mean_of (lCons (xVar 9) lNil)))
    (sRet (xCall (g__law_like 12) (lCons (xCall g_false_share (lCons (xVar 9) (lCons (xVar 10) (lCons (xVar 12) lNil)))) (lCons (xCall g__law_least (lCons (xIx (xVar 13) (xC (.int 0))) (lCons (xBin mulD (xIx (xVar 13) (xC (.int 1))) (xVar 11)) lNil))) lNil))))))))))))))))))))
def g_law : List D → Store → Res D := bodyD F_law 17
end K80
set_option Elab.async false
set_option linter.all false
set_option maxRecDepth 100000
set_option maxHeartbeats 4000000
namespace K80
open PySem PySem.Spec PyProof.Rows L2 DC
structure Txt (K : PySem.W.Frag) (mg : Str → Option Value) (ad : Nat → Addr) (fd : Nat → FuncData) : Prop where
  m__law_cup : mg "_law_cup" = some (.ref (ad 0))
  k__law_cup : PySem.W.keepIn K (.ref (ad 0)) = true
  b__law_cup : Binds K (fd 0) ["script"] []
  m_is_rising : mg "is_rising" = some (.ref (ad 1))
  k_is_rising : PySem.W.keepIn K (.ref (ad 1)) = true
  b_is_rising : Binds K (fd 1) ["things"] []
  m_is_tuple_of : mg "is_tuple_of" = some (.ref (ad 2))
  k_is_tuple_of : PySem.W.keepIn K (.ref (ad 2)) = true
  b_is_tuple_of : Binds K (fd 2) ["value", "low", "high"] []
  m_divisor_of : mg "divisor_of" = some (.ref (ad 3))
  k_divisor_of : PySem.W.keepIn K (.ref (ad 3)) = true
  b_divisor_of : Binds K (fd 3) ["one", "other"] []
  m_lowest : mg "lowest" = some (.ref (ad 4))
  k_lowest : PySem.W.keepIn K (.ref (ad 4)) = true
  b_lowest : Binds K (fd 4) ["above", "below"] []
  m_sum_in : mg "sum_in" = some (.ref (ad 5))
  k_sum_in : PySem.W.keepIn K (.ref (ad 5)) = true
  b_sum_in : Binds K (fd 5) ["one", "other"] []
  m_sum_over : mg "sum_over" = some (.ref (ad 6))
  k_sum_over : PySem.W.keepIn K (.ref (ad 6)) = true
  b_sum_over : Binds K (fd 6) ["fractions"] []
  m_is_integer : mg "is_integer" = some (.ref (ad 7))
  k_is_integer : PySem.W.keepIn K (.ref (ad 7)) = true
  b_is_integer : Binds K (fd 7) ["value"] []
  m_fits_fraction : mg "fits_fraction" = some (.ref (ad 8))
  k_fits_fraction : PySem.W.keepIn K (.ref (ad 8)) = true
  b_fits_fraction : Binds K (fd 8) ["value"] []
  m_fits_chance : mg "fits_chance" = some (.ref (ad 9))
  k_fits_chance : PySem.W.keepIn K (.ref (ad 9)) = true
  b_fits_chance : Binds K (fd 9) ["value"] []
  m_is_whole : mg "is_whole" = some (.ref (ad 10))
  k_is_whole : PySem.W.keepIn K (.ref (ad 10)) = true
  b_is_whole : Binds K (fd 10) ["value", "low", "high"] []
  m_is_share : mg "is_share" = some (.ref (ad 11))
  k_is_share : PySem.W.keepIn K (.ref (ad 11)) = true
  b_is_share : Binds K (fd 11) ["value"] []
  m_fits_chances : mg "fits_chances" = some (.ref (ad 12))
  k_fits_chances : PySem.W.keepIn K (.ref (ad 12)) = true
  b_fits_chances : Binds K (fd 12) ["value"] []
  m_need_chances : mg "need_chances" = some (.ref (ad 13))
  k_need_chances : PySem.W.keepIn K (.ref (ad 13)) = true
  b_need_chances : Binds K (fd 13) ["value"] []
  m_mean_in : mg "mean_in" = some (.ref (ad 14))
  k_mean_in : PySem.W.keepIn K (.ref (ad 14)) = true
  b_mean_in : Binds K (fd 14) ["chances"] []
  m_mean_of : mg "mean_of" = some (.ref (ad 15))
  k_mean_of : PySem.W.keepIn K (.ref (ad 15)) = true
  b_mean_of : Binds K (fd 15) ["chances"] []
  m__law_sort : mg "_law_sort" = some (.ref (ad 16))
  k__law_sort : PySem.W.keepIn K (.ref (ad 16)) = true
  b__law_sort : Binds K (fd 16) ["value"] []
  m__law_like : mg "_law_like" = some (.ref (ad 17))
  k__law_like : PySem.W.keepIn K (.ref (ad 17)) = true
  b__law_like : Binds K (fd 17) ["one", "other"] []
  m_need_both : mg "need_both" = some (.ref (ad 18))
  k_need_both : PySem.W.keepIn K (.ref (ad 18)) = true
  b_need_both : Binds K (fd 18) ["first", "second"] []
  m_part_by : mg "part_by" = some (.ref (ad 19))
  k_part_by : PySem.W.keepIn K (.ref (ad 19)) = true
  b_part_by : Binds K (fd 19) ["one", "other"] []
  m_quotient_in : mg "quotient_in" = some (.ref (ad 20))
  k_quotient_in : PySem.W.keepIn K (.ref (ad 20)) = true
  b_quotient_in : Binds K (fd 20) ["one", "other"] []
  m_values_in : mg "values_in" = some (.ref (ad 21))
  k_values_in : PySem.W.keepIn K (.ref (ad 21)) = true
  b_values_in : Binds K (fd 21) ["first", "second"] []
  m_quotient_of : mg "quotient_of" = some (.ref (ad 22))
  k_quotient_of : PySem.W.keepIn K (.ref (ad 22)) = true
  b_quotient_of : Binds K (fd 22) ["first", "second", "value"] []
  m_is_under : mg "is_under" = some (.ref (ad 23))
  k_is_under : PySem.W.keepIn K (.ref (ad 23)) = true
  b_is_under : Binds K (fd 23) ["one", "other"] []
  m_is_lesser : mg "is_lesser" = some (.ref (ad 24))
  k_is_lesser : PySem.W.keepIn K (.ref (ad 24)) = true
  b_is_lesser : Binds K (fd 24) ["one", "other"] []
  m_are_rising : mg "are_rising" = some (.ref (ad 25))
  k_are_rising : PySem.W.keepIn K (.ref (ad 25)) = true
  b_are_rising : Binds K (fd 25) ["first", "second"] []
  m__law_roll : mg "_law_roll" = some (.ref (ad 26))
  k__law_roll : PySem.W.keepIn K (.ref (ad 26)) = true
  b__law_roll : Binds K (fd 26) ["cup", "many"] []
  m__law_divisor : mg "_law_divisor" = some (.ref (ad 27))
  k__law_divisor : PySem.W.keepIn K (.ref (ad 27)) = true
  b__law_divisor : Binds K (fd 27) ["one", "other"] []
  m__law_least : mg "_law_least" = some (.ref (ad 28))
  k__law_least : PySem.W.keepIn K (.ref (ad 28)) = true
  b__law_least : Binds K (fd 28) ["above", "below"] []
  m__law_chances : mg "_law_chances" = some (.ref (ad 29))
  k__law_chances : PySem.W.keepIn K (.ref (ad 29)) = true
  b__law_chances : Binds K (fd 29) ["cup", "most"] []
  m__law_two : mg "_law_two" = some (.ref (ad 30))
  k__law_two : PySem.W.keepIn K (.ref (ad 30)) = true
  b__law_two : Binds K (fd 30) ["cup", "most"] []
  m_fits_share : mg "fits_share" = some (.ref (ad 31))
  k_fits_share : PySem.W.keepIn K (.ref (ad 31)) = true
  b_fits_share : Binds K (fd 31) ["value"] []
  m_fits_rule : mg "fits_rule" = some (.ref (ad 32))
  k_fits_rule : PySem.W.keepIn K (.ref (ad 32)) = true
  b_fits_rule : Binds K (fd 32) ["first", "second", "value"] []
  m_need_rule : mg "need_rule" = some (.ref (ad 33))
  k_need_rule : PySem.W.keepIn K (.ref (ad 33)) = true
  b_need_rule : Binds K (fd 33) ["first", "second", "rule"] []
  m_product_in : mg "product_in" = some (.ref (ad 34))
  k_product_in : PySem.W.keepIn K (.ref (ad 34)) = true
  b_product_in : Binds K (fd 34) ["one", "other"] []
  m_both_shares : mg "both_shares" = some (.ref (ad 35))
  k_both_shares : PySem.W.keepIn K (.ref (ad 35)) = true
  b_both_shares : Binds K (fd 35) ["first", "second", "rule"] []
  m_false_share : mg "false_share" = some (.ref (ad 36))
  k_false_share : PySem.W.keepIn K (.ref (ad 36)) = true
  b_false_share : Binds K (fd 36) ["first", "second", "rule"] []
  m_is_rule : mg "is_rule" = some (.ref (ad 37))
  k_is_rule : PySem.W.keepIn K (.ref (ad 37)) = true
  b_is_rule : Binds K (fd 37) ["first", "second", "value"] []
  m_power_of_rule : mg "power_of_rule" = some (.ref (ad 38))
  k_power_of_rule : PySem.W.keepIn K (.ref (ad 38)) = true
  b_power_of_rule : Binds K (fd 38) ["first", "second", "rule"] []
  m__law_values : mg "_law_values" = some (.ref (ad 39))
  k__law_values : PySem.W.keepIn K (.ref (ad 39)) = true
  b__law_values : Binds K (fd 39) ["first", "second"] []
  m_are_chances : mg "are_chances" = some (.ref (ad 40))
  k_are_chances : PySem.W.keepIn K (.ref (ad 40)) = true
  b_are_chances : Binds K (fd 40) ["value"] []
  m_is_chance : mg "is_chance" = some (.ref (ad 41))
  k_is_chance : PySem.W.keepIn K (.ref (ad 41)) = true
  b_is_chance : Binds K (fd 41) ["value"] []
  m__law_under : mg "_law_under" = some (.ref (ad 42))
  k__law_under : PySem.W.keepIn K (.ref (ad 42)) = true
  b__law_under : Binds K (fd 42) ["one", "other"] []
  m__law_chance : mg "_law_chance" = some (.ref (ad 43))
  k__law_chance : PySem.W.keepIn K (.ref (ad 43)) = true
  b__law_chance : Binds K (fd 43) ["cup"] []
  m__law_plus : mg "_law_plus" = some (.ref (ad 44))
  k__law_plus : PySem.W.keepIn K (.ref (ad 44)) = true
  b__law_plus : Binds K (fd 44) ["one", "other"] []
  m__law_times : mg "_law_times" = some (.ref (ad 45))
  k__law_times : PySem.W.keepIn K (.ref (ad 45)) = true
  b__law_times : Binds K (fd 45) ["one", "other"] []
  m__law_shares : mg "_law_shares" = some (.ref (ad 46))
  k__law_shares : PySem.W.keepIn K (.ref (ad 46)) = true
  b__law_shares : Binds K (fd 46) ["first", "second", "rule"] []
  m__law_is_share : mg "_law_is_share" = some (.ref (ad 47))
  k__law_is_share : PySem.W.keepIn K (.ref (ad 47)) = true
  b__law_is_share : Binds K (fd 47) ["value"] []
  m__law_is_rule : mg "_law_is_rule" = some (.ref (ad 48))
  k__law_is_rule : PySem.W.keepIn K (.ref (ad 48)) = true
  b__law_is_rule : Binds K (fd 48) ["first", "second", "value"] []
  m__law_right : mg "_law_right" = some (.ref (ad 49))
  k__law_right : PySem.W.keepIn K (.ref (ad 49)) = true
  b__law_right : Binds K (fd 49) ["cup", "first", "second"] []
  z_abs : mg "abs" = none
  z_all : mg "all" = none
  z_any : mg "any" = none
  z_bool : mg "bool" = none
  z_dict : mg "dict" = none
  z_enumerate : mg "enumerate" = none
  z_int : mg "int" = none
  z_isinstance : mg "isinstance" = none
  z_len : mg "len" = none
  z_list : mg "list" = none
  z_max : mg "max" = none
  z_range : mg "range" = none
  z_set : mg "set" = none
  z_sorted : mg "sorted" = none
  z_str : mg "str" = none
  z_sum : mg "sum" = none
  z_tuple : mg "tuple" = none
  z_zip : mg "zip" = none
  c_FARTHEST : ∃ t : Tok, mg "FARTHEST" = some (.int 1000000 t)
  c_GREAT : ∃ t : Tok, mg "GREAT" = some (.int 1000000000000000000000000000000000000000000000000000000000000 t)
  c_MOST_VALUES : ∃ t : Tok, mg "MOST_VALUES" = some (.int 40 t)
  c_NONE : ∃ a : Addr, mg "NONE" = some (.ref a) ∧ ∀ T Hv, Rp K T Hv (.ref a) (.tup [(.int 0), (.int 1)])
  c_ONE : ∃ a : Addr, mg "ONE" = some (.ref a) ∧ ∀ T Hv, Rp K T Hv (.ref a) (.tup [(.int 1), (.int 1)])
section
variable {P : Program} {w : World} {K : PySem.W.Frag} {mg : Str → Option Value} {base : Heap} {cl : Nat → Addr} {ad : Nat → Addr} {fd : Nat → FuncData}
theorem ok__law_cup (T : Txt K mg ad fd) (F : Fun K "_law_cup" "_law_cup" st__law_cup (ad 0) (fd 0)) : FnOk P w K mg base (L2.CX P w) 1 (ad 0) (fd 0) ["script"] (SpF K cl 1 g__law_cup) := show FnOk P w K mg base (L2.CX P w) 1 (ad 0) (fd 0) ["script"] (SpF K cl 1 (bodyF F__law_cup 2)) from okF2 (k := 0) (N := ["script", "cell"]) (ps := ["script"]) F__law_cup F sc__law_cup rfl rfl (by decide) fun cdv A outer s H E hr => by
  have nd := sc__law_cup.nd
  have hu := hu_of hr
  have hu64 := hr.units
  have tk : Takes (cxOf (L2.CX P w) P w K mg base ["script", "cell"] "_law_cup" (defScope st__law_cup) (ad 0) cdv A outer s H E) (WE0 E) := takes_of rfl rfl rfl rfl
  have ps : PassesOwn (model P w) (cxOf (L2.CX P w) P w K mg base ["script", "cell"] "_law_cup" (defScope st__law_cup) (ad 0) cdv A outer s H E).A (cxOf (L2.CX P w) P w K mg base ["script", "cell"] "_law_cup" (defScope st__law_cup) (ad 0) cdv A outer s H E).env (cxOf (L2.CX P w) P w K mg base ["script", "cell"] "_law_cup" (defScope st__law_cup) (ad 0) cdv A outer s H E).xe := passes_of rfl
  exact (hSeqF (hCons (hAsg (ps_set (i := 1) nd rfl (.inl rfl) (dCb call_abs c_abs (by rfl) T.z_abs (by decide +kernel) (aCons (dIx (dBin op_addD o_add (dFE (dCtyF call_list_of c_list (by rfl) T.z_list (by decide +kernel) (aCons (dVar (pv 0)) aNil))) (dFE (dLst (aCons dInt aNil)))) dInt (fun _ _ => rfl)) aNil))))
    (hOne (hRetF (dLst (aCons (dIf (bCmp op_ge o_cmpI (dVar (pv 1)) (dBin op_pow o_pow dInt dInt) (nomark _)) (dBin op_divD o_div (dVar (pv 1)) dInt) dInt) (aCons (dBin op_addD o_add (dBin op_mod o_mod (dCty call_int1 c_int (by rfl) T.z_int (by decide +kernel) (aCons (dBin op_addD o_add (dBin op_mulD o_mul (dVar (pv 1)) dInt) dInt) aNil)) dInt) dInt) aNil)))))))
theorem ok_is_rising (T : Txt K mg ad fd) (F : Fun K "is_rising" "is_rising" st_is_rising (ad 1) (fd 1)) : FnOk P w K mg base (L2.CX P w) 1 (ad 1) (fd 1) ["things"] (SpD K cl 1 g_is_rising) := show FnOk P w K mg base (L2.CX P w) 1 (ad 1) (fd 1) ["things"] (SpD K cl 1 (bodyD F_is_rising 3)) from okD2 (k := 0) (N := ["things", "one", "other"]) (ps := ["things"]) F_is_rising F sc_is_rising rfl rfl (by decide) fun cdv A outer s H E hr => by
  have nd := sc_is_rising.nd
  have hu := hu_of hr
  have hu64 := hr.units
  have tk : Takes (cxOf (L2.CX P w) P w K mg base ["things", "one", "other"] "is_rising" (defScope st_is_rising) (ad 1) cdv A outer s H E) (WE0 E) := takes_of rfl rfl rfl rfl
  have ps : PassesOwn (model P w) (cxOf (L2.CX P w) P w K mg base ["things", "one", "other"] "is_rising" (defScope st_is_rising) (ad 1) cdv A outer s H E).A (cxOf (L2.CX P w) P w K mg base ["things", "one", "other"] "is_rising" (defScope st_is_rising) (ad 1) cdv A outer s H E).env (cxOf (L2.CX P w) P w K mg base ["things", "one", "other"] "is_rising" (defScope st_is_rising) (ad 1) cdv A outer s H E).xe := passes_of rfl
  exact (hOne (hRet (dCb (cr_all rfl) c_all (by rfl) T.z_all (by decide +kernel) (aCons (dFE (dLc (pe_lc (own := [("one", 1), ("other", 2)]) rfl nd (jZipA (pi_zipK (by rfl) T.z_zip (aCons (dVar (pv 0)) (aCons (dSl (dVar (pv 0)) (dOSome dInt) dONone) aNil)))) (blkOk_by (N := ["things", "one", "other"]) (sc := defScope st_is_rising) (by decide +kernel)) (fun _ _ _ _ _ => (kT (pg_tup rfl (kC (kN (pg_name (i := 1) nd rfl (.inl rfl))) (kC (kN (pg_name (i := 2) nd rfl (.inl rfl))) kE (pgs_cons (kN (pg_name (i := 2) nd rfl (.inl rfl))) kE)) (pgs_cons (kN (pg_name (i := 1) nd rfl (.inl rfl))) (kC (kN (pg_name (i := 2) nd rfl (.inl rfl))) kE (pgs_cons (kN (pg_name (i := 2) nd rfl (.inl rfl))) kE))))) (gs_len (gs_len gE_len)))) (fun _ _ _ _ _ => bNilT) (fun _ _ _ _ _ => (dCmp op_lt o_cmpI (dVar (pv 1)) (dVar (pv 2)) (nomark _)))))) aNil))))
theorem ok_is_tuple_of (T : Txt K mg ad fd) (F : Fun K "is_tuple_of" "is_tuple_of" st_is_tuple_of (ad 2) (fd 2)) : FnOk P w K mg base (L2.CX P w) 1 (ad 2) (fd 2) ["value", "low", "high"] (SpD K cl 3 g_is_tuple_of) := show FnOk P w K mg base (L2.CX P w) 1 (ad 2) (fd 2) ["value", "low", "high"] (SpD K cl 3 (bodyD F_is_tuple_of 3)) from okD2 (k := 0) (N := ["value", "low", "high"]) (ps := ["value", "low", "high"]) F_is_tuple_of F sc_is_tuple_of rfl rfl (by decide) fun cdv A outer s H E hr => by
  have nd := sc_is_tuple_of.nd
  have hu := hu_of hr
  have hu64 := hr.units
  have tk : Takes (cxOf (L2.CX P w) P w K mg base ["value", "low", "high"] "is_tuple_of" (defScope st_is_tuple_of) (ad 2) cdv A outer s H E) (WE0 E) := takes_of rfl rfl rfl rfl
  have ps : PassesOwn (model P w) (cxOf (L2.CX P w) P w K mg base ["value", "low", "high"] "is_tuple_of" (defScope st_is_tuple_of) (ad 2) cdv A outer s H E).A (cxOf (L2.CX P w) P w K mg base ["value", "low", "high"] "is_tuple_of" (defScope st_is_tuple_of) (ad 2) cdv A outer s H E).env (cxOf (L2.CX P w) P w K mg base ["value", "low", "high"] "is_tuple_of" (defScope st_is_tuple_of) (ad 2) cdv A outer s H E).xe := passes_of rfl
  exact (hOne (hRet (dAnd (dIsi Ty.tuple (by rfl) T.z_isinstance (by rfl) T.z_tuple (by decide +kernel) (dVar (pv 0))) (dOne (dChain op_le o_cmpI op_le o_cmpI (dVar (pv 1)) (dCb call_len c_len (by rfl) T.z_len (by decide +kernel) (aCons (dVar (pv 0)) aNil)) (dVar (pv 2)))))))
theorem ok_divisor_of (T : Txt K mg ad fd) (F : Fun K "divisor_of" "divisor_of" st_divisor_of (ad 3) (fd 3)) : FnOk P w K mg base (L2.CX P w) 1 (ad 3) (fd 3) ["one", "other"] (SpD K cl 2 g_divisor_of) := show FnOk P w K mg base (L2.CX P w) 1 (ad 3) (fd 3) ["one", "other"] (SpD K cl 2 (bodyD F_divisor_of 2)) from okD2 (k := 0) (N := ["one", "other"]) (ps := ["one", "other"]) F_divisor_of F sc_divisor_of rfl rfl (by decide) fun cdv A outer s H E hr => by
  have nd := sc_divisor_of.nd
  have hu := hu_of hr
  have hu64 := hr.units
  have tk : Takes (cxOf (L2.CX P w) P w K mg base ["one", "other"] "divisor_of" (defScope st_divisor_of) (ad 3) cdv A outer s H E) (WE0 E) := takes_of rfl rfl rfl rfl
  have ps : PassesOwn (model P w) (cxOf (L2.CX P w) P w K mg base ["one", "other"] "divisor_of" (defScope st_divisor_of) (ad 3) cdv A outer s H E).A (cxOf (L2.CX P w) P w K mg base ["one", "other"] "divisor_of" (defScope st_divisor_of) (ad 3) cdv A outer s H E).env (cxOf (L2.CX P w) P w K mg base ["one", "other"] "divisor_of" (defScope st_divisor_of) (ad 3) cdv A outer s H E).xe := passes_of rfl
  exact (hCons (hPar2 (ps_par (i := 0) (j := 1) rfl nd rfl rfl (by decide) rfl rfl (jVal (dCb call_abs c_abs (by rfl) T.z_abs (by decide +kernel) (aCons (dVar (pv 0)) aNil)) (jVal (dCb call_abs c_abs (by rfl) T.z_abs (by decide +kernel) (aCons (dVar (pv 1)) aNil)) jNil)) (by rfl)))
    (hCons (hWhileV (fuelI 1) ps (bCmp (op_neD hu64) o_ne (dVar (pv 1)) dInt (nomark _)) (hOne (hPar2 (ps_par (i := 0) (j := 1) rfl nd rfl rfl (by decide) rfl rfl (jVal (dVar (pv 1)) (jVal (dBin op_mod o_mod (dVar (pv 0)) (dVar (pv 1))) jNil)) (by rfl)))))
    (hOne (hRet (dVar (pv 0))))))
theorem ok_lowest (T : Txt K mg ad fd) (F : Fun K "lowest" "lowest" st_lowest (ad 4) (fd 4)) (G_divisor_of : FnOk P w K mg base (L2.CX P w) 1 (ad 3) (fd 3) ["one", "other"] (SpD K cl 2 g_divisor_of)) : FnOk P w K mg base (L2.CX P w) 2 (ad 4) (fd 4) ["above", "below"] (SpD K cl 2 g_lowest) := show FnOk P w K mg base (L2.CX P w) 2 (ad 4) (fd 4) ["above", "below"] (SpD K cl 2 (bodyD F_lowest 3)) from okD2 (k := 1) (N := ["above", "below", "part"]) (ps := ["above", "below"]) F_lowest F sc_lowest rfl rfl (by decide) fun cdv A outer s H E hr => by
  have nd := sc_lowest.nd
  have hu := hu_of hr
  have hu64 := hr.units
  have tk : Takes (cxOf (L2.CX P w) P w K mg base ["above", "below", "part"] "lowest" (defScope st_lowest) (ad 4) cdv A outer s H E) (WE0 E) := takes_of rfl rfl rfl rfl
  have ps : PassesOwn (model P w) (cxOf (L2.CX P w) P w K mg base ["above", "below", "part"] "lowest" (defScope st_lowest) (ad 4) cdv A outer s H E).A (cxOf (L2.CX P w) P w K mg base ["above", "below", "part"] "lowest" (defScope st_lowest) (ad 4) cdv A outer s H E).env (cxOf (L2.CX P w) P w K mg base ["above", "below", "part"] "lowest" (defScope st_lowest) (ad 4) cdv A outer s H E).xe := passes_of rfl
  exact (hCons (hAsg (ps_set (i := 2) nd rfl (.inl rfl) (dBin op_mulD o_mul (dCall G_divisor_of (hr.mono (by omega)) (by rfl) T.m_divisor_of T.k_divisor_of T.b_divisor_of tk (aCons (dVar (pv 0)) (aCons (dVar (pv 1)) aNil)) (lCons_len (lCons_len lNil_len))) (dIf (bCmp op_gt o_cmpI (dVar (pv 1)) dInt (nomark _)) dInt (dUn un_neg o_neg dInt)))))
    (hOne (hRet (dTup (aCons (dBin op_divD o_div (dVar (pv 0)) (dVar (pv 2))) (aCons (dBin op_divD o_div (dVar (pv 1)) (dVar (pv 2))) aNil))))))
theorem ok_sum_in (T : Txt K mg ad fd) (F : Fun K "sum_in" "sum_in" st_sum_in (ad 5) (fd 5)) (G_lowest : FnOk P w K mg base (L2.CX P w) 2 (ad 4) (fd 4) ["above", "below"] (SpD K cl 2 g_lowest)) : FnOk P w K mg base (L2.CX P w) 3 (ad 5) (fd 5) ["one", "other"] (SpD K cl 2 g_sum_in) := show FnOk P w K mg base (L2.CX P w) 3 (ad 5) (fd 5) ["one", "other"] (SpD K cl 2 (bodyD F_sum_in 2)) from okD2 (k := 2) (N := ["one", "other"]) (ps := ["one", "other"]) F_sum_in F sc_sum_in rfl rfl (by decide) fun cdv A outer s H E hr => by
  have nd := sc_sum_in.nd
  have hu := hu_of hr
  have hu64 := hr.units
  have tk : Takes (cxOf (L2.CX P w) P w K mg base ["one", "other"] "sum_in" (defScope st_sum_in) (ad 5) cdv A outer s H E) (WE0 E) := takes_of rfl rfl rfl rfl
  have ps : PassesOwn (model P w) (cxOf (L2.CX P w) P w K mg base ["one", "other"] "sum_in" (defScope st_sum_in) (ad 5) cdv A outer s H E).A (cxOf (L2.CX P w) P w K mg base ["one", "other"] "sum_in" (defScope st_sum_in) (ad 5) cdv A outer s H E).env (cxOf (L2.CX P w) P w K mg base ["one", "other"] "sum_in" (defScope st_sum_in) (ad 5) cdv A outer s H E).xe := passes_of rfl
  exact (hOne (hRet (dCall G_lowest (hr.mono (by omega)) (by rfl) T.m_lowest T.k_lowest T.b_lowest tk (aCons (dBin op_addD o_add (dBin op_mulD o_mul (dIx (dVar (pv 0)) dInt (fun _ _ => rfl)) (dIx (dVar (pv 1)) dInt (fun _ _ => rfl))) (dBin op_mulD o_mul (dIx (dVar (pv 1)) dInt (fun _ _ => rfl)) (dIx (dVar (pv 0)) dInt (fun _ _ => rfl)))) (aCons (dBin op_mulD o_mul (dIx (dVar (pv 0)) dInt (fun _ _ => rfl)) (dIx (dVar (pv 1)) dInt (fun _ _ => rfl))) aNil)) (lCons_len (lCons_len lNil_len)))))
theorem ok_sum_over (T : Txt K mg ad fd) (F : Fun K "sum_over" "sum_over" st_sum_over (ad 6) (fd 6)) (G_sum_in : FnOk P w K mg base (L2.CX P w) 3 (ad 5) (fd 5) ["one", "other"] (SpD K cl 2 g_sum_in)) : FnOk P w K mg base (L2.CX P w) 4 (ad 6) (fd 6) ["fractions"] (SpD K cl 1 g_sum_over) := show FnOk P w K mg base (L2.CX P w) 4 (ad 6) (fd 6) ["fractions"] (SpD K cl 1 (bodyD F_sum_over 3)) from okD2 (k := 3) (N := ["fractions", "found", "fraction"]) (ps := ["fractions"]) F_sum_over F sc_sum_over rfl rfl (by decide) fun cdv A outer s H E hr => by
  have nd := sc_sum_over.nd
  have hu := hu_of hr
  have hu64 := hr.units
  have tk : Takes (cxOf (L2.CX P w) P w K mg base ["fractions", "found", "fraction"] "sum_over" (defScope st_sum_over) (ad 6) cdv A outer s H E) (WE0 E) := takes_of rfl rfl rfl rfl
  have ps : PassesOwn (model P w) (cxOf (L2.CX P w) P w K mg base ["fractions", "found", "fraction"] "sum_over" (defScope st_sum_over) (ad 6) cdv A outer s H E).A (cxOf (L2.CX P w) P w K mg base ["fractions", "found", "fraction"] "sum_over" (defScope st_sum_over) (ad 6) cdv A outer s H E).env (cxOf (L2.CX P w) P w K mg base ["fractions", "found", "fraction"] "sum_over" (defScope st_sum_over) (ad 6) cdv A outer s H E).xe := passes_of rfl
  exact (hCons (hAsg (ps_set (i := 1) nd rfl (.inl rfl) (dC (pe_glob (v := .ref _) (by rfl) T.c_NONE.choose_spec.1 rfl) T.c_NONE.choose_spec.2)))
    (hCons (hFor (ps_for ps rfl (jSeq (dVar (pv 0))) (kN (pg_name (i := 2) nd rfl (.inl rfl))) (hOne (hAsg (ps_set (i := 1) nd rfl (.inl rfl) (dCall G_sum_in (hr.mono (by omega)) (by rfl) T.m_sum_in T.k_sum_in T.b_sum_in tk (aCons (dVar (pv 1)) (aCons (dVar (pv 2)) aNil)) (lCons_len (lCons_len lNil_len))))))))
    (hOne (hRet (dVar (pv 1))))))
theorem ok_is_integer (T : Txt K mg ad fd) (F : Fun K "is_integer" "is_integer" st_is_integer (ad 7) (fd 7)) : FnOk P w K mg base (L2.CX P w) 1 (ad 7) (fd 7) ["value"] (SpD K cl 1 g_is_integer) := show FnOk P w K mg base (L2.CX P w) 1 (ad 7) (fd 7) ["value"] (SpD K cl 1 (bodyD F_is_integer 1)) from okD2 (k := 0) (N := ["value"]) (ps := ["value"]) F_is_integer F sc_is_integer rfl rfl (by decide) fun cdv A outer s H E hr => by
  have nd := sc_is_integer.nd
  have hu := hu_of hr
  have hu64 := hr.units
  have tk : Takes (cxOf (L2.CX P w) P w K mg base ["value"] "is_integer" (defScope st_is_integer) (ad 7) cdv A outer s H E) (WE0 E) := takes_of rfl rfl rfl rfl
  have ps : PassesOwn (model P w) (cxOf (L2.CX P w) P w K mg base ["value"] "is_integer" (defScope st_is_integer) (ad 7) cdv A outer s H E).A (cxOf (L2.CX P w) P w K mg base ["value"] "is_integer" (defScope st_is_integer) (ad 7) cdv A outer s H E).env (cxOf (L2.CX P w) P w K mg base ["value"] "is_integer" (defScope st_is_integer) (ad 7) cdv A outer s H E).xe := passes_of rfl
  exact (hOne (hRet (dAnd (dIsi Ty.int (by rfl) T.z_isinstance (by rfl) T.z_int (by decide +kernel) (dVar (pv 0))) (dOne (dNot (dIsi Ty.bool (by rfl) T.z_isinstance (by rfl) T.z_bool (by decide +kernel) (dVar (pv 0))))))))
theorem ok_fits_fraction (T : Txt K mg ad fd) (F : Fun K "fits_fraction" "fits_fraction" st_fits_fraction (ad 8) (fd 8)) (G_is_tuple_of : FnOk P w K mg base (L2.CX P w) 1 (ad 2) (fd 2) ["value", "low", "high"] (SpD K cl 3 g_is_tuple_of)) (G_is_integer : FnOk P w K mg base (L2.CX P w) 1 (ad 7) (fd 7) ["value"] (SpD K cl 1 g_is_integer)) (G_divisor_of : FnOk P w K mg base (L2.CX P w) 1 (ad 3) (fd 3) ["one", "other"] (SpD K cl 2 g_divisor_of)) : FnOk P w K mg base (L2.CX P w) 2 (ad 8) (fd 8) ["value"] (SpD K cl 1 g_fits_fraction) := show FnOk P w K mg base (L2.CX P w) 2 (ad 8) (fd 8) ["value"] (SpD K cl 1 (bodyD F_fits_fraction 2)) from okD2 (k := 1) (N := ["value", "number"]) (ps := ["value"]) F_fits_fraction F sc_fits_fraction rfl rfl (by decide) fun cdv A outer s H E hr => by
  have nd := sc_fits_fraction.nd
  have hu := hu_of hr
  have hu64 := hr.units
  have tk : Takes (cxOf (L2.CX P w) P w K mg base ["value", "number"] "fits_fraction" (defScope st_fits_fraction) (ad 8) cdv A outer s H E) (WE0 E) := takes_of rfl rfl rfl rfl
  have ps : PassesOwn (model P w) (cxOf (L2.CX P w) P w K mg base ["value", "number"] "fits_fraction" (defScope st_fits_fraction) (ad 8) cdv A outer s H E).A (cxOf (L2.CX P w) P w K mg base ["value", "number"] "fits_fraction" (defScope st_fits_fraction) (ad 8) cdv A outer s H E).env (cxOf (L2.CX P w) P w K mg base ["value", "number"] "fits_fraction" (defScope st_fits_fraction) (ad 8) cdv A outer s H E).xe := passes_of rfl
  exact (hCons (hIf (bPW (wOr (bNotE (bValE (dCall G_is_tuple_of (hr.mono (by omega)) (by rfl) T.m_is_tuple_of T.k_is_tuple_of T.b_is_tuple_of tk (aCons (dVar (pv 0)) (aCons dInt (aCons dInt aNil))) (lCons_len (lCons_len (lCons_len lNil_len)))))) (wOr1 (bNotE (bValE (dCb (cr_all rfl) c_all (by rfl) T.z_all (by decide +kernel) (aCons (dFE (dLc (pe_lc (own := [("number", 1)]) rfl nd (jSeq (dVar (pv 0))) (blkOk_by (N := ["value", "number"]) (sc := defScope st_fits_fraction) (by decide +kernel)) (fun _ _ _ _ _ => (kN (pg_name (i := 1) nd rfl (.inl rfl)))) (fun _ _ _ _ _ => bNilT) (fun _ _ _ _ _ => (dAnd (dCall G_is_integer (hr.mono (by omega)) (by rfl) T.m_is_integer T.k_is_integer T.b_is_integer takes0 (aCons (dVar (pv 1)) aNil) (lCons_len lNil_len)) (dOne (dChain op_lt o_cmpI op_lt o_cmpI (dUn un_neg o_neg (dC (pe_glob (v := (.int 1000000000000000000000000000000000000000000000000000000000000)) (by rfl) T.c_GREAT.choose_spec ⟨_, rfl⟩) fun _ _ => .int _)) (dVar (pv 1)) (dC (pe_glob (v := (.int 1000000000000000000000000000000000000000000000000000000000000)) (by rfl) T.c_GREAT.choose_spec ⟨_, rfl⟩) fun _ _ => .int _)))))))) aNil))))))) (hOne (hRet dBl)) hNil)
    (hOne (hRet (dAnd (dCmp op_ge o_cmpI (dIx (dVar (pv 0)) dInt (fun _ _ => rfl)) dInt (nomark _)) (dOne (dCmp (op_eqD hu64) o_eq (dCall G_divisor_of (hr.mono (by omega)) (by rfl) T.m_divisor_of T.k_divisor_of T.b_divisor_of tk (aCons (dIx (dVar (pv 0)) dInt (fun _ _ => rfl)) (aCons (dIx (dVar (pv 0)) dInt (fun _ _ => rfl)) aNil)) (lCons_len (lCons_len lNil_len))) dInt (nomark _)))))))
theorem ok_fits_chance (T : Txt K mg ad fd) (F : Fun K "fits_chance" "fits_chance" st_fits_chance (ad 9) (fd 9)) (G_fits_fraction : FnOk P w K mg base (L2.CX P w) 2 (ad 8) (fd 8) ["value"] (SpD K cl 1 g_fits_fraction)) : FnOk P w K mg base (L2.CX P w) 3 (ad 9) (fd 9) ["value"] (SpD K cl 1 g_fits_chance) := show FnOk P w K mg base (L2.CX P w) 3 (ad 9) (fd 9) ["value"] (SpD K cl 1 (bodyD F_fits_chance 1)) from okD2 (k := 2) (N := ["value"]) (ps := ["value"]) F_fits_chance F sc_fits_chance rfl rfl (by decide) fun cdv A outer s H E hr => by
  have nd := sc_fits_chance.nd
  have hu := hu_of hr
  have hu64 := hr.units
  have tk : Takes (cxOf (L2.CX P w) P w K mg base ["value"] "fits_chance" (defScope st_fits_chance) (ad 9) cdv A outer s H E) (WE0 E) := takes_of rfl rfl rfl rfl
  have ps : PassesOwn (model P w) (cxOf (L2.CX P w) P w K mg base ["value"] "fits_chance" (defScope st_fits_chance) (ad 9) cdv A outer s H E).A (cxOf (L2.CX P w) P w K mg base ["value"] "fits_chance" (defScope st_fits_chance) (ad 9) cdv A outer s H E).env (cxOf (L2.CX P w) P w K mg base ["value"] "fits_chance" (defScope st_fits_chance) (ad 9) cdv A outer s H E).xe := passes_of rfl
  exact (hOne (hRet (dAnd (dCall G_fits_fraction (hr.mono (by omega)) (by rfl) T.m_fits_fraction T.k_fits_fraction T.b_fits_fraction tk (aCons (dVar (pv 0)) aNil) (lCons_len lNil_len)) (dOne (dChain op_le o_cmpI op_le o_cmpI dInt (dIx (dVar (pv 0)) dInt (fun _ _ => rfl)) (dIx (dVar (pv 0)) dInt (fun _ _ => rfl)))))))
theorem ok_is_whole (T : Txt K mg ad fd) (F : Fun K "is_whole" "is_whole" st_is_whole (ad 10) (fd 10)) (G_is_integer : FnOk P w K mg base (L2.CX P w) 1 (ad 7) (fd 7) ["value"] (SpD K cl 1 g_is_integer)) : FnOk P w K mg base (L2.CX P w) 2 (ad 10) (fd 10) ["value", "low", "high"] (SpD K cl 3 g_is_whole) := show FnOk P w K mg base (L2.CX P w) 2 (ad 10) (fd 10) ["value", "low", "high"] (SpD K cl 3 (bodyD F_is_whole 3)) from okD2 (k := 1) (N := ["value", "low", "high"]) (ps := ["value", "low", "high"]) F_is_whole F sc_is_whole rfl rfl (by decide) fun cdv A outer s H E hr => by
  have nd := sc_is_whole.nd
  have hu := hu_of hr
  have hu64 := hr.units
  have tk : Takes (cxOf (L2.CX P w) P w K mg base ["value", "low", "high"] "is_whole" (defScope st_is_whole) (ad 10) cdv A outer s H E) (WE0 E) := takes_of rfl rfl rfl rfl
  have ps : PassesOwn (model P w) (cxOf (L2.CX P w) P w K mg base ["value", "low", "high"] "is_whole" (defScope st_is_whole) (ad 10) cdv A outer s H E).A (cxOf (L2.CX P w) P w K mg base ["value", "low", "high"] "is_whole" (defScope st_is_whole) (ad 10) cdv A outer s H E).env (cxOf (L2.CX P w) P w K mg base ["value", "low", "high"] "is_whole" (defScope st_is_whole) (ad 10) cdv A outer s H E).xe := passes_of rfl
  exact (hOne (hRet (dAnd (dCall G_is_integer (hr.mono (by omega)) (by rfl) T.m_is_integer T.k_is_integer T.b_is_integer tk (aCons (dVar (pv 0)) aNil) (lCons_len lNil_len)) (dOne (dChain op_le o_cmpI op_le o_cmpI (dVar (pv 1)) (dVar (pv 0)) (dVar (pv 2)))))))
theorem ok_is_share (T : Txt K mg ad fd) (F : Fun K "is_share" "is_share" st_is_share (ad 11) (fd 11)) (G_is_tuple_of : FnOk P w K mg base (L2.CX P w) 1 (ad 2) (fd 2) ["value", "low", "high"] (SpD K cl 3 g_is_tuple_of)) (G_is_whole : FnOk P w K mg base (L2.CX P w) 2 (ad 10) (fd 10) ["value", "low", "high"] (SpD K cl 3 g_is_whole)) (G_fits_chance : FnOk P w K mg base (L2.CX P w) 3 (ad 9) (fd 9) ["value"] (SpD K cl 1 g_fits_chance)) : FnOk P w K mg base (L2.CX P w) 4 (ad 11) (fd 11) ["value"] (SpD K cl 1 g_is_share) := show FnOk P w K mg base (L2.CX P w) 4 (ad 11) (fd 11) ["value"] (SpD K cl 1 (bodyD F_is_share 1)) from okD2 (k := 3) (N := ["value"]) (ps := ["value"]) F_is_share F sc_is_share rfl rfl (by decide) fun cdv A outer s H E hr => by
  have nd := sc_is_share.nd
  have hu := hu_of hr
  have hu64 := hr.units
  have tk : Takes (cxOf (L2.CX P w) P w K mg base ["value"] "is_share" (defScope st_is_share) (ad 11) cdv A outer s H E) (WE0 E) := takes_of rfl rfl rfl rfl
  have ps : PassesOwn (model P w) (cxOf (L2.CX P w) P w K mg base ["value"] "is_share" (defScope st_is_share) (ad 11) cdv A outer s H E).A (cxOf (L2.CX P w) P w K mg base ["value"] "is_share" (defScope st_is_share) (ad 11) cdv A outer s H E).env (cxOf (L2.CX P w) P w K mg base ["value"] "is_share" (defScope st_is_share) (ad 11) cdv A outer s H E).xe := passes_of rfl
  exact (hCons (hIf (bPW (wOr (bNotE (bValE (dCall G_is_tuple_of (hr.mono (by omega)) (by rfl) T.m_is_tuple_of T.k_is_tuple_of T.b_is_tuple_of tk (aCons (dVar (pv 0)) (aCons dInt (aCons dInt aNil))) (lCons_len (lCons_len (lCons_len lNil_len)))))) (wOr1 (bNotE (bValE (dCall G_is_whole (hr.mono (by omega)) (by rfl) T.m_is_whole T.k_is_whole T.b_is_whole tk (aCons (dIx (dVar (pv 0)) dInt (fun _ _ => rfl)) (aCons (dUn un_neg o_neg (dC (pe_glob (v := (.int 1000000)) (by rfl) T.c_FARTHEST.choose_spec ⟨_, rfl⟩) fun _ _ => .int _)) (aCons (dC (pe_glob (v := (.int 1000000)) (by rfl) T.c_FARTHEST.choose_spec ⟨_, rfl⟩) fun _ _ => .int _) aNil))) (lCons_len (lCons_len (lCons_len lNil_len))))))))) (hOne (hRet dBl)) hNil)
    (hOne (hRet (dAnd (dCall G_fits_chance (hr.mono (by omega)) (by rfl) T.m_fits_chance T.k_fits_chance T.b_fits_chance tk (aCons (dIx (dVar (pv 0)) dInt (fun _ _ => rfl)) aNil) (lCons_len lNil_len)) (dOne (dCmp op_gt o_cmpI (dIx (dIx (dVar (pv 0)) dInt (fun _ _ => rfl)) dInt (fun _ _ => rfl)) dInt (nomark _)))))))
theorem ok_fits_chances (T : Txt K mg ad fd) (F : Fun K "fits_chances" "fits_chances" st_fits_chances (ad 12) (fd 12)) (G_is_tuple_of : FnOk P w K mg base (L2.CX P w) 1 (ad 2) (fd 2) ["value", "low", "high"] (SpD K cl 3 g_is_tuple_of)) (G_is_share : FnOk P w K mg base (L2.CX P w) 4 (ad 11) (fd 11) ["value"] (SpD K cl 1 g_is_share)) (G_is_rising : FnOk P w K mg base (L2.CX P w) 1 (ad 1) (fd 1) ["things"] (SpD K cl 1 g_is_rising)) (G_sum_over : FnOk P w K mg base (L2.CX P w) 4 (ad 6) (fd 6) ["fractions"] (SpD K cl 1 g_sum_over)) : FnOk P w K mg base (L2.CX P w) 5 (ad 12) (fd 12) ["value"] (SpD K cl 1 g_fits_chances) := show FnOk P w K mg base (L2.CX P w) 5 (ad 12) (fd 12) ["value"] (SpD K cl 1 (bodyD F_fits_chances 2)) from okD2 (k := 4) (N := ["value", "share"]) (ps := ["value"]) F_fits_chances F sc_fits_chances rfl rfl (by decide) fun cdv A outer s H E hr => by
  have nd := sc_fits_chances.nd
  have hu := hu_of hr
  have hu64 := hr.units
  have tk : Takes (cxOf (L2.CX P w) P w K mg base ["value", "share"] "fits_chances" (defScope st_fits_chances) (ad 12) cdv A outer s H E) (WE0 E) := takes_of rfl rfl rfl rfl
  have ps : PassesOwn (model P w) (cxOf (L2.CX P w) P w K mg base ["value", "share"] "fits_chances" (defScope st_fits_chances) (ad 12) cdv A outer s H E).A (cxOf (L2.CX P w) P w K mg base ["value", "share"] "fits_chances" (defScope st_fits_chances) (ad 12) cdv A outer s H E).env (cxOf (L2.CX P w) P w K mg base ["value", "share"] "fits_chances" (defScope st_fits_chances) (ad 12) cdv A outer s H E).xe := passes_of rfl
  exact (hCons (hIf (bPW (wOr (bNotE (bValE (dCall G_is_tuple_of (hr.mono (by omega)) (by rfl) T.m_is_tuple_of T.k_is_tuple_of T.b_is_tuple_of tk (aCons (dVar (pv 0)) (aCons dInt (aCons (dC (pe_glob (v := (.int 40)) (by rfl) T.c_MOST_VALUES.choose_spec ⟨_, rfl⟩) fun _ _ => .int _) aNil))) (lCons_len (lCons_len (lCons_len lNil_len)))))) (wOr1 (bNotE (bValE (dCb (cr_all rfl) c_all (by rfl) T.z_all (by decide +kernel) (aCons (dFE (dLc (pe_lc (own := [("share", 1)]) rfl nd (jSeq (dVar (pv 0))) (blkOk_by (N := ["value", "share"]) (sc := defScope st_fits_chances) (by decide +kernel)) (fun _ _ _ _ _ => (kN (pg_name (i := 1) nd rfl (.inl rfl)))) (fun _ _ _ _ _ => bNilT) (fun _ _ _ _ _ => (dCall G_is_share (hr.mono (by omega)) (by rfl) T.m_is_share T.k_is_share T.b_is_share takes0 (aCons (dVar (pv 1)) aNil) (lCons_len lNil_len)))))) aNil))))))) (hOne (hRet dBl)) hNil)
    (hOne (hRet (dAnd (dCall G_is_rising (hr.mono (by omega)) (by rfl) T.m_is_rising T.k_is_rising T.b_is_rising tk (aCons (dFE (dLc (pe_lc (own := [("share", 1)]) rfl nd (jSeq (dVar (pv 0))) (blkOk_by (N := ["value", "share"]) (sc := defScope st_fits_chances) (by decide +kernel)) (fun _ _ _ _ _ => (kN (pg_name (i := 1) nd rfl (.inl rfl)))) (fun _ _ _ _ _ => bNilT) (fun _ _ _ _ _ => (dIx (dVar (pv 1)) dInt (fun _ _ => rfl)))))) aNil) (lCons_len lNil_len)) (dOne (dCmp (op_eqD hu64) o_eq (dCall G_sum_over (hr.mono (by omega)) (by rfl) T.m_sum_over T.k_sum_over T.b_sum_over tk (aCons (dFE (dLc (pe_lc (own := [("share", 1)]) rfl nd (jSeq (dVar (pv 0))) (blkOk_by (N := ["value", "share"]) (sc := defScope st_fits_chances) (by decide +kernel)) (fun _ _ _ _ _ => (kN (pg_name (i := 1) nd rfl (.inl rfl)))) (fun _ _ _ _ _ => bNilT) (fun _ _ _ _ _ => (dIx (dVar (pv 1)) dInt (fun _ _ => rfl)))))) aNil) (lCons_len lNil_len)) (dC (pe_glob (v := .ref _) (by rfl) T.c_ONE.choose_spec.1 rfl) T.c_ONE.choose_spec.2) (nomark _)))))))
theorem ok_need_chances (T : Txt K mg ad fd) (F : Fun K "need_chances" "need_chances" st_need_chances (ad 13) (fd 13)) (G_fits_chances : FnOk P w K mg base (L2.CX P w) 5 (ad 12) (fd 12) ["value"] (SpD K cl 1 g_fits_chances)) : FnOk P w K mg base (L2.CX P w) 6 (ad 13) (fd 13) ["value"] (SpD K cl 1 g_need_chances) := show FnOk P w K mg base (L2.CX P w) 6 (ad 13) (fd 13) ["value"] (SpD K cl 1 (bodyD F_need_chances 1)) from okD2 (k := 5) (N := ["value"]) (ps := ["value"]) F_need_chances F sc_need_chances rfl rfl (by decide) fun cdv A outer s H E hr => by
  have nd := sc_need_chances.nd
  have hu := hu_of hr
  have hu64 := hr.units
  have tk : Takes (cxOf (L2.CX P w) P w K mg base ["value"] "need_chances" (defScope st_need_chances) (ad 13) cdv A outer s H E) (WE0 E) := takes_of rfl rfl rfl rfl
  have ps : PassesOwn (model P w) (cxOf (L2.CX P w) P w K mg base ["value"] "need_chances" (defScope st_need_chances) (ad 13) cdv A outer s H E).A (cxOf (L2.CX P w) P w K mg base ["value"] "need_chances" (defScope st_need_chances) (ad 13) cdv A outer s H E).env (cxOf (L2.CX P w) P w K mg base ["value"] "need_chances" (defScope st_need_chances) (ad 13) cdv A outer s H E).xe := passes_of rfl
  exact (hOne (hIf (bNotE (bValE (dCall G_fits_chances (hr.mono (by omega)) (by rfl) T.m_fits_chances T.k_fits_chances T.b_fits_chances tk (aCons (dVar (pv 0)) aNil) (lCons_len lNil_len)))) (hOne hFail) hNil))
theorem ok_mean_in (T : Txt K mg ad fd) (F : Fun K "mean_in" "mean_in" st_mean_in (ad 14) (fd 14)) (G_lowest : FnOk P w K mg base (L2.CX P w) 2 (ad 4) (fd 4) ["above", "below"] (SpD K cl 2 g_lowest)) (G_sum_over : FnOk P w K mg base (L2.CX P w) 4 (ad 6) (fd 6) ["fractions"] (SpD K cl 1 g_sum_over)) : FnOk P w K mg base (L2.CX P w) 5 (ad 14) (fd 14) ["chances"] (SpD K cl 1 g_mean_in) := show FnOk P w K mg base (L2.CX P w) 5 (ad 14) (fd 14) ["chances"] (SpD K cl 1 (bodyD F_mean_in 3)) from okD2 (k := 4) (N := ["chances", "value", "chance"]) (ps := ["chances"]) F_mean_in F sc_mean_in rfl rfl (by decide) fun cdv A outer s H E hr => by
  have nd := sc_mean_in.nd
  have hu := hu_of hr
  have hu64 := hr.units
  have tk : Takes (cxOf (L2.CX P w) P w K mg base ["chances", "value", "chance"] "mean_in" (defScope st_mean_in) (ad 14) cdv A outer s H E) (WE0 E) := takes_of rfl rfl rfl rfl
  have ps : PassesOwn (model P w) (cxOf (L2.CX P w) P w K mg base ["chances", "value", "chance"] "mean_in" (defScope st_mean_in) (ad 14) cdv A outer s H E).A (cxOf (L2.CX P w) P w K mg base ["chances", "value", "chance"] "mean_in" (defScope st_mean_in) (ad 14) cdv A outer s H E).env (cxOf (L2.CX P w) P w K mg base ["chances", "value", "chance"] "mean_in" (defScope st_mean_in) (ad 14) cdv A outer s H E).xe := passes_of rfl
  exact (hOne (hRet (dCall G_sum_over (hr.mono (by omega)) (by rfl) T.m_sum_over T.k_sum_over T.b_sum_over tk (aCons (dFE (dLc (pe_lc (own := [("value", 1), ("chance", 2)]) rfl nd (jSeq (dVar (pv 0))) (blkOk_by (N := ["chances", "value", "chance"]) (sc := defScope st_mean_in) (by decide +kernel)) (fun _ _ _ _ _ => (kT (pg_tup rfl (kC (kN (pg_name (i := 1) nd rfl (.inl rfl))) (kC (kN (pg_name (i := 2) nd rfl (.inl rfl))) kE (pgs_cons (kN (pg_name (i := 2) nd rfl (.inl rfl))) kE)) (pgs_cons (kN (pg_name (i := 1) nd rfl (.inl rfl))) (kC (kN (pg_name (i := 2) nd rfl (.inl rfl))) kE (pgs_cons (kN (pg_name (i := 2) nd rfl (.inl rfl))) kE))))) (gs_len (gs_len gE_len)))) (fun _ _ _ _ _ => bNilT) (fun _ _ _ _ _ => (dCall G_lowest (hr.mono (by omega)) (by rfl) T.m_lowest T.k_lowest T.b_lowest takes0 (aCons (dBin op_mulD o_mul (dVar (pv 1)) (dIx (dVar (pv 2)) dInt (fun _ _ => rfl))) (aCons (dIx (dVar (pv 2)) dInt (fun _ _ => rfl)) aNil)) (lCons_len (lCons_len lNil_len))))))) aNil) (lCons_len lNil_len))))
theorem ok_mean_of (T : Txt K mg ad fd) (F : Fun K "mean_of" "mean_of" st_mean_of (ad 15) (fd 15)) (G_need_chances : FnOk P w K mg base (L2.CX P w) 6 (ad 13) (fd 13) ["value"] (SpD K cl 1 g_need_chances)) (G_mean_in : FnOk P w K mg base (L2.CX P w) 5 (ad 14) (fd 14) ["chances"] (SpD K cl 1 g_mean_in)) : FnOk P w K mg base (L2.CX P w) 7 (ad 15) (fd 15) ["chances"] (SpD K cl 1 g_mean_of) := show FnOk P w K mg base (L2.CX P w) 7 (ad 15) (fd 15) ["chances"] (SpD K cl 1 (bodyD F_mean_of 1)) from okD2 (k := 6) (N := ["chances"]) (ps := ["chances"]) F_mean_of F sc_mean_of rfl rfl (by decide) fun cdv A outer s H E hr => by
  have nd := sc_mean_of.nd
  have hu := hu_of hr
  have hu64 := hr.units
  have tk : Takes (cxOf (L2.CX P w) P w K mg base ["chances"] "mean_of" (defScope st_mean_of) (ad 15) cdv A outer s H E) (WE0 E) := takes_of rfl rfl rfl rfl
  have ps : PassesOwn (model P w) (cxOf (L2.CX P w) P w K mg base ["chances"] "mean_of" (defScope st_mean_of) (ad 15) cdv A outer s H E).A (cxOf (L2.CX P w) P w K mg base ["chances"] "mean_of" (defScope st_mean_of) (ad 15) cdv A outer s H E).env (cxOf (L2.CX P w) P w K mg base ["chances"] "mean_of" (defScope st_mean_of) (ad 15) cdv A outer s H E).xe := passes_of rfl
  exact (hCons (hExpr (dCall G_need_chances (hr.mono (by omega)) (by rfl) T.m_need_chances T.k_need_chances T.b_need_chances tk (aCons (dVar (pv 0)) aNil) (lCons_len lNil_len)))
    (hOne (hRet (dCall G_mean_in (hr.mono (by omega)) (by rfl) T.m_mean_in T.k_mean_in T.b_mean_in tk (aCons (dVar (pv 0)) aNil) (lCons_len lNil_len)))))
theorem ok__law_sort (T : Txt K mg ad fd) (F : Fun K "_law_sort" "_law_sort" st__law_sort (ad 16) (fd 16)) : FnOk P w K mg base (L2.CX P w) 1 (ad 16) (fd 16) ["value"] (SpD K cl 1 g__law_sort) := show FnOk P w K mg base (L2.CX P w) 1 (ad 16) (fd 16) ["value"] (SpD K cl 1 (bodyD F__law_sort 1)) from okD2 (k := 0) (N := ["value"]) (ps := ["value"]) F__law_sort F sc__law_sort rfl rfl (by decide) fun cdv A outer s H E hr => by
  have nd := sc__law_sort.nd
  have hu := hu_of hr
  have hu64 := hr.units
  have tk : Takes (cxOf (L2.CX P w) P w K mg base ["value"] "_law_sort" (defScope st__law_sort) (ad 16) cdv A outer s H E) (WE0 E) := takes_of rfl rfl rfl rfl
  have ps : PassesOwn (model P w) (cxOf (L2.CX P w) P w K mg base ["value"] "_law_sort" (defScope st__law_sort) (ad 16) cdv A outer s H E).A (cxOf (L2.CX P w) P w K mg base ["value"] "_law_sort" (defScope st__law_sort) (ad 16) cdv A outer s H E).env (cxOf (L2.CX P w) P w K mg base ["value"] "_law_sort" (defScope st__law_sort) (ad 16) cdv A outer s H E).xe := passes_of rfl
  exact (hCons (hIf (bPW (wOr (bCmp op_isN o_isN (dVar (pv 0)) dNon (nomark _)) (wOr1 (bValE (dIsi Ty.bool (by rfl) T.z_isinstance (by rfl) T.z_bool (by decide +kernel) (dVar (pv 0))))))) (hOne (hRet (dIf (bCmp op_isN o_isN (dVar (pv 0)) dNon (nomark _)) dInt dInt))) hNil)
    (hCons (hIf (bPW (wOr (bValE (dIsi Ty.int (by rfl) T.z_isinstance (by rfl) T.z_int (by decide +kernel) (dVar (pv 0)))) (wOr1 (bValE (dIsi Ty.str (by rfl) T.z_isinstance (by rfl) T.z_str (by decide +kernel) (dVar (pv 0))))))) (hOne (hRet (dIf (bValE (dIsi Ty.int (by rfl) T.z_isinstance (by rfl) T.z_int (by decide +kernel) (dVar (pv 0)))) dInt dInt))) hNil)
    (hOne (hRet (dIf (bValE (dIsi Ty.tuple (by rfl) T.z_isinstance (by rfl) T.z_tuple (by decide +kernel) (dVar (pv 0)))) dInt (dIf (bValE (dIsi Ty.list (by rfl) T.z_isinstance (by rfl) T.z_list (by decide +kernel) (dVar (pv 0)))) dInt dInt))))))
theorem ok__law_like (T : Txt K mg ad fd) (F : Fun K "_law_like" "_law_like" st__law_like (ad 17) (fd 17)) (G__law_sort : FnOk P w K mg base (L2.CX P w) 1 (ad 16) (fd 16) ["value"] (SpD K cl 1 g__law_sort)) : ∀ n : Nat, FnOk P w K mg base (L2.CX P w) (n + 2) (ad 17) (fd 17) ["one", "other"] (SpD K cl 2 (g__law_like n))
  | 0 => (ok02 (k := 1) F sc__law_like rfl).mono (by omega)
  | n + 1 => by
    have G__law_like := ok__law_like T F G__law_sort n
    refine FnOk.mono (j := n + 2 + 1) (show FnOk P w K mg base (L2.CX P w) (n + 2 + 1) (ad 17) (fd 17) ["one", "other"] (SpD K cl 2 (bodyD (F__law_like (g__law_like n)) 5)) from okD2 (k := n + 2) (N := ["one", "other", "sort", "first", "second"]) (ps := ["one", "other"]) (F__law_like (g__law_like n)) F sc__law_like rfl rfl (by decide) fun cdv A outer s H E hr => ?_) (by omega)
    have nd := sc__law_like.nd
    have hu := hu_of hr
    have hu64 := hr.units
    have tk : Takes (cxOf (L2.CX P w) P w K mg base ["one", "other", "sort", "first", "second"] "_law_like" (defScope st__law_like) (ad 17) cdv A outer s H E) (WE0 E) := takes_of rfl rfl rfl rfl
    have ps : PassesOwn (model P w) (cxOf (L2.CX P w) P w K mg base ["one", "other", "sort", "first", "second"] "_law_like" (defScope st__law_like) (ad 17) cdv A outer s H E).A (cxOf (L2.CX P w) P w K mg base ["one", "other", "sort", "first", "second"] "_law_like" (defScope st__law_like) (ad 17) cdv A outer s H E).env (cxOf (L2.CX P w) P w K mg base ["one", "other", "sort", "first", "second"] "_law_like" (defScope st__law_like) (ad 17) cdv A outer s H E).xe := passes_of rfl
    exact (hCons (hAsg (ps_set (i := 2) nd rfl (.inl rfl) (dCall G__law_sort (hr.mono (by omega)) (by rfl) T.m__law_sort T.k__law_sort T.b__law_sort tk (aCons (dVar (pv 1)) aNil) (lCons_len lNil_len))))
    (hCons (hIf (bPW (wOr (bCmp (op_neD hu64) o_ne (dCall G__law_sort (hr.mono (by omega)) (by rfl) T.m__law_sort T.k__law_sort T.b__law_sort tk (aCons (dVar (pv 0)) aNil) (lCons_len lNil_len)) (dVar (pv 2)) (nomark _)) (wOr1 (bCmp (op_eqD hu64) o_eq (dVar (pv 2)) dInt (nomark _))))) (hOne (hRet dBl)) hNil)
    (hCons (hIf (bCmp op_in_seq o_inSq (dVar (pv 2)) (dTup (aCons dInt (aCons dInt aNil))) (by with_unfolding_all rfl)) (hOne (hRet (dAnd (dCmp (op_eqD hu64) o_eq (dCb call_len c_len (by rfl) T.z_len (by decide +kernel) (aCons (dVar (pv 0)) aNil)) (dCb call_len c_len (by rfl) T.z_len (by decide +kernel) (aCons (dVar (pv 1)) aNil)) (nomark _)) (dOne (dCmp (op_eqD hu64) o_eq (dFE (dLc (pe_lc (own := [("first", 3), ("second", 4)]) rfl nd (jZipA (pi_zipK (by rfl) T.z_zip (aCons (dVar (pv 0)) (aCons (dVar (pv 1)) aNil)))) (blkOk_by (N := ["one", "other", "sort", "first", "second"]) (sc := defScope st__law_like) (by decide +kernel)) (fun _ _ _ _ _ => (kT (pg_tup rfl (kC (kN (pg_name (i := 3) nd rfl (.inl rfl))) (kC (kN (pg_name (i := 4) nd rfl (.inl rfl))) kE (pgs_cons (kN (pg_name (i := 4) nd rfl (.inl rfl))) kE)) (pgs_cons (kN (pg_name (i := 3) nd rfl (.inl rfl))) (kC (kN (pg_name (i := 4) nd rfl (.inl rfl))) kE (pgs_cons (kN (pg_name (i := 4) nd rfl (.inl rfl))) kE))))) (gs_len (gs_len gE_len)))) (fun _ _ _ _ _ => (pts_one (bNotE (bValE (dCall G__law_like (hr.mono (by omega)) (by rfl) T.m__law_like T.k__law_like T.b__law_like takes0 (aCons (dVar (pv 3)) (aCons (dVar (pv 4)) aNil)) (lCons_len (lCons_len lNil_len))))))) (fun _ _ _ _ _ => dInt)))) (dFE (dLst aNil)) (nomark _)))))) hNil)
    (hOne (hRet (dCmp (op_eqD hu64) o_eq (dVar (pv 0)) (dVar (pv 1)) (nomark _)))))))
theorem ok_need_both (T : Txt K mg ad fd) (F : Fun K "need_both" "need_both" st_need_both (ad 18) (fd 18)) (G_need_chances : FnOk P w K mg base (L2.CX P w) 6 (ad 13) (fd 13) ["value"] (SpD K cl 1 g_need_chances)) : FnOk P w K mg base (L2.CX P w) 7 (ad 18) (fd 18) ["first", "second"] (SpD K cl 2 g_need_both) := show FnOk P w K mg base (L2.CX P w) 7 (ad 18) (fd 18) ["first", "second"] (SpD K cl 2 (bodyD F_need_both 2)) from okD2 (k := 6) (N := ["first", "second"]) (ps := ["first", "second"]) F_need_both F sc_need_both rfl rfl (by decide) fun cdv A outer s H E hr => by
  have nd := sc_need_both.nd
  have hu := hu_of hr
  have hu64 := hr.units
  have tk : Takes (cxOf (L2.CX P w) P w K mg base ["first", "second"] "need_both" (defScope st_need_both) (ad 18) cdv A outer s H E) (WE0 E) := takes_of rfl rfl rfl rfl
  have ps : PassesOwn (model P w) (cxOf (L2.CX P w) P w K mg base ["first", "second"] "need_both" (defScope st_need_both) (ad 18) cdv A outer s H E).A (cxOf (L2.CX P w) P w K mg base ["first", "second"] "need_both" (defScope st_need_both) (ad 18) cdv A outer s H E).env (cxOf (L2.CX P w) P w K mg base ["first", "second"] "need_both" (defScope st_need_both) (ad 18) cdv A outer s H E).xe := passes_of rfl
  exact (hCons (hExpr (dCall G_need_chances (hr.mono (by omega)) (by rfl) T.m_need_chances T.k_need_chances T.b_need_chances tk (aCons (dVar (pv 0)) aNil) (lCons_len lNil_len)))
    (hOne (hExpr (dCall G_need_chances (hr.mono (by omega)) (by rfl) T.m_need_chances T.k_need_chances T.b_need_chances tk (aCons (dVar (pv 1)) aNil) (lCons_len lNil_len)))))
theorem ok_part_by (T : Txt K mg ad fd) (F : Fun K "part_by" "part_by" st_part_by (ad 19) (fd 19)) (G_lowest : FnOk P w K mg base (L2.CX P w) 2 (ad 4) (fd 4) ["above", "below"] (SpD K cl 2 g_lowest)) : FnOk P w K mg base (L2.CX P w) 3 (ad 19) (fd 19) ["one", "other"] (SpD K cl 2 g_part_by) := show FnOk P w K mg base (L2.CX P w) 3 (ad 19) (fd 19) ["one", "other"] (SpD K cl 2 (bodyD F_part_by 2)) from okD2 (k := 2) (N := ["one", "other"]) (ps := ["one", "other"]) F_part_by F sc_part_by rfl rfl (by decide) fun cdv A outer s H E hr => by
  have nd := sc_part_by.nd
  have hu := hu_of hr
  have hu64 := hr.units
  have tk : Takes (cxOf (L2.CX P w) P w K mg base ["one", "other"] "part_by" (defScope st_part_by) (ad 19) cdv A outer s H E) (WE0 E) := takes_of rfl rfl rfl rfl
  have ps : PassesOwn (model P w) (cxOf (L2.CX P w) P w K mg base ["one", "other"] "part_by" (defScope st_part_by) (ad 19) cdv A outer s H E).A (cxOf (L2.CX P w) P w K mg base ["one", "other"] "part_by" (defScope st_part_by) (ad 19) cdv A outer s H E).env (cxOf (L2.CX P w) P w K mg base ["one", "other"] "part_by" (defScope st_part_by) (ad 19) cdv A outer s H E).xe := passes_of rfl
  exact (hOne (hRet (dCall G_lowest (hr.mono (by omega)) (by rfl) T.m_lowest T.k_lowest T.b_lowest tk (aCons (dBin op_mulD o_mul (dIx (dVar (pv 0)) dInt (fun _ _ => rfl)) (dIx (dVar (pv 1)) dInt (fun _ _ => rfl))) (aCons (dBin op_mulD o_mul (dIx (dVar (pv 0)) dInt (fun _ _ => rfl)) (dIx (dVar (pv 1)) dInt (fun _ _ => rfl))) aNil)) (lCons_len (lCons_len lNil_len)))))
theorem ok_quotient_in (T : Txt K mg ad fd) (F : Fun K "quotient_in" "quotient_in" st_quotient_in (ad 20) (fd 20)) (G_part_by : FnOk P w K mg base (L2.CX P w) 3 (ad 19) (fd 19) ["one", "other"] (SpD K cl 2 g_part_by)) : FnOk P w K mg base (L2.CX P w) 4 (ad 20) (fd 20) ["one", "other"] (SpD K cl 2 g_quotient_in) := show FnOk P w K mg base (L2.CX P w) 4 (ad 20) (fd 20) ["one", "other"] (SpD K cl 2 (bodyD F_quotient_in 2)) from okD2 (k := 3) (N := ["one", "other"]) (ps := ["one", "other"]) F_quotient_in F sc_quotient_in rfl rfl (by decide) fun cdv A outer s H E hr => by
  have nd := sc_quotient_in.nd
  have hu := hu_of hr
  have hu64 := hr.units
  have tk : Takes (cxOf (L2.CX P w) P w K mg base ["one", "other"] "quotient_in" (defScope st_quotient_in) (ad 20) cdv A outer s H E) (WE0 E) := takes_of rfl rfl rfl rfl
  have ps : PassesOwn (model P w) (cxOf (L2.CX P w) P w K mg base ["one", "other"] "quotient_in" (defScope st_quotient_in) (ad 20) cdv A outer s H E).A (cxOf (L2.CX P w) P w K mg base ["one", "other"] "quotient_in" (defScope st_quotient_in) (ad 20) cdv A outer s H E).env (cxOf (L2.CX P w) P w K mg base ["one", "other"] "quotient_in" (defScope st_quotient_in) (ad 20) cdv A outer s H E).xe := passes_of rfl
  exact (hOne (hRet (dIf (bCmp (op_neD hu64) o_ne (dVar (pv 0)) (dC (pe_glob (v := .ref _) (by rfl) T.c_NONE.choose_spec.1 rfl) T.c_NONE.choose_spec.2) (nomark _)) (dCall G_part_by (hr.mono (by omega)) (by rfl) T.m_part_by T.k_part_by T.b_part_by tk (aCons (dVar (pv 1)) (aCons (dVar (pv 0)) aNil)) (lCons_len (lCons_len lNil_len))) dNon)))
theorem ok_values_in (T : Txt K mg ad fd) (F : Fun K "values_in" "values_in" st_values_in (ad 21) (fd 21)) : FnOk P w K mg base (L2.CX P w) 1 (ad 21) (fd 21) ["first", "second"] (SpD K cl 2 g_values_in) := show FnOk P w K mg base (L2.CX P w) 1 (ad 21) (fd 21) ["first", "second"] (SpD K cl 2 (bodyD F_values_in 5)) from okD2 (k := 0) (N := ["first", "second", "one", "other", "value"]) (ps := ["first", "second"]) F_values_in F sc_values_in rfl rfl (by decide) fun cdv A outer s H E hr => by
  have nd := sc_values_in.nd
  have hu := hu_of hr
  have hu64 := hr.units
  have tk : Takes (cxOf (L2.CX P w) P w K mg base ["first", "second", "one", "other", "value"] "values_in" (defScope st_values_in) (ad 21) cdv A outer s H E) (WE0 E) := takes_of rfl rfl rfl rfl
  have ps : PassesOwn (model P w) (cxOf (L2.CX P w) P w K mg base ["first", "second", "one", "other", "value"] "values_in" (defScope st_values_in) (ad 21) cdv A outer s H E).A (cxOf (L2.CX P w) P w K mg base ["first", "second", "one", "other", "value"] "values_in" (defScope st_values_in) (ad 21) cdv A outer s H E).env (cxOf (L2.CX P w) P w K mg base ["first", "second", "one", "other", "value"] "values_in" (defScope st_values_in) (ad 21) cdv A outer s H E).xe := passes_of rfl
  exact (hCons (hParT (is := [2, 3]) (ps_asg (pe_tup (jVal (dFE (dCtyF (call_dictT rfl) c_dictT (by rfl) T.z_dict (by decide +kernel) (aCons (dVar (pv 0)) aNil))) (jVal (dFE (dCtyF (call_dictT rfl) c_dictT (by rfl) T.z_dict (by decide +kernel) (aCons (dVar (pv 1)) aNil))) jNil))) (pg_tup rfl (pgs_cons (pg_name (i := 2) nd rfl (.inr rfl)) (pgs_cons (pg_name (i := 3) nd rfl (.inr rfl)) pgs_nil)))))
    (hOne (hRet (dFE (dLc (pe_lc (own := [("value", 4)]) rfl nd (jSeq (dFE (dSortSet rfl (by rfl) T.z_sorted (by decide +kernel) (by rfl) T.z_set (by decide +kernel) (aCons (dBin op_addD o_add (dFE (dCtyF (call_listD rfl) c_listK (by rfl) T.z_list (by decide +kernel) (aCons (dVar (pv 2)) aNil))) (dFE (dCtyF (call_listD rfl) c_listK (by rfl) T.z_list (by decide +kernel) (aCons (dVar (pv 3)) aNil)))) aNil)))) (blkOk_by (N := ["first", "second", "one", "other", "value"]) (sc := defScope st_values_in) (by decide +kernel)) (fun _ _ _ _ _ => (kN (pg_name (i := 4) nd rfl (.inl rfl)))) (fun _ _ _ _ _ => bNilT) (fun _ _ _ _ _ => (dTup (aCons (dVar (pv 4)) (aCons (dGet2K hu (dVar (pv 2)) (dVar (pv 4)) (dC (pe_glob (v := .ref _) (by rfl) T.c_NONE.choose_spec.1 rfl) T.c_NONE.choose_spec.2) ⟨rfl, rfl, rfl, rfl⟩) (aCons (dGet2K hu (dVar (pv 3)) (dVar (pv 4)) (dC (pe_glob (v := .ref _) (by rfl) T.c_NONE.choose_spec.1 rfl) T.c_NONE.choose_spec.2) ⟨rfl, rfl, rfl, rfl⟩) aNil)))))))))))
theorem ok_quotient_of (T : Txt K mg ad fd) (F : Fun K "quotient_of" "quotient_of" st_quotient_of (ad 22) (fd 22)) (G_need_both : FnOk P w K mg base (L2.CX P w) 7 (ad 18) (fd 18) ["first", "second"] (SpD K cl 2 g_need_both)) (G_values_in : FnOk P w K mg base (L2.CX P w) 1 (ad 21) (fd 21) ["first", "second"] (SpD K cl 2 g_values_in)) (G_is_integer : FnOk P w K mg base (L2.CX P w) 1 (ad 7) (fd 7) ["value"] (SpD K cl 1 g_is_integer)) (G_quotient_in : FnOk P w K mg base (L2.CX P w) 4 (ad 20) (fd 20) ["one", "other"] (SpD K cl 2 g_quotient_in)) : FnOk P w K mg base (L2.CX P w) 8 (ad 22) (fd 22) ["first", "second", "value"] (SpD K cl 3 g_quotient_of) := show FnOk P w K mg base (L2.CX P w) 8 (ad 22) (fd 22) ["first", "second", "value"] (SpD K cl 3 (bodyD F_quotient_of 5)) from okD2 (k := 7) (N := ["first", "second", "value", "rows", "row"]) (ps := ["first", "second", "value"]) F_quotient_of F sc_quotient_of rfl rfl (by decide) fun cdv A outer s H E hr => by
  have nd := sc_quotient_of.nd
  have hu := hu_of hr
  have hu64 := hr.units
  have tk : Takes (cxOf (L2.CX P w) P w K mg base ["first", "second", "value", "rows", "row"] "quotient_of" (defScope st_quotient_of) (ad 22) cdv A outer s H E) (WE0 E) := takes_of rfl rfl rfl rfl
  have ps : PassesOwn (model P w) (cxOf (L2.CX P w) P w K mg base ["first", "second", "value", "rows", "row"] "quotient_of" (defScope st_quotient_of) (ad 22) cdv A outer s H E).A (cxOf (L2.CX P w) P w K mg base ["first", "second", "value", "rows", "row"] "quotient_of" (defScope st_quotient_of) (ad 22) cdv A outer s H E).env (cxOf (L2.CX P w) P w K mg base ["first", "second", "value", "rows", "row"] "quotient_of" (defScope st_quotient_of) (ad 22) cdv A outer s H E).xe := passes_of rfl
  exact (hCons (hExpr (dCall G_need_both (hr.mono (by omega)) (by rfl) T.m_need_both T.k_need_both T.b_need_both tk (aCons (dVar (pv 0)) (aCons (dVar (pv 1)) aNil)) (lCons_len (lCons_len lNil_len))))
    (hCons (hAsgLcV (ps_setLc (own := [("row", 4)]) (i := 3) rfl nd rfl rfl (sw_true rfl rfl rfl rfl) (jSeq (dCall G_values_in (hr.mono (by omega)) (by rfl) T.m_values_in T.k_values_in T.b_values_in tk (aCons (dVar (pv 0)) (aCons (dVar (pv 1)) aNil)) (lCons_len (lCons_len lNil_len)))) (blkOk_by (N := ["first", "second", "value", "rows", "row"]) (sc := defScope st_quotient_of) (by decide +kernel)) (fun _ _ _ _ _ => (kN (pg_name (i := 4) nd rfl (.inl rfl)))) (fun _ _ _ _ _ => (pts_one (bPW (wAnd (bValE (dCall G_is_integer (hr.mono (by omega)) (by rfl) T.m_is_integer T.k_is_integer T.b_is_integer takes0 (aCons (dVar (pv 2)) aNil) (lCons_len lNil_len))) (wAnd1 (bCmp (op_eqD hu64) o_eq (dIx (dVar (pv 4)) dInt (fun _ _ => rfl)) (dVar (pv 2)) (nomark _))))))) (fun _ _ _ _ _ => (dVar (pv 4)))))
    (hCons (hIf (bCmp (op_eqD hu64) o_eq (dVar (pv 3)) (dFE (dLst aNil)) (nomark _)) (hOne hFail) hNil)
    (hOne (hRet (dCall G_quotient_in (hr.mono (by omega)) (by rfl) T.m_quotient_in T.k_quotient_in T.b_quotient_in tk (aCons (dIx (dIx (dVar (pv 3)) dInt (fun _ _ => rfl)) dInt (fun _ _ => rfl)) (aCons (dIx (dIx (dVar (pv 3)) dInt (fun _ _ => rfl)) dInt (fun _ _ => rfl)) aNil)) (lCons_len (lCons_len lNil_len))))))))
theorem ok_is_under (T : Txt K mg ad fd) (F : Fun K "is_under" "is_under" st_is_under (ad 23) (fd 23)) : FnOk P w K mg base (L2.CX P w) 1 (ad 23) (fd 23) ["one", "other"] (SpD K cl 2 g_is_under) := show FnOk P w K mg base (L2.CX P w) 1 (ad 23) (fd 23) ["one", "other"] (SpD K cl 2 (bodyD F_is_under 2)) from okD2 (k := 0) (N := ["one", "other"]) (ps := ["one", "other"]) F_is_under F sc_is_under rfl rfl (by decide) fun cdv A outer s H E hr => by
  have nd := sc_is_under.nd
  have hu := hu_of hr
  have hu64 := hr.units
  have tk : Takes (cxOf (L2.CX P w) P w K mg base ["one", "other"] "is_under" (defScope st_is_under) (ad 23) cdv A outer s H E) (WE0 E) := takes_of rfl rfl rfl rfl
  have ps : PassesOwn (model P w) (cxOf (L2.CX P w) P w K mg base ["one", "other"] "is_under" (defScope st_is_under) (ad 23) cdv A outer s H E).A (cxOf (L2.CX P w) P w K mg base ["one", "other"] "is_under" (defScope st_is_under) (ad 23) cdv A outer s H E).env (cxOf (L2.CX P w) P w K mg base ["one", "other"] "is_under" (defScope st_is_under) (ad 23) cdv A outer s H E).xe := passes_of rfl
  exact (hOne (hRet (dCmp op_lt o_cmpI (dBin op_mulD o_mul (dIx (dVar (pv 0)) dInt (fun _ _ => rfl)) (dIx (dVar (pv 1)) dInt (fun _ _ => rfl))) (dBin op_mulD o_mul (dIx (dVar (pv 1)) dInt (fun _ _ => rfl)) (dIx (dVar (pv 0)) dInt (fun _ _ => rfl))) (nomark _))))
theorem ok_is_lesser (T : Txt K mg ad fd) (F : Fun K "is_lesser" "is_lesser" st_is_lesser (ad 24) (fd 24)) (G_is_under : FnOk P w K mg base (L2.CX P w) 1 (ad 23) (fd 23) ["one", "other"] (SpD K cl 2 g_is_under)) : FnOk P w K mg base (L2.CX P w) 2 (ad 24) (fd 24) ["one", "other"] (SpD K cl 2 g_is_lesser) := show FnOk P w K mg base (L2.CX P w) 2 (ad 24) (fd 24) ["one", "other"] (SpD K cl 2 (bodyD F_is_lesser 2)) from okD2 (k := 1) (N := ["one", "other"]) (ps := ["one", "other"]) F_is_lesser F sc_is_lesser rfl rfl (by decide) fun cdv A outer s H E hr => by
  have nd := sc_is_lesser.nd
  have hu := hu_of hr
  have hu64 := hr.units
  have tk : Takes (cxOf (L2.CX P w) P w K mg base ["one", "other"] "is_lesser" (defScope st_is_lesser) (ad 24) cdv A outer s H E) (WE0 E) := takes_of rfl rfl rfl rfl
  have ps : PassesOwn (model P w) (cxOf (L2.CX P w) P w K mg base ["one", "other"] "is_lesser" (defScope st_is_lesser) (ad 24) cdv A outer s H E).A (cxOf (L2.CX P w) P w K mg base ["one", "other"] "is_lesser" (defScope st_is_lesser) (ad 24) cdv A outer s H E).env (cxOf (L2.CX P w) P w K mg base ["one", "other"] "is_lesser" (defScope st_is_lesser) (ad 24) cdv A outer s H E).xe := passes_of rfl
  exact (hCons (hIf (bPW (wOr (bCmp op_isN o_isN (dVar (pv 0)) dNon (nomark _)) (wOr1 (bCmp op_isN o_isN (dVar (pv 1)) dNon (nomark _))))) (hOne (hRet (dCmp op_notN o_notN (dVar (pv 0)) dNon (nomark _)))) hNil)
    (hOne (hRet (dCall G_is_under (hr.mono (by omega)) (by rfl) T.m_is_under T.k_is_under T.b_is_under tk (aCons (dVar (pv 0)) (aCons (dVar (pv 1)) aNil)) (lCons_len (lCons_len lNil_len))))))
theorem ok_are_rising (T : Txt K mg ad fd) (F : Fun K "are_rising" "are_rising" st_are_rising (ad 25) (fd 25)) (G_need_both : FnOk P w K mg base (L2.CX P w) 7 (ad 18) (fd 18) ["first", "second"] (SpD K cl 2 g_need_both)) (G_values_in : FnOk P w K mg base (L2.CX P w) 1 (ad 21) (fd 21) ["first", "second"] (SpD K cl 2 g_values_in)) (G_quotient_in : FnOk P w K mg base (L2.CX P w) 4 (ad 20) (fd 20) ["one", "other"] (SpD K cl 2 g_quotient_in)) (G_is_lesser : FnOk P w K mg base (L2.CX P w) 2 (ad 24) (fd 24) ["one", "other"] (SpD K cl 2 g_is_lesser)) : FnOk P w K mg base (L2.CX P w) 8 (ad 25) (fd 25) ["first", "second"] (SpD K cl 2 g_are_rising) := show FnOk P w K mg base (L2.CX P w) 8 (ad 25) (fd 25) ["first", "second"] (SpD K cl 2 (bodyD F_are_rising 6)) from okD2 (k := 7) (N := ["first", "second", "quotients", "value", "one", "other"]) (ps := ["first", "second"]) F_are_rising F sc_are_rising rfl rfl (by decide) fun cdv A outer s H E hr => by
  have nd := sc_are_rising.nd
  have hu := hu_of hr
  have hu64 := hr.units
  have tk : Takes (cxOf (L2.CX P w) P w K mg base ["first", "second", "quotients", "value", "one", "other"] "are_rising" (defScope st_are_rising) (ad 25) cdv A outer s H E) (WE0 E) := takes_of rfl rfl rfl rfl
  have ps : PassesOwn (model P w) (cxOf (L2.CX P w) P w K mg base ["first", "second", "quotients", "value", "one", "other"] "are_rising" (defScope st_are_rising) (ad 25) cdv A outer s H E).A (cxOf (L2.CX P w) P w K mg base ["first", "second", "quotients", "value", "one", "other"] "are_rising" (defScope st_are_rising) (ad 25) cdv A outer s H E).env (cxOf (L2.CX P w) P w K mg base ["first", "second", "quotients", "value", "one", "other"] "are_rising" (defScope st_are_rising) (ad 25) cdv A outer s H E).xe := passes_of rfl
  exact (hCons (hExpr (dCall G_need_both (hr.mono (by omega)) (by rfl) T.m_need_both T.k_need_both T.b_need_both tk (aCons (dVar (pv 0)) (aCons (dVar (pv 1)) aNil)) (lCons_len (lCons_len lNil_len))))
    (hCons (hAsgLcV (ps_setLc (own := [("value", 3), ("one", 4), ("other", 5)]) (i := 2) rfl nd rfl rfl (sw_true rfl rfl rfl rfl) (jSeq (dCall G_values_in (hr.mono (by omega)) (by rfl) T.m_values_in T.k_values_in T.b_values_in tk (aCons (dVar (pv 0)) (aCons (dVar (pv 1)) aNil)) (lCons_len (lCons_len lNil_len)))) (blkOk_by (N := ["first", "second", "quotients", "value", "one", "other"]) (sc := defScope st_are_rising) (by decide +kernel)) (fun _ _ _ _ _ => (kT (pg_tup rfl (kC (kN (pg_name (i := 3) nd rfl (.inl rfl))) (kC (kN (pg_name (i := 4) nd rfl (.inl rfl))) (kC (kN (pg_name (i := 5) nd rfl (.inl rfl))) kE (pgs_cons (kN (pg_name (i := 5) nd rfl (.inl rfl))) kE)) (pgs_cons (kN (pg_name (i := 4) nd rfl (.inl rfl))) (kC (kN (pg_name (i := 5) nd rfl (.inl rfl))) kE (pgs_cons (kN (pg_name (i := 5) nd rfl (.inl rfl))) kE)))) (pgs_cons (kN (pg_name (i := 3) nd rfl (.inl rfl))) (kC (kN (pg_name (i := 4) nd rfl (.inl rfl))) (kC (kN (pg_name (i := 5) nd rfl (.inl rfl))) kE (pgs_cons (kN (pg_name (i := 5) nd rfl (.inl rfl))) kE)) (pgs_cons (kN (pg_name (i := 4) nd rfl (.inl rfl))) (kC (kN (pg_name (i := 5) nd rfl (.inl rfl))) kE (pgs_cons (kN (pg_name (i := 5) nd rfl (.inl rfl))) kE))))))) (gs_len (gs_len (gs_len gE_len))))) (fun _ _ _ _ _ => bNilT) (fun _ _ _ _ _ => (dCall G_quotient_in (hr.mono (by omega)) (by rfl) T.m_quotient_in T.k_quotient_in T.b_quotient_in takes0 (aCons (dVar (pv 4)) (aCons (dVar (pv 5)) aNil)) (lCons_len (lCons_len lNil_len))))))
    (hOne (hRet (dNot (dCb (cr_any rfl) c_any (by rfl) T.z_any (by decide +kernel) (aCons (dFE (dLc (pe_lc (own := [("one", 4), ("other", 5)]) rfl nd (jZipA (pi_zipK (by rfl) T.z_zip (aCons (dVar (pv 2)) (aCons (dSl (dVar (pv 2)) (dOSome dInt) dONone) aNil)))) (blkOk_by (N := ["first", "second", "quotients", "value", "one", "other"]) (sc := defScope st_are_rising) (by decide +kernel)) (fun _ _ _ _ _ => (kT (pg_tup rfl (kC (kN (pg_name (i := 4) nd rfl (.inl rfl))) (kC (kN (pg_name (i := 5) nd rfl (.inl rfl))) kE (pgs_cons (kN (pg_name (i := 5) nd rfl (.inl rfl))) kE)) (pgs_cons (kN (pg_name (i := 4) nd rfl (.inl rfl))) (kC (kN (pg_name (i := 5) nd rfl (.inl rfl))) kE (pgs_cons (kN (pg_name (i := 5) nd rfl (.inl rfl))) kE))))) (gs_len (gs_len gE_len)))) (fun _ _ _ _ _ => bNilT) (fun _ _ _ _ _ => (dCall G_is_lesser (hr.mono (by omega)) (by rfl) T.m_is_lesser T.k_is_lesser T.b_is_lesser takes0 (aCons (dVar (pv 5)) (aCons (dVar (pv 4)) aNil)) (lCons_len (lCons_len lNil_len))))))) aNil)))))))
theorem ok__law_roll (T : Txt K mg ad fd) (F : Fun K "_law_roll" "_law_roll" st__law_roll (ad 26) (fd 26)) : FnOk P w K mg base (L2.CX P w) 1 (ad 26) (fd 26) ["cup", "many"] (SpD K cl 2 g__law_roll) := show FnOk P w K mg base (L2.CX P w) 1 (ad 26) (fd 26) ["cup", "many"] (SpD K cl 2 (bodyD F__law_roll 4)) from okD2 (k := 0) (N := ["cup", "many", "found", "deep"]) (ps := ["cup", "many"]) F__law_roll F sc__law_roll rfl rfl (by decide) fun cdv A outer s H E hr => by
  have nd := sc__law_roll.nd
  have hu := hu_of hr
  have hu64 := hr.units
  have tk : Takes (cxOf (L2.CX P w) P w K mg base ["cup", "many", "found", "deep"] "_law_roll" (defScope st__law_roll) (ad 26) cdv A outer s H E) (WE0 E) := takes_of rfl rfl rfl rfl
  have ps : PassesOwn (model P w) (cxOf (L2.CX P w) P w K mg base ["cup", "many", "found", "deep"] "_law_roll" (defScope st__law_roll) (ad 26) cdv A outer s H E).A (cxOf (L2.CX P w) P w K mg base ["cup", "many", "found", "deep"] "_law_roll" (defScope st__law_roll) (ad 26) cdv A outer s H E).env (cxOf (L2.CX P w) P w K mg base ["cup", "many", "found", "deep"] "_law_roll" (defScope st__law_roll) (ad 26) cdv A outer s H E).xe := passes_of rfl
  exact (hCons (hIf (bCmp op_gt o_cmpI (dIx (dVar (pv 0)) dInt (fun _ _ => rfl)) dInt (nomark _)) (hCons (hAsg (ps_set (i := 2) nd rfl (.inl rfl) (dBin op_mod o_mod (dCty call_int1 c_int (by rfl) T.z_int (by decide +kernel) (aCons (dIx (dVar (pv 0)) dInt (fun _ _ => rfl)) aNil)) (dVar (pv 1)))))
    (hCons (hSetI (ps_asg (dBin op_divD o_div (dIx (dVar (pv 0)) dInt (fun _ _ => rfl)) (dVar (pv 1))) (pg_sub (pv 0) dInt set_list)))
    (hOne (hRet (dVar (pv 2)))))) hNil)
    (hCons (hSetI (ps_asg (dBin op_mod o_mod (dCty call_int1 c_int (by rfl) T.z_int (by decide +kernel) (aCons (dBin op_addD o_add (dBin op_mulD o_mul (dIx (dVar (pv 0)) dInt (fun _ _ => rfl)) dInt) dInt) aNil)) dInt) (pg_sub (pv 0) dInt set_list)))
    (hCons (hAsg (ps_set (i := 3) nd rfl (.inl rfl) (dBin op_mod o_mod (dCty call_int1 c_int (by rfl) T.z_int (by decide +kernel) (aCons (dBin op_mulD o_mul (dIx (dVar (pv 0)) dInt (fun _ _ => rfl)) (dBin op_addD o_add (dIx (dVar (pv 0)) dInt (fun _ _ => rfl)) dInt)) aNil)) dInt)))
    (hOne (hRet (dBin op_mod o_mod (dCty call_int1 c_int (by rfl) T.z_int (by decide +kernel) (aCons (dBin op_divD o_div (dVar (pv 3)) dInt) aNil)) (dVar (pv 1))))))))
theorem ok__law_divisor (T : Txt K mg ad fd) (F : Fun K "_law_divisor" "_law_divisor" st__law_divisor (ad 27) (fd 27)) : FnOk P w K mg base (L2.CX P w) 1 (ad 27) (fd 27) ["one", "other"] (SpD K cl 2 g__law_divisor) := show FnOk P w K mg base (L2.CX P w) 1 (ad 27) (fd 27) ["one", "other"] (SpD K cl 2 (bodyD F__law_divisor 2)) from okD2 (k := 0) (N := ["one", "other"]) (ps := ["one", "other"]) F__law_divisor F sc__law_divisor rfl rfl (by decide) fun cdv A outer s H E hr => by
  have nd := sc__law_divisor.nd
  have hu := hu_of hr
  have hu64 := hr.units
  have tk : Takes (cxOf (L2.CX P w) P w K mg base ["one", "other"] "_law_divisor" (defScope st__law_divisor) (ad 27) cdv A outer s H E) (WE0 E) := takes_of rfl rfl rfl rfl
  have ps : PassesOwn (model P w) (cxOf (L2.CX P w) P w K mg base ["one", "other"] "_law_divisor" (defScope st__law_divisor) (ad 27) cdv A outer s H E).A (cxOf (L2.CX P w) P w K mg base ["one", "other"] "_law_divisor" (defScope st__law_divisor) (ad 27) cdv A outer s H E).env (cxOf (L2.CX P w) P w K mg base ["one", "other"] "_law_divisor" (defScope st__law_divisor) (ad 27) cdv A outer s H E).xe := passes_of rfl
  exact (hCons (hPar2 (ps_par (i := 0) (j := 1) rfl nd rfl rfl (by decide) rfl rfl (jVal (dCb call_abs c_abs (by rfl) T.z_abs (by decide +kernel) (aCons (dVar (pv 0)) aNil)) (jVal (dCb call_abs c_abs (by rfl) T.z_abs (by decide +kernel) (aCons (dVar (pv 1)) aNil)) jNil)) (by rfl)))
    (hCons (hWhileV (fuelI 1) ps (bCmp (op_neD hu64) o_ne (dVar (pv 1)) dInt (nomark _)) (hOne (hPar2 (ps_par (i := 0) (j := 1) rfl nd rfl rfl (by decide) rfl rfl (jVal (dVar (pv 1)) (jVal (dBin op_mod o_mod (dCty call_int1 c_int (by rfl) T.z_int (by decide +kernel) (aCons (dVar (pv 0)) aNil)) (dVar (pv 1))) jNil)) (by rfl)))))
    (hOne (hRet (dVar (pv 0))))))
theorem ok__law_least (T : Txt K mg ad fd) (F : Fun K "_law_least" "_law_least" st__law_least (ad 28) (fd 28)) (G__law_divisor : FnOk P w K mg base (L2.CX P w) 1 (ad 27) (fd 27) ["one", "other"] (SpD K cl 2 g__law_divisor)) : FnOk P w K mg base (L2.CX P w) 2 (ad 28) (fd 28) ["above", "below"] (SpD K cl 2 g__law_least) := show FnOk P w K mg base (L2.CX P w) 2 (ad 28) (fd 28) ["above", "below"] (SpD K cl 2 (bodyD F__law_least 4)) from okD2 (k := 1) (N := ["above", "below", "sign", "whole"]) (ps := ["above", "below"]) F__law_least F sc__law_least rfl rfl (by decide) fun cdv A outer s H E hr => by
  have nd := sc__law_least.nd
  have hu := hu_of hr
  have hu64 := hr.units
  have tk : Takes (cxOf (L2.CX P w) P w K mg base ["above", "below", "sign", "whole"] "_law_least" (defScope st__law_least) (ad 28) cdv A outer s H E) (WE0 E) := takes_of rfl rfl rfl rfl
  have ps : PassesOwn (model P w) (cxOf (L2.CX P w) P w K mg base ["above", "below", "sign", "whole"] "_law_least" (defScope st__law_least) (ad 28) cdv A outer s H E).A (cxOf (L2.CX P w) P w K mg base ["above", "below", "sign", "whole"] "_law_least" (defScope st__law_least) (ad 28) cdv A outer s H E).env (cxOf (L2.CX P w) P w K mg base ["above", "below", "sign", "whole"] "_law_least" (defScope st__law_least) (ad 28) cdv A outer s H E).xe := passes_of rfl
  exact (hCons (hAsg (ps_set (i := 2) nd rfl (.inl rfl) (dIf (bCmp op_lt o_cmpI (dVar (pv 1)) dInt (nomark _)) (dUn un_neg o_neg dInt) dInt)))
    (hCons (hAsg (ps_set (i := 3) nd rfl (.inl rfl) (dCb (call_max2 rfl) c_max2 (by rfl) T.z_max (by decide +kernel) (aCons dInt (aCons (dCall G__law_divisor (hr.mono (by omega)) (by rfl) T.m__law_divisor T.k__law_divisor T.b__law_divisor tk (aCons (dVar (pv 0)) (aCons (dVar (pv 1)) aNil)) (lCons_len (lCons_len lNil_len))) aNil)))))
    (hOne (hRet (dTup (aCons (dCty call_int1 c_int (by rfl) T.z_int (by decide +kernel) (aCons (dBin op_divD o_div (dBin op_mulD o_mul (dVar (pv 2)) (dVar (pv 0))) (dVar (pv 3))) aNil)) (aCons (dCty call_int1 c_int (by rfl) T.z_int (by decide +kernel) (aCons (dBin op_divD o_div (dBin op_mulD o_mul (dVar (pv 2)) (dVar (pv 1))) (dVar (pv 3))) aNil)) aNil)))))))
theorem ok__law_chances (T : Txt K mg ad fd) (F : Fun K "_law_chances" "_law_chances" st__law_chances (ad 29) (fd 29)) (G__law_roll : FnOk P w K mg base (L2.CX P w) 1 (ad 26) (fd 26) ["cup", "many"] (SpD K cl 2 g__law_roll)) (G__law_least : FnOk P w K mg base (L2.CX P w) 2 (ad 28) (fd 28) ["above", "below"] (SpD K cl 2 g__law_least)) : FnOk P w K mg base (L2.CX P w) 3 (ad 29) (fd 29) ["cup", "most"] (SpD K cl 2 g__law_chances) := show FnOk P w K mg base (L2.CX P w) 3 (ad 29) (fd 29) ["cup", "most"] (SpD K cl 2 (bodyD F__law_chances 9)) from okD2 (k := 2) (N := ["cup", "most", "many", "shares", "value", "found", "turn", "whole", "share"]) (ps := ["cup", "most"]) F__law_chances F sc__law_chances rfl rfl (by decide) fun cdv A outer s H E hr => by
  have nd := sc__law_chances.nd
  have hu := hu_of hr
  have hu64 := hr.units
  have tk : Takes (cxOf (L2.CX P w) P w K mg base ["cup", "most", "many", "shares", "value", "found", "turn", "whole", "share"] "_law_chances" (defScope st__law_chances) (ad 29) cdv A outer s H E) (WE0 E) := takes_of rfl rfl rfl rfl
  have ps : PassesOwn (model P w) (cxOf (L2.CX P w) P w K mg base ["cup", "most", "many", "shares", "value", "found", "turn", "whole", "share"] "_law_chances" (defScope st__law_chances) (ad 29) cdv A outer s H E).A (cxOf (L2.CX P w) P w K mg base ["cup", "most", "many", "shares", "value", "found", "turn", "whole", "share"] "_law_chances" (defScope st__law_chances) (ad 29) cdv A outer s H E).env (cxOf (L2.CX P w) P w K mg base ["cup", "most", "many", "shares", "value", "found", "turn", "whole", "share"] "_law_chances" (defScope st__law_chances) (ad 29) cdv A outer s H E).xe := passes_of rfl
  exact (hCons (hParT (is := [2, 3, 4, 5]) (ps_asg (pe_tup (jVal (dBin op_addD o_add dInt (dCall G__law_roll (hr.mono (by omega)) (by rfl) T.m__law_roll T.k__law_roll T.b__law_roll tk (aCons (dVar (pv 0)) (aCons (dVar (pv 1)) aNil)) (lCons_len (lCons_len lNil_len)))) (jNew (dLst aNil) (jVal (dUn un_neg o_neg dInt) (jNew (dLst aNil) jNil pl_mNil)) (pl_mVal (pl_Un (pl_C _)) (pl_mNew (pl_Lst pl_lNil) pl_mNil))))) (pg_tup rfl (pgs_cons (pg_name (i := 2) nd rfl (.inl rfl)) (pgs_cons (pg_name (i := 3) nd rfl (.inl rfl)) (pgs_cons (pg_name (i := 4) nd rfl (.inl rfl)) (pgs_cons (pg_name (i := 5) nd rfl (.inl rfl)) pgs_nil)))))))
    (hCons (hFor (ps_for ps rfl (jRg1 (by rfl) T.z_range (aCons (dVar (pv 2)) aNil)) (kN (pg_name (i := 6) nd rfl (.inl rfl))) (hOne (hApp (ps_expr (pe_bm PySem.F.plainAttrs_list PySem.F.slot_list_append PySem.F.type_list_append mt_append (pv 3) (pa_cons (dBin op_addD o_add dInt (dCall G__law_roll (hr.mono (by omega)) (by rfl) T.m__law_roll T.k__law_roll T.b__law_roll tk (aCons (dVar (pv 0)) (aCons dInt aNil)) (lCons_len (lCons_len lNil_len)))) pa_nil)))))))
    (hCons (hFrz (i := 3) (hAsg (ps_set (i := 7) nd rfl (.inl rfl) (dCb (call_sumA rfl) c_sumA (by rfl) T.z_sum (by decide +kernel) (aCons (dVar (pv 3)) aNil)))))
    (hCons (hFrz (i := 3) (hFor (ps_for ps rfl (jSeq (dVar (pv 3))) (kN (pg_name (i := 8) nd rfl (.inl rfl))) (hCons (hAsg (ps_set (i := 4) nd rfl (.inl rfl) (dBin op_addD o_add (dBin op_addD o_add (dVar (pv 4)) dInt) (dCall G__law_roll (hr.mono (by omega)) (by rfl) T.m__law_roll T.k__law_roll T.b__law_roll tk (aCons (dVar (pv 0)) (aCons dInt aNil)) (lCons_len (lCons_len lNil_len))))))
    (hOne (hApp (ps_expr (pe_bm PySem.F.plainAttrs_list PySem.F.slot_list_append PySem.F.type_list_append mt_append (pv 5) (pa_cons (dTup (aCons (dVar (pv 4)) (aCons (dCall G__law_least (hr.mono (by omega)) (by rfl) T.m__law_least T.k__law_least T.b__law_least tk (aCons (dVar (pv 8)) (aCons (dVar (pv 7)) aNil)) (lCons_len (lCons_len lNil_len))) aNil))) pa_nil)))))))))
    (hOne (hFrz (i := 5) (hRet (dCty call_tuple_ofN c_tuple (by rfl) T.z_tuple (by decide +kernel) (aCons (dVar (pv 5)) aNil)))))))))
theorem ok__law_two (T : Txt K mg ad fd) (F : Fun K "_law_two" "_law_two" st__law_two (ad 30) (fd 30)) (G__law_chances : FnOk P w K mg base (L2.CX P w) 3 (ad 29) (fd 29) ["cup", "most"] (SpD K cl 2 g__law_chances)) (G__law_roll : FnOk P w K mg base (L2.CX P w) 1 (ad 26) (fd 26) ["cup", "many"] (SpD K cl 2 g__law_roll)) (G__law_least : FnOk P w K mg base (L2.CX P w) 2 (ad 28) (fd 28) ["above", "below"] (SpD K cl 2 g__law_least)) : FnOk P w K mg base (L2.CX P w) 4 (ad 30) (fd 30) ["cup", "most"] (SpD K cl 2 g__law_two) := show FnOk P w K mg base (L2.CX P w) 4 (ad 30) (fd 30) ["cup", "most"] (SpD K cl 2 (bodyD F__law_two 11)) from okD2 (k := 3) (N := ["cup", "most", "one", "way", "other", "weights", "at", "whole", "value", "chance", "weight"]) (ps := ["cup", "most"]) F__law_two F sc__law_two rfl rfl (by decide) fun cdv A outer s H E hr => by
  have nd := sc__law_two.nd
  have hu := hu_of hr
  have hu64 := hr.units
  have tk : Takes (cxOf (L2.CX P w) P w K mg base ["cup", "most", "one", "way", "other", "weights", "at", "whole", "value", "chance", "weight"] "_law_two" (defScope st__law_two) (ad 30) cdv A outer s H E) (WE0 E) := takes_of rfl rfl rfl rfl
  have ps : PassesOwn (model P w) (cxOf (L2.CX P w) P w K mg base ["cup", "most", "one", "way", "other", "weights", "at", "whole", "value", "chance", "weight"] "_law_two" (defScope st__law_two) (ad 30) cdv A outer s H E).A (cxOf (L2.CX P w) P w K mg base ["cup", "most", "one", "way", "other", "weights", "at", "whole", "value", "chance", "weight"] "_law_two" (defScope st__law_two) (ad 30) cdv A outer s H E).env (cxOf (L2.CX P w) P w K mg base ["cup", "most", "one", "way", "other", "weights", "at", "whole", "value", "chance", "weight"] "_law_two" (defScope st__law_two) (ad 30) cdv A outer s H E).xe := passes_of rfl
  exact (hCons (hPar2 (ps_par (i := 2) (j := 3) rfl nd rfl rfl (by decide) rfl rfl (jVal (dCall G__law_chances (hr.mono (by omega)) (by rfl) T.m__law_chances T.k__law_chances T.b__law_chances tk (aCons (dVar (pv 0)) (aCons (dVar (pv 1)) aNil)) (lCons_len (lCons_len lNil_len))) (jVal (dCall G__law_roll (hr.mono (by omega)) (by rfl) T.m__law_roll T.k__law_roll T.b__law_roll tk (aCons (dVar (pv 0)) (aCons dInt aNil)) (lCons_len (lCons_len lNil_len))) jNil)) (by rfl)))
    (hCons (hAsg (ps_set (i := 4) nd rfl (.inl rfl) (dCall G__law_chances (hr.mono (by omega)) (by rfl) T.m__law_chances T.k__law_chances T.b__law_chances tk (aCons (dVar (pv 0)) (aCons (dVar (pv 1)) aNil)) (lCons_len (lCons_len lNil_len)))))
    (hCons (hIf (bCmp op_gt o_cmpI (dVar (pv 3)) dInt (nomark _)) (hCons (hAsgF (ps_set (i := 5) nd rfl (.inl rfl) (dLst aNil)))
    (hCons (hFor (ps_for ps rfl (jRg1 (by rfl) T.z_range (aCons (dCb call_len c_len (by rfl) T.z_len (by decide +kernel) (aCons (dVar (pv 2)) aNil)) aNil)) (kN (pg_name (i := 6) nd rfl (.inl rfl))) (hOne (hApp (ps_expr (pe_bm PySem.F.plainAttrs_list PySem.F.slot_list_append PySem.F.type_list_append mt_append (pv 5) (pa_cons (dIf (bCmp (op_eqD hu64) o_eq (dVar (pv 3)) dInt (nomark _)) (dCall G__law_roll (hr.mono (by omega)) (by rfl) T.m__law_roll T.k__law_roll T.b__law_roll tk (aCons (dVar (pv 0)) (aCons dInt aNil)) (lCons_len (lCons_len lNil_len))) (dBin op_addD o_add (dBin op_addD o_add dInt (dIf (bBorE (bCmp (op_neD hu64) o_ne (dVar (pv 5)) (dFE (dLst aNil)) (nomark _)) (pl_Val (pl_Bin (pl_Var 5) (pl_Lst pl_lNil)))) (dIxO (pv 5) (dUn un_neg o_neg dInt) (fun _ _ => rfl)) dInt)) (dCall G__law_roll (hr.mono (by omega)) (by rfl) T.m__law_roll T.k__law_roll T.b__law_roll tk (aCons (dVar (pv 0)) (aCons dInt aNil)) (lCons_len (lCons_len lNil_len))))) pa_nil)))))))
    (hCons (hFrz (i := 5) (hAsg (ps_set (i := 5) nd rfl (.inl rfl) (dIf (bCmp op_gt o_cmpI (dCb (call_sumA rfl) c_sumA (by rfl) T.z_sum (by decide +kernel) (aCons (dVar (pv 5)) aNil)) dInt (nomark _)) (dVar (pv 5)) (dFE (dBinF op_rep o_repL (dFE (dLst (aCons dInt aNil))) (dCb call_len c_len (by rfl) T.z_len (by decide +kernel) (aCons (dVar (pv 2)) aNil))))))))
    (hCons (hFrz (i := 5) (hAsg (ps_set (i := 7) nd rfl (.inr rfl) (dCb (call_sumA rfl) c_sumA (by rfl) T.z_sum (by decide +kernel) (aCons (dVar (pv 5)) aNil)))))
    (hOne (hFrz (i := 5) (hAsg (ps_set (i := 4) nd rfl (.inl rfl) (dCty call_tuple_ofN c_tuple (by rfl) T.z_tuple (by decide +kernel) (aCons (dFE (dLc (pe_lc (own := [("value", 8), ("chance", 9), ("weight", 10)]) rfl nd (jZipA (pi_zipK (by rfl) T.z_zip (aCons (dVar (pv 2)) (aCons (dVar (pv 5)) aNil)))) (blkOk_by (N := ["cup", "most", "one", "way", "other", "weights", "at", "whole", "value", "chance", "weight"]) (sc := defScope st__law_two) (by decide +kernel)) (fun _ _ _ _ _ => (kT (pg_tup rfl (kC (kT (pg_tup rfl (kC (kN (pg_name (i := 8) nd rfl (.inl rfl))) (kC (kN (pg_name (i := 9) nd rfl (.inl rfl))) kE (pgs_cons (kN (pg_name (i := 9) nd rfl (.inl rfl))) kE)) (pgs_cons (kN (pg_name (i := 8) nd rfl (.inl rfl))) (kC (kN (pg_name (i := 9) nd rfl (.inl rfl))) kE (pgs_cons (kN (pg_name (i := 9) nd rfl (.inl rfl))) kE))))) (gs_len (gs_len gE_len))) (kC (kN (pg_name (i := 10) nd rfl (.inl rfl))) kE (pgs_cons (kN (pg_name (i := 10) nd rfl (.inl rfl))) kE)) (pgs_cons (kT (pg_tup rfl (kC (kN (pg_name (i := 8) nd rfl (.inl rfl))) (kC (kN (pg_name (i := 9) nd rfl (.inl rfl))) kE (pgs_cons (kN (pg_name (i := 9) nd rfl (.inl rfl))) kE)) (pgs_cons (kN (pg_name (i := 8) nd rfl (.inl rfl))) (kC (kN (pg_name (i := 9) nd rfl (.inl rfl))) kE (pgs_cons (kN (pg_name (i := 9) nd rfl (.inl rfl))) kE))))) (gs_len (gs_len gE_len))) (kC (kN (pg_name (i := 10) nd rfl (.inl rfl))) kE (pgs_cons (kN (pg_name (i := 10) nd rfl (.inl rfl))) kE))))) (gs_len (gs_len gE_len)))) (fun _ _ _ _ _ => (pts_one (bCmp op_gt o_cmpI (dVar (pv 10)) dInt (nomark _)))) (fun _ _ _ _ _ => (dTup (aCons (dVar (pv 8)) (aCons (dCall G__law_least (hr.mono (by omega)) (by rfl) T.m__law_least T.k__law_least T.b__law_least takes0 (aCons (dVar (pv 10)) (aCons (dVar (pv 7)) aNil)) (lCons_len (lCons_len lNil_len))) aNil))))))) aNil)))))))))) hNil)
    (hOne (hRet (dIf (bPW (wOr (bCmp (op_eqD hu64) o_eq (dCall G__law_roll (hr.mono (by omega)) (by rfl) T.m__law_roll T.k__law_roll T.b__law_roll tk (aCons (dVar (pv 0)) (aCons dInt aNil)) (lCons_len (lCons_len lNil_len))) dInt (nomark _)) (wOr1 (bCmp (op_eqD hu64) o_eq (dVar (pv 3)) dInt (nomark _))))) (dTup (aCons (dVar (pv 2)) (aCons (dVar (pv 4)) aNil))) (dTup (aCons (dVar (pv 4)) (aCons (dVar (pv 2)) aNil)))))))))
theorem ok_fits_share (T : Txt K mg ad fd) (F : Fun K "fits_share" "fits_share" st_fits_share (ad 31) (fd 31)) (G_is_tuple_of : FnOk P w K mg base (L2.CX P w) 1 (ad 2) (fd 2) ["value", "low", "high"] (SpD K cl 3 g_is_tuple_of)) (G_is_integer : FnOk P w K mg base (L2.CX P w) 1 (ad 7) (fd 7) ["value"] (SpD K cl 1 g_is_integer)) (G_divisor_of : FnOk P w K mg base (L2.CX P w) 1 (ad 3) (fd 3) ["one", "other"] (SpD K cl 2 g_divisor_of)) : FnOk P w K mg base (L2.CX P w) 2 (ad 31) (fd 31) ["value"] (SpD K cl 1 g_fits_share) := show FnOk P w K mg base (L2.CX P w) 2 (ad 31) (fd 31) ["value"] (SpD K cl 1 (bodyD F_fits_share 2)) from okD2 (k := 1) (N := ["value", "number"]) (ps := ["value"]) F_fits_share F sc_fits_share rfl rfl (by decide) fun cdv A outer s H E hr => by
  have nd := sc_fits_share.nd
  have hu := hu_of hr
  have hu64 := hr.units
  have tk : Takes (cxOf (L2.CX P w) P w K mg base ["value", "number"] "fits_share" (defScope st_fits_share) (ad 31) cdv A outer s H E) (WE0 E) := takes_of rfl rfl rfl rfl
  have ps : PassesOwn (model P w) (cxOf (L2.CX P w) P w K mg base ["value", "number"] "fits_share" (defScope st_fits_share) (ad 31) cdv A outer s H E).A (cxOf (L2.CX P w) P w K mg base ["value", "number"] "fits_share" (defScope st_fits_share) (ad 31) cdv A outer s H E).env (cxOf (L2.CX P w) P w K mg base ["value", "number"] "fits_share" (defScope st_fits_share) (ad 31) cdv A outer s H E).xe := passes_of rfl
  exact (hCons (hIf (bPW (wOr (bNotE (bValE (dCall G_is_tuple_of (hr.mono (by omega)) (by rfl) T.m_is_tuple_of T.k_is_tuple_of T.b_is_tuple_of tk (aCons (dVar (pv 0)) (aCons dInt (aCons dInt aNil))) (lCons_len (lCons_len (lCons_len lNil_len)))))) (wOr1 (bNotE (bValE (dCb (cr_all rfl) c_all (by rfl) T.z_all (by decide +kernel) (aCons (dFE (dLc (pe_lc (own := [("number", 1)]) rfl nd (jSeq (dVar (pv 0))) (blkOk_by (N := ["value", "number"]) (sc := defScope st_fits_share) (by decide +kernel)) (fun _ _ _ _ _ => (kN (pg_name (i := 1) nd rfl (.inl rfl)))) (fun _ _ _ _ _ => bNilT) (fun _ _ _ _ _ => (dCall G_is_integer (hr.mono (by omega)) (by rfl) T.m_is_integer T.k_is_integer T.b_is_integer takes0 (aCons (dVar (pv 1)) aNil) (lCons_len lNil_len)))))) aNil))))))) (hOne (hRet dBl)) hNil)
    (hOne (hRet (dAnd (dChain op_le o_cmpI op_le o_cmpI dInt (dIx (dVar (pv 0)) dInt (fun _ _ => rfl)) (dIx (dVar (pv 0)) dInt (fun _ _ => rfl))) (dAnd (dCmp op_ge o_cmpI (dIx (dVar (pv 0)) dInt (fun _ _ => rfl)) dInt (nomark _)) (dOne (dCmp (op_eqD hu64) o_eq (dCall G_divisor_of (hr.mono (by omega)) (by rfl) T.m_divisor_of T.k_divisor_of T.b_divisor_of tk (aCons (dIx (dVar (pv 0)) dInt (fun _ _ => rfl)) (aCons (dIx (dVar (pv 0)) dInt (fun _ _ => rfl)) aNil)) (lCons_len (lCons_len lNil_len))) dInt (nomark _))))))))
theorem ok_fits_rule (T : Txt K mg ad fd) (F : Fun K "fits_rule" "fits_rule" st_fits_rule (ad 32) (fd 32)) (G_values_in : FnOk P w K mg base (L2.CX P w) 1 (ad 21) (fd 21) ["first", "second"] (SpD K cl 2 g_values_in)) (G_is_tuple_of : FnOk P w K mg base (L2.CX P w) 1 (ad 2) (fd 2) ["value", "low", "high"] (SpD K cl 3 g_is_tuple_of)) (G_is_integer : FnOk P w K mg base (L2.CX P w) 1 (ad 7) (fd 7) ["value"] (SpD K cl 1 g_is_integer)) (G_fits_share : FnOk P w K mg base (L2.CX P w) 2 (ad 31) (fd 31) ["value"] (SpD K cl 1 g_fits_share)) : FnOk P w K mg base (L2.CX P w) 3 (ad 32) (fd 32) ["first", "second", "value"] (SpD K cl 3 g_fits_rule) := show FnOk P w K mg base (L2.CX P w) 3 (ad 32) (fd 32) ["first", "second", "value"] (SpD K cl 3 (bodyD F_fits_rule 7)) from okD2 (k := 2) (N := ["first", "second", "value", "values", "good", "pair", "own"]) (ps := ["first", "second", "value"]) F_fits_rule F sc_fits_rule rfl rfl (by decide) fun cdv A outer s H E hr => by
  have nd := sc_fits_rule.nd
  have hu := hu_of hr
  have hu64 := hr.units
  have tk : Takes (cxOf (L2.CX P w) P w K mg base ["first", "second", "value", "values", "good", "pair", "own"] "fits_rule" (defScope st_fits_rule) (ad 32) cdv A outer s H E) (WE0 E) := takes_of rfl rfl rfl rfl
  have ps : PassesOwn (model P w) (cxOf (L2.CX P w) P w K mg base ["first", "second", "value", "values", "good", "pair", "own"] "fits_rule" (defScope st_fits_rule) (ad 32) cdv A outer s H E).A (cxOf (L2.CX P w) P w K mg base ["first", "second", "value", "values", "good", "pair", "own"] "fits_rule" (defScope st_fits_rule) (ad 32) cdv A outer s H E).env (cxOf (L2.CX P w) P w K mg base ["first", "second", "value", "values", "good", "pair", "own"] "fits_rule" (defScope st_fits_rule) (ad 32) cdv A outer s H E).xe := passes_of rfl
  exact (hCons (hAsg (ps_set (i := 3) nd rfl (.inl rfl) (dCall G_values_in (hr.mono (by omega)) (by rfl) T.m_values_in T.k_values_in T.b_values_in tk (aCons (dVar (pv 0)) (aCons (dVar (pv 1)) aNil)) (lCons_len (lCons_len lNil_len)))))
    (hCons (hIf (bPW (wOr (bNotE (bValE (dCall G_is_tuple_of (hr.mono (by omega)) (by rfl) T.m_is_tuple_of T.k_is_tuple_of T.b_is_tuple_of tk (aCons (dVar (pv 2)) (aCons (dCb call_len c_len (by rfl) T.z_len (by decide +kernel) (aCons (dVar (pv 3)) aNil)) (aCons (dCb call_len c_len (by rfl) T.z_len (by decide +kernel) (aCons (dVar (pv 3)) aNil)) aNil))) (lCons_len (lCons_len (lCons_len lNil_len)))))) (wOr1 (bNotE (bValE (dCb (cr_all rfl) c_all (by rfl) T.z_all (by decide +kernel) (aCons (dFE (dLc (pe_lc (own := [("pair", 5)]) rfl nd (jSeq (dVar (pv 2))) (blkOk_by (N := ["first", "second", "value", "values", "good", "pair", "own"]) (sc := defScope st_fits_rule) (by decide +kernel)) (fun _ _ _ _ _ => (kN (pg_name (i := 5) nd rfl (.inl rfl)))) (fun _ _ _ _ _ => bNilT) (fun _ _ _ _ _ => (dCall G_is_tuple_of (hr.mono (by omega)) (by rfl) T.m_is_tuple_of T.k_is_tuple_of T.b_is_tuple_of takes0 (aCons (dVar (pv 5)) (aCons dInt (aCons dInt aNil))) (lCons_len (lCons_len (lCons_len lNil_len)))))))) aNil))))))) (hOne (hRet dBl)) hNil)
    (hCons (hAsgLcV (ps_setLc (own := [("pair", 5), ("own", 6)]) (i := 4) rfl nd rfl rfl (sw_true rfl rfl rfl rfl) (jZipA (pi_zipK (by rfl) T.z_zip (aCons (dVar (pv 2)) (aCons (dVar (pv 3)) aNil)))) (blkOk_by (N := ["first", "second", "value", "values", "good", "pair", "own"]) (sc := defScope st_fits_rule) (by decide +kernel)) (fun _ _ _ _ _ => (kT (pg_tup rfl (kC (kN (pg_name (i := 5) nd rfl (.inl rfl))) (kC (kN (pg_name (i := 6) nd rfl (.inl rfl))) kE (pgs_cons (kN (pg_name (i := 6) nd rfl (.inl rfl))) kE)) (pgs_cons (kN (pg_name (i := 5) nd rfl (.inl rfl))) (kC (kN (pg_name (i := 6) nd rfl (.inl rfl))) kE (pgs_cons (kN (pg_name (i := 6) nd rfl (.inl rfl))) kE))))) (gs_len (gs_len gE_len)))) (fun _ _ _ _ _ => bNilT) (fun _ _ _ _ _ => (dAnd (dCall G_is_integer (hr.mono (by omega)) (by rfl) T.m_is_integer T.k_is_integer T.b_is_integer takes0 (aCons (dIx (dVar (pv 5)) dInt (fun _ _ => rfl)) aNil) (lCons_len lNil_len)) (dAnd (dCmp (op_eqD hu64) o_eq (dIx (dVar (pv 5)) dInt (fun _ _ => rfl)) (dIx (dVar (pv 6)) dInt (fun _ _ => rfl)) (nomark _)) (dOne (dCall G_fits_share (hr.mono (by omega)) (by rfl) T.m_fits_share T.k_fits_share T.b_fits_share takes0 (aCons (dIx (dVar (pv 5)) dInt (fun _ _ => rfl)) aNil) (lCons_len lNil_len))))))))
    (hOne (hRet (dCb (cr_all rfl) c_all (by rfl) T.z_all (by decide +kernel) (aCons (dVar (pv 4)) aNil)))))))
theorem ok_need_rule (T : Txt K mg ad fd) (F : Fun K "need_rule" "need_rule" st_need_rule (ad 33) (fd 33)) (G_need_both : FnOk P w K mg base (L2.CX P w) 7 (ad 18) (fd 18) ["first", "second"] (SpD K cl 2 g_need_both)) (G_fits_rule : FnOk P w K mg base (L2.CX P w) 3 (ad 32) (fd 32) ["first", "second", "value"] (SpD K cl 3 g_fits_rule)) : FnOk P w K mg base (L2.CX P w) 8 (ad 33) (fd 33) ["first", "second", "rule"] (SpD K cl 3 g_need_rule) := show FnOk P w K mg base (L2.CX P w) 8 (ad 33) (fd 33) ["first", "second", "rule"] (SpD K cl 3 (bodyD F_need_rule 3)) from okD2 (k := 7) (N := ["first", "second", "rule"]) (ps := ["first", "second", "rule"]) F_need_rule F sc_need_rule rfl rfl (by decide) fun cdv A outer s H E hr => by
  have nd := sc_need_rule.nd
  have hu := hu_of hr
  have hu64 := hr.units
  have tk : Takes (cxOf (L2.CX P w) P w K mg base ["first", "second", "rule"] "need_rule" (defScope st_need_rule) (ad 33) cdv A outer s H E) (WE0 E) := takes_of rfl rfl rfl rfl
  have ps : PassesOwn (model P w) (cxOf (L2.CX P w) P w K mg base ["first", "second", "rule"] "need_rule" (defScope st_need_rule) (ad 33) cdv A outer s H E).A (cxOf (L2.CX P w) P w K mg base ["first", "second", "rule"] "need_rule" (defScope st_need_rule) (ad 33) cdv A outer s H E).env (cxOf (L2.CX P w) P w K mg base ["first", "second", "rule"] "need_rule" (defScope st_need_rule) (ad 33) cdv A outer s H E).xe := passes_of rfl
  exact (hCons (hExpr (dCall G_need_both (hr.mono (by omega)) (by rfl) T.m_need_both T.k_need_both T.b_need_both tk (aCons (dVar (pv 0)) (aCons (dVar (pv 1)) aNil)) (lCons_len (lCons_len lNil_len))))
    (hOne (hIf (bNotE (bValE (dCall G_fits_rule (hr.mono (by omega)) (by rfl) T.m_fits_rule T.k_fits_rule T.b_fits_rule tk (aCons (dVar (pv 0)) (aCons (dVar (pv 1)) (aCons (dVar (pv 2)) aNil))) (lCons_len (lCons_len (lCons_len lNil_len)))))) (hOne hFail) hNil)))
theorem ok_product_in (T : Txt K mg ad fd) (F : Fun K "product_in" "product_in" st_product_in (ad 34) (fd 34)) (G_lowest : FnOk P w K mg base (L2.CX P w) 2 (ad 4) (fd 4) ["above", "below"] (SpD K cl 2 g_lowest)) : FnOk P w K mg base (L2.CX P w) 3 (ad 34) (fd 34) ["one", "other"] (SpD K cl 2 g_product_in) := show FnOk P w K mg base (L2.CX P w) 3 (ad 34) (fd 34) ["one", "other"] (SpD K cl 2 (bodyD F_product_in 2)) from okD2 (k := 2) (N := ["one", "other"]) (ps := ["one", "other"]) F_product_in F sc_product_in rfl rfl (by decide) fun cdv A outer s H E hr => by
  have nd := sc_product_in.nd
  have hu := hu_of hr
  have hu64 := hr.units
  have tk : Takes (cxOf (L2.CX P w) P w K mg base ["one", "other"] "product_in" (defScope st_product_in) (ad 34) cdv A outer s H E) (WE0 E) := takes_of rfl rfl rfl rfl
  have ps : PassesOwn (model P w) (cxOf (L2.CX P w) P w K mg base ["one", "other"] "product_in" (defScope st_product_in) (ad 34) cdv A outer s H E).A (cxOf (L2.CX P w) P w K mg base ["one", "other"] "product_in" (defScope st_product_in) (ad 34) cdv A outer s H E).env (cxOf (L2.CX P w) P w K mg base ["one", "other"] "product_in" (defScope st_product_in) (ad 34) cdv A outer s H E).xe := passes_of rfl
  exact (hOne (hRet (dCall G_lowest (hr.mono (by omega)) (by rfl) T.m_lowest T.k_lowest T.b_lowest tk (aCons (dBin op_mulD o_mul (dIx (dVar (pv 0)) dInt (fun _ _ => rfl)) (dIx (dVar (pv 1)) dInt (fun _ _ => rfl))) (aCons (dBin op_mulD o_mul (dIx (dVar (pv 0)) dInt (fun _ _ => rfl)) (dIx (dVar (pv 1)) dInt (fun _ _ => rfl))) aNil)) (lCons_len (lCons_len lNil_len)))))
theorem ok_both_shares (T : Txt K mg ad fd) (F : Fun K "both_shares" "both_shares" st_both_shares (ad 35) (fd 35)) (G_values_in : FnOk P w K mg base (L2.CX P w) 1 (ad 21) (fd 21) ["first", "second"] (SpD K cl 2 g_values_in)) (G_product_in : FnOk P w K mg base (L2.CX P w) 3 (ad 34) (fd 34) ["one", "other"] (SpD K cl 2 g_product_in)) (G_sum_over : FnOk P w K mg base (L2.CX P w) 4 (ad 6) (fd 6) ["fractions"] (SpD K cl 1 g_sum_over)) : FnOk P w K mg base (L2.CX P w) 5 (ad 35) (fd 35) ["first", "second", "rule"] (SpD K cl 3 g_both_shares) := show FnOk P w K mg base (L2.CX P w) 5 (ad 35) (fd 35) ["first", "second", "rule"] (SpD K cl 3 (bodyD F_both_shares 7)) from okD2 (k := 4) (N := ["first", "second", "rule", "rows", "false", "pair", "own"]) (ps := ["first", "second", "rule"]) F_both_shares F sc_both_shares rfl rfl (by decide) fun cdv A outer s H E hr => by
  have nd := sc_both_shares.nd
  have hu := hu_of hr
  have hu64 := hr.units
  have tk : Takes (cxOf (L2.CX P w) P w K mg base ["first", "second", "rule", "rows", "false", "pair", "own"] "both_shares" (defScope st_both_shares) (ad 35) cdv A outer s H E) (WE0 E) := takes_of rfl rfl rfl rfl
  have ps : PassesOwn (model P w) (cxOf (L2.CX P w) P w K mg base ["first", "second", "rule", "rows", "false", "pair", "own"] "both_shares" (defScope st_both_shares) (ad 35) cdv A outer s H E).A (cxOf (L2.CX P w) P w K mg base ["first", "second", "rule", "rows", "false", "pair", "own"] "both_shares" (defScope st_both_shares) (ad 35) cdv A outer s H E).env (cxOf (L2.CX P w) P w K mg base ["first", "second", "rule", "rows", "false", "pair", "own"] "both_shares" (defScope st_both_shares) (ad 35) cdv A outer s H E).xe := passes_of rfl
  exact (hCons (hAsg (ps_set (i := 3) nd rfl (.inl rfl) (dFE (dListZip rfl (by rfl) T.z_list (by rfl) T.z_zip (aCons (dVar (pv 2)) (aCons (dCall G_values_in (hr.mono (by omega)) (by rfl) T.m_values_in T.k_values_in T.b_values_in tk (aCons (dVar (pv 0)) (aCons (dVar (pv 1)) aNil)) (lCons_len (lCons_len lNil_len))) aNil))))))
    (hCons (hAsg (ps_set (i := 4) nd rfl (.inl rfl) (dCall G_sum_over (hr.mono (by omega)) (by rfl) T.m_sum_over T.k_sum_over T.b_sum_over tk (aCons (dFE (dLc (pe_lc (own := [("pair", 5), ("own", 6)]) rfl nd (jSeq (dVar (pv 3))) (blkOk_by (N := ["first", "second", "rule", "rows", "false", "pair", "own"]) (sc := defScope st_both_shares) (by decide +kernel)) (fun _ _ _ _ _ => (kT (pg_tup rfl (kC (kN (pg_name (i := 5) nd rfl (.inl rfl))) (kC (kN (pg_name (i := 6) nd rfl (.inl rfl))) kE (pgs_cons (kN (pg_name (i := 6) nd rfl (.inl rfl))) kE)) (pgs_cons (kN (pg_name (i := 5) nd rfl (.inl rfl))) (kC (kN (pg_name (i := 6) nd rfl (.inl rfl))) kE (pgs_cons (kN (pg_name (i := 6) nd rfl (.inl rfl))) kE))))) (gs_len (gs_len gE_len)))) (fun _ _ _ _ _ => bNilT) (fun _ _ _ _ _ => (dCall G_product_in (hr.mono (by omega)) (by rfl) T.m_product_in T.k_product_in T.b_product_in takes0 (aCons (dIx (dVar (pv 5)) dInt (fun _ _ => rfl)) (aCons (dIx (dVar (pv 6)) dInt (fun _ _ => rfl)) aNil)) (lCons_len (lCons_len lNil_len))))))) aNil) (lCons_len lNil_len))))
    (hOne (hRet (dTup (aCons (dVar (pv 4)) (aCons (dCall G_sum_over (hr.mono (by omega)) (by rfl) T.m_sum_over T.k_sum_over T.b_sum_over tk (aCons (dFE (dLc (pe_lc (own := [("pair", 5), ("own", 6)]) rfl nd (jSeq (dVar (pv 3))) (blkOk_by (N := ["first", "second", "rule", "rows", "false", "pair", "own"]) (sc := defScope st_both_shares) (by decide +kernel)) (fun _ _ _ _ _ => (kT (pg_tup rfl (kC (kN (pg_name (i := 5) nd rfl (.inl rfl))) (kC (kN (pg_name (i := 6) nd rfl (.inl rfl))) kE (pgs_cons (kN (pg_name (i := 6) nd rfl (.inl rfl))) kE)) (pgs_cons (kN (pg_name (i := 5) nd rfl (.inl rfl))) (kC (kN (pg_name (i := 6) nd rfl (.inl rfl))) kE (pgs_cons (kN (pg_name (i := 6) nd rfl (.inl rfl))) kE))))) (gs_len (gs_len gE_len)))) (fun _ _ _ _ _ => bNilT) (fun _ _ _ _ _ => (dCall G_product_in (hr.mono (by omega)) (by rfl) T.m_product_in T.k_product_in T.b_product_in takes0 (aCons (dIx (dVar (pv 5)) dInt (fun _ _ => rfl)) (aCons (dIx (dVar (pv 6)) dInt (fun _ _ => rfl)) aNil)) (lCons_len (lCons_len lNil_len))))))) aNil) (lCons_len lNil_len)) aNil)))))))
theorem ok_false_share (T : Txt K mg ad fd) (F : Fun K "false_share" "false_share" st_false_share (ad 36) (fd 36)) (G_need_rule : FnOk P w K mg base (L2.CX P w) 8 (ad 33) (fd 33) ["first", "second", "rule"] (SpD K cl 3 g_need_rule)) (G_both_shares : FnOk P w K mg base (L2.CX P w) 5 (ad 35) (fd 35) ["first", "second", "rule"] (SpD K cl 3 g_both_shares)) : FnOk P w K mg base (L2.CX P w) 9 (ad 36) (fd 36) ["first", "second", "rule"] (SpD K cl 3 g_false_share) := show FnOk P w K mg base (L2.CX P w) 9 (ad 36) (fd 36) ["first", "second", "rule"] (SpD K cl 3 (bodyD F_false_share 3)) from okD2 (k := 8) (N := ["first", "second", "rule"]) (ps := ["first", "second", "rule"]) F_false_share F sc_false_share rfl rfl (by decide) fun cdv A outer s H E hr => by
  have nd := sc_false_share.nd
  have hu := hu_of hr
  have hu64 := hr.units
  have tk : Takes (cxOf (L2.CX P w) P w K mg base ["first", "second", "rule"] "false_share" (defScope st_false_share) (ad 36) cdv A outer s H E) (WE0 E) := takes_of rfl rfl rfl rfl
  have ps : PassesOwn (model P w) (cxOf (L2.CX P w) P w K mg base ["first", "second", "rule"] "false_share" (defScope st_false_share) (ad 36) cdv A outer s H E).A (cxOf (L2.CX P w) P w K mg base ["first", "second", "rule"] "false_share" (defScope st_false_share) (ad 36) cdv A outer s H E).env (cxOf (L2.CX P w) P w K mg base ["first", "second", "rule"] "false_share" (defScope st_false_share) (ad 36) cdv A outer s H E).xe := passes_of rfl
  exact (hCons (hExpr (dCall G_need_rule (hr.mono (by omega)) (by rfl) T.m_need_rule T.k_need_rule T.b_need_rule tk (aCons (dVar (pv 0)) (aCons (dVar (pv 1)) (aCons (dVar (pv 2)) aNil))) (lCons_len (lCons_len (lCons_len lNil_len)))))
    (hOne (hRet (dIx (dCall G_both_shares (hr.mono (by omega)) (by rfl) T.m_both_shares T.k_both_shares T.b_both_shares tk (aCons (dVar (pv 0)) (aCons (dVar (pv 1)) (aCons (dVar (pv 2)) aNil))) (lCons_len (lCons_len (lCons_len lNil_len)))) dInt (fun _ _ => rfl)))))
theorem ok_is_rule (T : Txt K mg ad fd) (F : Fun K "is_rule" "is_rule" st_is_rule (ad 37) (fd 37)) (G_need_both : FnOk P w K mg base (L2.CX P w) 7 (ad 18) (fd 18) ["first", "second"] (SpD K cl 2 g_need_both)) (G_fits_rule : FnOk P w K mg base (L2.CX P w) 3 (ad 32) (fd 32) ["first", "second", "value"] (SpD K cl 3 g_fits_rule)) : FnOk P w K mg base (L2.CX P w) 8 (ad 37) (fd 37) ["first", "second", "value"] (SpD K cl 3 g_is_rule) := show FnOk P w K mg base (L2.CX P w) 8 (ad 37) (fd 37) ["first", "second", "value"] (SpD K cl 3 (bodyD F_is_rule 3)) from okD2 (k := 7) (N := ["first", "second", "value"]) (ps := ["first", "second", "value"]) F_is_rule F sc_is_rule rfl rfl (by decide) fun cdv A outer s H E hr => by
  have nd := sc_is_rule.nd
  have hu := hu_of hr
  have hu64 := hr.units
  have tk : Takes (cxOf (L2.CX P w) P w K mg base ["first", "second", "value"] "is_rule" (defScope st_is_rule) (ad 37) cdv A outer s H E) (WE0 E) := takes_of rfl rfl rfl rfl
  have ps : PassesOwn (model P w) (cxOf (L2.CX P w) P w K mg base ["first", "second", "value"] "is_rule" (defScope st_is_rule) (ad 37) cdv A outer s H E).A (cxOf (L2.CX P w) P w K mg base ["first", "second", "value"] "is_rule" (defScope st_is_rule) (ad 37) cdv A outer s H E).env (cxOf (L2.CX P w) P w K mg base ["first", "second", "value"] "is_rule" (defScope st_is_rule) (ad 37) cdv A outer s H E).xe := passes_of rfl
  exact (hCons (hExpr (dCall G_need_both (hr.mono (by omega)) (by rfl) T.m_need_both T.k_need_both T.b_need_both tk (aCons (dVar (pv 0)) (aCons (dVar (pv 1)) aNil)) (lCons_len (lCons_len lNil_len))))
    (hOne (hRet (dCall G_fits_rule (hr.mono (by omega)) (by rfl) T.m_fits_rule T.k_fits_rule T.b_fits_rule tk (aCons (dVar (pv 0)) (aCons (dVar (pv 1)) (aCons (dVar (pv 2)) aNil))) (lCons_len (lCons_len (lCons_len lNil_len)))))))
theorem ok_power_of_rule (T : Txt K mg ad fd) (F : Fun K "power_of_rule" "power_of_rule" st_power_of_rule (ad 38) (fd 38)) (G_need_rule : FnOk P w K mg base (L2.CX P w) 8 (ad 33) (fd 33) ["first", "second", "rule"] (SpD K cl 3 g_need_rule)) (G_both_shares : FnOk P w K mg base (L2.CX P w) 5 (ad 35) (fd 35) ["first", "second", "rule"] (SpD K cl 3 g_both_shares)) : FnOk P w K mg base (L2.CX P w) 9 (ad 38) (fd 38) ["first", "second", "rule"] (SpD K cl 3 g_power_of_rule) := show FnOk P w K mg base (L2.CX P w) 9 (ad 38) (fd 38) ["first", "second", "rule"] (SpD K cl 3 (bodyD F_power_of_rule 3)) from okD2 (k := 8) (N := ["first", "second", "rule"]) (ps := ["first", "second", "rule"]) F_power_of_rule F sc_power_of_rule rfl rfl (by decide) fun cdv A outer s H E hr => by
  have nd := sc_power_of_rule.nd
  have hu := hu_of hr
  have hu64 := hr.units
  have tk : Takes (cxOf (L2.CX P w) P w K mg base ["first", "second", "rule"] "power_of_rule" (defScope st_power_of_rule) (ad 38) cdv A outer s H E) (WE0 E) := takes_of rfl rfl rfl rfl
  have ps : PassesOwn (model P w) (cxOf (L2.CX P w) P w K mg base ["first", "second", "rule"] "power_of_rule" (defScope st_power_of_rule) (ad 38) cdv A outer s H E).A (cxOf (L2.CX P w) P w K mg base ["first", "second", "rule"] "power_of_rule" (defScope st_power_of_rule) (ad 38) cdv A outer s H E).env (cxOf (L2.CX P w) P w K mg base ["first", "second", "rule"] "power_of_rule" (defScope st_power_of_rule) (ad 38) cdv A outer s H E).xe := passes_of rfl
  exact (hCons (hExpr (dCall G_need_rule (hr.mono (by omega)) (by rfl) T.m_need_rule T.k_need_rule T.b_need_rule tk (aCons (dVar (pv 0)) (aCons (dVar (pv 1)) (aCons (dVar (pv 2)) aNil))) (lCons_len (lCons_len (lCons_len lNil_len)))))
    (hOne (hRet (dIx (dCall G_both_shares (hr.mono (by omega)) (by rfl) T.m_both_shares T.k_both_shares T.b_both_shares tk (aCons (dVar (pv 0)) (aCons (dVar (pv 1)) (aCons (dVar (pv 2)) aNil))) (lCons_len (lCons_len (lCons_len lNil_len)))) dInt (fun _ _ => rfl)))))
theorem ok__law_values (T : Txt K mg ad fd) (F : Fun K "_law_values" "_law_values" st__law_values (ad 39) (fd 39)) : FnOk P w K mg base (L2.CX P w) 1 (ad 39) (fd 39) ["first", "second"] (SpD K cl 2 g__law_values) := show FnOk P w K mg base (L2.CX P w) 1 (ad 39) (fd 39) ["first", "second"] (SpD K cl 2 (bodyD F__law_values 7)) from okD2 (k := 0) (N := ["first", "second", "one", "other", "every", "value", "chance"]) (ps := ["first", "second"]) F__law_values F sc__law_values rfl rfl (by decide) fun cdv A outer s H E hr => by
  have nd := sc__law_values.nd
  have hu := hu_of hr
  have hu64 := hr.units
  have tk : Takes (cxOf (L2.CX P w) P w K mg base ["first", "second", "one", "other", "every", "value", "chance"] "_law_values" (defScope st__law_values) (ad 39) cdv A outer s H E) (WE0 E) := takes_of rfl rfl rfl rfl
  have ps : PassesOwn (model P w) (cxOf (L2.CX P w) P w K mg base ["first", "second", "one", "other", "every", "value", "chance"] "_law_values" (defScope st__law_values) (ad 39) cdv A outer s H E).A (cxOf (L2.CX P w) P w K mg base ["first", "second", "one", "other", "every", "value", "chance"] "_law_values" (defScope st__law_values) (ad 39) cdv A outer s H E).env (cxOf (L2.CX P w) P w K mg base ["first", "second", "one", "other", "every", "value", "chance"] "_law_values" (defScope st__law_values) (ad 39) cdv A outer s H E).xe := passes_of rfl
  exact (hCons (hParT (is := [2, 3]) (ps_asg (pe_tup (jVal (dFE (dCtyF (call_dictT rfl) c_dictT (by rfl) T.z_dict (by decide +kernel) (aCons (dVar (pv 0)) aNil))) (jVal (dFE (dCtyF (call_dictT rfl) c_dictT (by rfl) T.z_dict (by decide +kernel) (aCons (dVar (pv 1)) aNil))) jNil))) (pg_tup rfl (pgs_cons (pg_name (i := 2) nd rfl (.inr rfl)) (pgs_cons (pg_name (i := 3) nd rfl (.inr rfl)) pgs_nil)))))
    (hCons (hAsg (ps_set (i := 4) nd rfl (.inl rfl) (dFE (dSortSet rfl (by rfl) T.z_sorted (by decide +kernel) (by rfl) T.z_set (by decide +kernel) (aCons (dFE (dLc (pe_lc (own := [("value", 5), ("chance", 6)]) rfl nd (jSeq (dBin op_addD o_add (dVar (pv 0)) (dVar (pv 1)))) (blkOk_by (N := ["first", "second", "one", "other", "every", "value", "chance"]) (sc := defScope st__law_values) (by decide +kernel)) (fun _ _ _ _ _ => (kT (pg_tup rfl (kC (kN (pg_name (i := 5) nd rfl (.inl rfl))) (kC (kN (pg_name (i := 6) nd rfl (.inl rfl))) kE (pgs_cons (kN (pg_name (i := 6) nd rfl (.inl rfl))) kE)) (pgs_cons (kN (pg_name (i := 5) nd rfl (.inl rfl))) (kC (kN (pg_name (i := 6) nd rfl (.inl rfl))) kE (pgs_cons (kN (pg_name (i := 6) nd rfl (.inl rfl))) kE))))) (gs_len (gs_len gE_len)))) (fun _ _ _ _ _ => bNilT) (fun _ _ _ _ _ => (dVar (pv 5)))))) aNil)))))
    (hOne (hRet (dFE (dLc (pe_lc (own := [("value", 5)]) rfl nd (jSeq (dVar (pv 4))) (blkOk_by (N := ["first", "second", "one", "other", "every", "value", "chance"]) (sc := defScope st__law_values) (by decide +kernel)) (fun _ _ _ _ _ => (kN (pg_name (i := 5) nd rfl (.inl rfl)))) (fun _ _ _ _ _ => bNilT) (fun _ _ _ _ _ => (dTup (aCons (dVar (pv 5)) (aCons (dGet2K hu (dVar (pv 2)) (dVar (pv 5)) (dTup (aCons dInt (aCons dInt aNil))) ⟨rfl, rfl, rfl, rfl⟩) (aCons (dGet2K hu (dVar (pv 3)) (dVar (pv 5)) (dTup (aCons dInt (aCons dInt aNil))) ⟨rfl, rfl, rfl, rfl⟩) aNil))))))))))))
theorem ok_are_chances (T : Txt K mg ad fd) (F : Fun K "are_chances" "are_chances" st_are_chances (ad 40) (fd 40)) (G_fits_chances : FnOk P w K mg base (L2.CX P w) 5 (ad 12) (fd 12) ["value"] (SpD K cl 1 g_fits_chances)) : FnOk P w K mg base (L2.CX P w) 6 (ad 40) (fd 40) ["value"] (SpD K cl 1 g_are_chances) := show FnOk P w K mg base (L2.CX P w) 6 (ad 40) (fd 40) ["value"] (SpD K cl 1 (bodyD F_are_chances 1)) from okD2 (k := 5) (N := ["value"]) (ps := ["value"]) F_are_chances F sc_are_chances rfl rfl (by decide) fun cdv A outer s H E hr => by
  have nd := sc_are_chances.nd
  have hu := hu_of hr
  have hu64 := hr.units
  have tk : Takes (cxOf (L2.CX P w) P w K mg base ["value"] "are_chances" (defScope st_are_chances) (ad 40) cdv A outer s H E) (WE0 E) := takes_of rfl rfl rfl rfl
  have ps : PassesOwn (model P w) (cxOf (L2.CX P w) P w K mg base ["value"] "are_chances" (defScope st_are_chances) (ad 40) cdv A outer s H E).A (cxOf (L2.CX P w) P w K mg base ["value"] "are_chances" (defScope st_are_chances) (ad 40) cdv A outer s H E).env (cxOf (L2.CX P w) P w K mg base ["value"] "are_chances" (defScope st_are_chances) (ad 40) cdv A outer s H E).xe := passes_of rfl
  exact (hOne (hRet (dCall G_fits_chances (hr.mono (by omega)) (by rfl) T.m_fits_chances T.k_fits_chances T.b_fits_chances tk (aCons (dVar (pv 0)) aNil) (lCons_len lNil_len))))
theorem ok_is_chance (T : Txt K mg ad fd) (F : Fun K "is_chance" "is_chance" st_is_chance (ad 41) (fd 41)) (G_fits_chance : FnOk P w K mg base (L2.CX P w) 3 (ad 9) (fd 9) ["value"] (SpD K cl 1 g_fits_chance)) : FnOk P w K mg base (L2.CX P w) 4 (ad 41) (fd 41) ["value"] (SpD K cl 1 g_is_chance) := show FnOk P w K mg base (L2.CX P w) 4 (ad 41) (fd 41) ["value"] (SpD K cl 1 (bodyD F_is_chance 1)) from okD2 (k := 3) (N := ["value"]) (ps := ["value"]) F_is_chance F sc_is_chance rfl rfl (by decide) fun cdv A outer s H E hr => by
  have nd := sc_is_chance.nd
  have hu := hu_of hr
  have hu64 := hr.units
  have tk : Takes (cxOf (L2.CX P w) P w K mg base ["value"] "is_chance" (defScope st_is_chance) (ad 41) cdv A outer s H E) (WE0 E) := takes_of rfl rfl rfl rfl
  have ps : PassesOwn (model P w) (cxOf (L2.CX P w) P w K mg base ["value"] "is_chance" (defScope st_is_chance) (ad 41) cdv A outer s H E).A (cxOf (L2.CX P w) P w K mg base ["value"] "is_chance" (defScope st_is_chance) (ad 41) cdv A outer s H E).env (cxOf (L2.CX P w) P w K mg base ["value"] "is_chance" (defScope st_is_chance) (ad 41) cdv A outer s H E).xe := passes_of rfl
  exact (hOne (hRet (dCall G_fits_chance (hr.mono (by omega)) (by rfl) T.m_fits_chance T.k_fits_chance T.b_fits_chance tk (aCons (dVar (pv 0)) aNil) (lCons_len lNil_len))))
theorem ok__law_under (T : Txt K mg ad fd) (F : Fun K "_law_under" "_law_under" st__law_under (ad 42) (fd 42)) : FnOk P w K mg base (L2.CX P w) 1 (ad 42) (fd 42) ["one", "other"] (SpD K cl 2 g__law_under) := show FnOk P w K mg base (L2.CX P w) 1 (ad 42) (fd 42) ["one", "other"] (SpD K cl 2 (bodyD F__law_under 2)) from okD2 (k := 0) (N := ["one", "other"]) (ps := ["one", "other"]) F__law_under F sc__law_under rfl rfl (by decide) fun cdv A outer s H E hr => by
  have nd := sc__law_under.nd
  have hu := hu_of hr
  have hu64 := hr.units
  have tk : Takes (cxOf (L2.CX P w) P w K mg base ["one", "other"] "_law_under" (defScope st__law_under) (ad 42) cdv A outer s H E) (WE0 E) := takes_of rfl rfl rfl rfl
  have ps : PassesOwn (model P w) (cxOf (L2.CX P w) P w K mg base ["one", "other"] "_law_under" (defScope st__law_under) (ad 42) cdv A outer s H E).A (cxOf (L2.CX P w) P w K mg base ["one", "other"] "_law_under" (defScope st__law_under) (ad 42) cdv A outer s H E).env (cxOf (L2.CX P w) P w K mg base ["one", "other"] "_law_under" (defScope st__law_under) (ad 42) cdv A outer s H E).xe := passes_of rfl
  exact (hOne (hRet (dCmp op_lt o_cmpI (dBin op_mulD o_mul (dIx (dVar (pv 0)) dInt (fun _ _ => rfl)) (dIx (dVar (pv 1)) dInt (fun _ _ => rfl))) (dBin op_mulD o_mul (dIx (dVar (pv 1)) dInt (fun _ _ => rfl)) (dIx (dVar (pv 0)) dInt (fun _ _ => rfl))) (nomark _))))
theorem ok__law_chance (T : Txt K mg ad fd) (F : Fun K "_law_chance" "_law_chance" st__law_chance (ad 43) (fd 43)) (G__law_roll : FnOk P w K mg base (L2.CX P w) 1 (ad 26) (fd 26) ["cup", "many"] (SpD K cl 2 g__law_roll)) (G__law_least : FnOk P w K mg base (L2.CX P w) 2 (ad 28) (fd 28) ["above", "below"] (SpD K cl 2 g__law_least)) : FnOk P w K mg base (L2.CX P w) 3 (ad 43) (fd 43) ["cup"] (SpD K cl 1 g__law_chance) := show FnOk P w K mg base (L2.CX P w) 3 (ad 43) (fd 43) ["cup"] (SpD K cl 1 (bodyD F__law_chance 2)) from okD2 (k := 2) (N := ["cup", "below"]) (ps := ["cup"]) F__law_chance F sc__law_chance rfl rfl (by decide) fun cdv A outer s H E hr => by
  have nd := sc__law_chance.nd
  have hu := hu_of hr
  have hu64 := hr.units
  have tk : Takes (cxOf (L2.CX P w) P w K mg base ["cup", "below"] "_law_chance" (defScope st__law_chance) (ad 43) cdv A outer s H E) (WE0 E) := takes_of rfl rfl rfl rfl
  have ps : PassesOwn (model P w) (cxOf (L2.CX P w) P w K mg base ["cup", "below"] "_law_chance" (defScope st__law_chance) (ad 43) cdv A outer s H E).A (cxOf (L2.CX P w) P w K mg base ["cup", "below"] "_law_chance" (defScope st__law_chance) (ad 43) cdv A outer s H E).env (cxOf (L2.CX P w) P w K mg base ["cup", "below"] "_law_chance" (defScope st__law_chance) (ad 43) cdv A outer s H E).xe := passes_of rfl
  exact (hCons (hAsg (ps_set (i := 1) nd rfl (.inl rfl) (dBin op_addD o_add dInt (dCall G__law_roll (hr.mono (by omega)) (by rfl) T.m__law_roll T.k__law_roll T.b__law_roll tk (aCons (dVar (pv 0)) (aCons dInt aNil)) (lCons_len (lCons_len lNil_len))))))
    (hOne (hRet (dCall G__law_least (hr.mono (by omega)) (by rfl) T.m__law_least T.k__law_least T.b__law_least tk (aCons (dCall G__law_roll (hr.mono (by omega)) (by rfl) T.m__law_roll T.k__law_roll T.b__law_roll tk (aCons (dVar (pv 0)) (aCons (dBin op_addD o_add (dVar (pv 1)) dInt) aNil)) (lCons_len (lCons_len lNil_len))) (aCons (dVar (pv 1)) aNil)) (lCons_len (lCons_len lNil_len))))))
theorem ok__law_plus (T : Txt K mg ad fd) (F : Fun K "_law_plus" "_law_plus" st__law_plus (ad 44) (fd 44)) (G__law_least : FnOk P w K mg base (L2.CX P w) 2 (ad 28) (fd 28) ["above", "below"] (SpD K cl 2 g__law_least)) : FnOk P w K mg base (L2.CX P w) 3 (ad 44) (fd 44) ["one", "other"] (SpD K cl 2 g__law_plus) := show FnOk P w K mg base (L2.CX P w) 3 (ad 44) (fd 44) ["one", "other"] (SpD K cl 2 (bodyD F__law_plus 2)) from okD2 (k := 2) (N := ["one", "other"]) (ps := ["one", "other"]) F__law_plus F sc__law_plus rfl rfl (by decide) fun cdv A outer s H E hr => by
  have nd := sc__law_plus.nd
  have hu := hu_of hr
  have hu64 := hr.units
  have tk : Takes (cxOf (L2.CX P w) P w K mg base ["one", "other"] "_law_plus" (defScope st__law_plus) (ad 44) cdv A outer s H E) (WE0 E) := takes_of rfl rfl rfl rfl
  have ps : PassesOwn (model P w) (cxOf (L2.CX P w) P w K mg base ["one", "other"] "_law_plus" (defScope st__law_plus) (ad 44) cdv A outer s H E).A (cxOf (L2.CX P w) P w K mg base ["one", "other"] "_law_plus" (defScope st__law_plus) (ad 44) cdv A outer s H E).env (cxOf (L2.CX P w) P w K mg base ["one", "other"] "_law_plus" (defScope st__law_plus) (ad 44) cdv A outer s H E).xe := passes_of rfl
  exact (hOne (hRet (dCall G__law_least (hr.mono (by omega)) (by rfl) T.m__law_least T.k__law_least T.b__law_least tk (aCons (dBin op_addD o_add (dBin op_mulD o_mul (dIx (dVar (pv 0)) dInt (fun _ _ => rfl)) (dIx (dVar (pv 1)) dInt (fun _ _ => rfl))) (dBin op_mulD o_mul (dIx (dVar (pv 1)) dInt (fun _ _ => rfl)) (dIx (dVar (pv 0)) dInt (fun _ _ => rfl)))) (aCons (dBin op_mulD o_mul (dIx (dVar (pv 0)) dInt (fun _ _ => rfl)) (dIx (dVar (pv 1)) dInt (fun _ _ => rfl))) aNil)) (lCons_len (lCons_len lNil_len)))))
theorem ok__law_times (T : Txt K mg ad fd) (F : Fun K "_law_times" "_law_times" st__law_times (ad 45) (fd 45)) (G__law_least : FnOk P w K mg base (L2.CX P w) 2 (ad 28) (fd 28) ["above", "below"] (SpD K cl 2 g__law_least)) : FnOk P w K mg base (L2.CX P w) 3 (ad 45) (fd 45) ["one", "other"] (SpD K cl 2 g__law_times) := show FnOk P w K mg base (L2.CX P w) 3 (ad 45) (fd 45) ["one", "other"] (SpD K cl 2 (bodyD F__law_times 2)) from okD2 (k := 2) (N := ["one", "other"]) (ps := ["one", "other"]) F__law_times F sc__law_times rfl rfl (by decide) fun cdv A outer s H E hr => by
  have nd := sc__law_times.nd
  have hu := hu_of hr
  have hu64 := hr.units
  have tk : Takes (cxOf (L2.CX P w) P w K mg base ["one", "other"] "_law_times" (defScope st__law_times) (ad 45) cdv A outer s H E) (WE0 E) := takes_of rfl rfl rfl rfl
  have ps : PassesOwn (model P w) (cxOf (L2.CX P w) P w K mg base ["one", "other"] "_law_times" (defScope st__law_times) (ad 45) cdv A outer s H E).A (cxOf (L2.CX P w) P w K mg base ["one", "other"] "_law_times" (defScope st__law_times) (ad 45) cdv A outer s H E).env (cxOf (L2.CX P w) P w K mg base ["one", "other"] "_law_times" (defScope st__law_times) (ad 45) cdv A outer s H E).xe := passes_of rfl
  exact (hOne (hRet (dCall G__law_least (hr.mono (by omega)) (by rfl) T.m__law_least T.k__law_least T.b__law_least tk (aCons (dBin op_mulD o_mul (dIx (dVar (pv 0)) dInt (fun _ _ => rfl)) (dIx (dVar (pv 1)) dInt (fun _ _ => rfl))) (aCons (dBin op_mulD o_mul (dIx (dVar (pv 0)) dInt (fun _ _ => rfl)) (dIx (dVar (pv 1)) dInt (fun _ _ => rfl))) aNil)) (lCons_len (lCons_len lNil_len)))))
theorem ok__law_shares (T : Txt K mg ad fd) (F : Fun K "_law_shares" "_law_shares" st__law_shares (ad 46) (fd 46)) (G__law_values : FnOk P w K mg base (L2.CX P w) 1 (ad 39) (fd 39) ["first", "second"] (SpD K cl 2 g__law_values)) (G__law_times : FnOk P w K mg base (L2.CX P w) 3 (ad 45) (fd 45) ["one", "other"] (SpD K cl 2 g__law_times)) (G__law_plus : FnOk P w K mg base (L2.CX P w) 3 (ad 44) (fd 44) ["one", "other"] (SpD K cl 2 g__law_plus)) : FnOk P w K mg base (L2.CX P w) 4 (ad 46) (fd 46) ["first", "second", "rule"] (SpD K cl 3 g__law_shares) := show FnOk P w K mg base (L2.CX P w) 4 (ad 46) (fd 46) ["first", "second", "rule"] (SpD K cl 3 (bodyD F__law_shares 10)) from okD2 (k := 3) (N := ["first", "second", "rule", "false", "power", "value", "share", "same", "one", "other"]) (ps := ["first", "second", "rule"]) F__law_shares F sc__law_shares rfl rfl (by decide) fun cdv A outer s H E hr => by
  have nd := sc__law_shares.nd
  have hu := hu_of hr
  have hu64 := hr.units
  have tk : Takes (cxOf (L2.CX P w) P w K mg base ["first", "second", "rule", "false", "power", "value", "share", "same", "one", "other"] "_law_shares" (defScope st__law_shares) (ad 46) cdv A outer s H E) (WE0 E) := takes_of rfl rfl rfl rfl
  have ps : PassesOwn (model P w) (cxOf (L2.CX P w) P w K mg base ["first", "second", "rule", "false", "power", "value", "share", "same", "one", "other"] "_law_shares" (defScope st__law_shares) (ad 46) cdv A outer s H E).A (cxOf (L2.CX P w) P w K mg base ["first", "second", "rule", "false", "power", "value", "share", "same", "one", "other"] "_law_shares" (defScope st__law_shares) (ad 46) cdv A outer s H E).env (cxOf (L2.CX P w) P w K mg base ["first", "second", "rule", "false", "power", "value", "share", "same", "one", "other"] "_law_shares" (defScope st__law_shares) (ad 46) cdv A outer s H E).xe := passes_of rfl
  exact (hCons (hParT (is := [3, 4]) (ps_asg (pe_tup (jVal (dTup (aCons dInt (aCons dInt aNil))) (jVal (dTup (aCons dInt (aCons dInt aNil))) jNil))) (pg_tup rfl (pgs_cons (pg_name (i := 3) nd rfl (.inl rfl)) (pgs_cons (pg_name (i := 4) nd rfl (.inl rfl)) pgs_nil)))))
    (hCons (hFor (ps_for ps rfl (jZipA (pi_zipK (by rfl) T.z_zip (aCons (dVar (pv 2)) (aCons (dCall G__law_values (hr.mono (by omega)) (by rfl) T.m__law_values T.k__law_values T.b__law_values tk (aCons (dVar (pv 0)) (aCons (dVar (pv 1)) aNil)) (lCons_len (lCons_len lNil_len))) aNil)))) (kT (pg_tup rfl (kC (kT (pg_tup rfl (kC (kN (pg_name (i := 5) nd rfl (.inl rfl))) (kC (kN (pg_name (i := 6) nd rfl (.inl rfl))) kE (pgs_cons (kN (pg_name (i := 6) nd rfl (.inl rfl))) kE)) (pgs_cons (kN (pg_name (i := 5) nd rfl (.inl rfl))) (kC (kN (pg_name (i := 6) nd rfl (.inl rfl))) kE (pgs_cons (kN (pg_name (i := 6) nd rfl (.inl rfl))) kE))))) (gs_len (gs_len gE_len))) (kC (kT (pg_tup rfl (kC (kN (pg_name (i := 7) nd rfl (.inl rfl))) (kC (kN (pg_name (i := 8) nd rfl (.inl rfl))) (kC (kN (pg_name (i := 9) nd rfl (.inl rfl))) kE (pgs_cons (kN (pg_name (i := 9) nd rfl (.inl rfl))) kE)) (pgs_cons (kN (pg_name (i := 8) nd rfl (.inl rfl))) (kC (kN (pg_name (i := 9) nd rfl (.inl rfl))) kE (pgs_cons (kN (pg_name (i := 9) nd rfl (.inl rfl))) kE)))) (pgs_cons (kN (pg_name (i := 7) nd rfl (.inl rfl))) (kC (kN (pg_name (i := 8) nd rfl (.inl rfl))) (kC (kN (pg_name (i := 9) nd rfl (.inl rfl))) kE (pgs_cons (kN (pg_name (i := 9) nd rfl (.inl rfl))) kE)) (pgs_cons (kN (pg_name (i := 8) nd rfl (.inl rfl))) (kC (kN (pg_name (i := 9) nd rfl (.inl rfl))) kE (pgs_cons (kN (pg_name (i := 9) nd rfl (.inl rfl))) kE))))))) (gs_len (gs_len (gs_len gE_len)))) kE (pgs_cons (kT (pg_tup rfl (kC (kN (pg_name (i := 7) nd rfl (.inl rfl))) (kC (kN (pg_name (i := 8) nd rfl (.inl rfl))) (kC (kN (pg_name (i := 9) nd rfl (.inl rfl))) kE (pgs_cons (kN (pg_name (i := 9) nd rfl (.inl rfl))) kE)) (pgs_cons (kN (pg_name (i := 8) nd rfl (.inl rfl))) (kC (kN (pg_name (i := 9) nd rfl (.inl rfl))) kE (pgs_cons (kN (pg_name (i := 9) nd rfl (.inl rfl))) kE)))) (pgs_cons (kN (pg_name (i := 7) nd rfl (.inl rfl))) (kC (kN (pg_name (i := 8) nd rfl (.inl rfl))) (kC (kN (pg_name (i := 9) nd rfl (.inl rfl))) kE (pgs_cons (kN (pg_name (i := 9) nd rfl (.inl rfl))) kE)) (pgs_cons (kN (pg_name (i := 8) nd rfl (.inl rfl))) (kC (kN (pg_name (i := 9) nd rfl (.inl rfl))) kE (pgs_cons (kN (pg_name (i := 9) nd rfl (.inl rfl))) kE))))))) (gs_len (gs_len (gs_len gE_len)))) kE)) (pgs_cons (kT (pg_tup rfl (kC (kN (pg_name (i := 5) nd rfl (.inl rfl))) (kC (kN (pg_name (i := 6) nd rfl (.inl rfl))) kE (pgs_cons (kN (pg_name (i := 6) nd rfl (.inl rfl))) kE)) (pgs_cons (kN (pg_name (i := 5) nd rfl (.inl rfl))) (kC (kN (pg_name (i := 6) nd rfl (.inl rfl))) kE (pgs_cons (kN (pg_name (i := 6) nd rfl (.inl rfl))) kE))))) (gs_len (gs_len gE_len))) (kC (kT (pg_tup rfl (kC (kN (pg_name (i := 7) nd rfl (.inl rfl))) (kC (kN (pg_name (i := 8) nd rfl (.inl rfl))) (kC (kN (pg_name (i := 9) nd rfl (.inl rfl))) kE (pgs_cons (kN (pg_name (i := 9) nd rfl (.inl rfl))) kE)) (pgs_cons (kN (pg_name (i := 8) nd rfl (.inl rfl))) (kC (kN (pg_name (i := 9) nd rfl (.inl rfl))) kE (pgs_cons (kN (pg_name (i := 9) nd rfl (.inl rfl))) kE)))) (pgs_cons (kN (pg_name (i := 7) nd rfl (.inl rfl))) (kC (kN (pg_name (i := 8) nd rfl (.inl rfl))) (kC (kN (pg_name (i := 9) nd rfl (.inl rfl))) kE (pgs_cons (kN (pg_name (i := 9) nd rfl (.inl rfl))) kE)) (pgs_cons (kN (pg_name (i := 8) nd rfl (.inl rfl))) (kC (kN (pg_name (i := 9) nd rfl (.inl rfl))) kE (pgs_cons (kN (pg_name (i := 9) nd rfl (.inl rfl))) kE))))))) (gs_len (gs_len (gs_len gE_len)))) kE (pgs_cons (kT (pg_tup rfl (kC (kN (pg_name (i := 7) nd rfl (.inl rfl))) (kC (kN (pg_name (i := 8) nd rfl (.inl rfl))) (kC (kN (pg_name (i := 9) nd rfl (.inl rfl))) kE (pgs_cons (kN (pg_name (i := 9) nd rfl (.inl rfl))) kE)) (pgs_cons (kN (pg_name (i := 8) nd rfl (.inl rfl))) (kC (kN (pg_name (i := 9) nd rfl (.inl rfl))) kE (pgs_cons (kN (pg_name (i := 9) nd rfl (.inl rfl))) kE)))) (pgs_cons (kN (pg_name (i := 7) nd rfl (.inl rfl))) (kC (kN (pg_name (i := 8) nd rfl (.inl rfl))) (kC (kN (pg_name (i := 9) nd rfl (.inl rfl))) kE (pgs_cons (kN (pg_name (i := 9) nd rfl (.inl rfl))) kE)) (pgs_cons (kN (pg_name (i := 8) nd rfl (.inl rfl))) (kC (kN (pg_name (i := 9) nd rfl (.inl rfl))) kE (pgs_cons (kN (pg_name (i := 9) nd rfl (.inl rfl))) kE))))))) (gs_len (gs_len (gs_len gE_len)))) kE))))) (gs_len (gs_len gE_len))) (hOne (hPar2 (ps_par (i := 3) (j := 4) rfl nd rfl rfl (by decide) rfl rfl (jVal (dCall G__law_plus (hr.mono (by omega)) (by rfl) T.m__law_plus T.k__law_plus T.b__law_plus tk (aCons (dVar (pv 3)) (aCons (dCall G__law_times (hr.mono (by omega)) (by rfl) T.m__law_times T.k__law_times T.b__law_times tk (aCons (dVar (pv 6)) (aCons (dVar (pv 8)) aNil)) (lCons_len (lCons_len lNil_len))) aNil)) (lCons_len (lCons_len lNil_len))) (jVal (dCall G__law_plus (hr.mono (by omega)) (by rfl) T.m__law_plus T.k__law_plus T.b__law_plus tk (aCons (dVar (pv 4)) (aCons (dCall G__law_times (hr.mono (by omega)) (by rfl) T.m__law_times T.k__law_times T.b__law_times tk (aCons (dVar (pv 6)) (aCons (dVar (pv 9)) aNil)) (lCons_len (lCons_len lNil_len))) aNil)) (lCons_len (lCons_len lNil_len))) jNil)) (by rfl))))))
    (hOne (hRet (dTup (aCons (dVar (pv 3)) (aCons (dVar (pv 4)) aNil)))))))
theorem ok__law_is_share (T : Txt K mg ad fd) (F : Fun K "_law_is_share" "_law_is_share" st__law_is_share (ad 47) (fd 47)) (G__law_sort : FnOk P w K mg base (L2.CX P w) 1 (ad 16) (fd 16) ["value"] (SpD K cl 1 g__law_sort)) (G__law_divisor : FnOk P w K mg base (L2.CX P w) 1 (ad 27) (fd 27) ["one", "other"] (SpD K cl 2 g__law_divisor)) : FnOk P w K mg base (L2.CX P w) 2 (ad 47) (fd 47) ["value"] (SpD K cl 1 g__law_is_share) := show FnOk P w K mg base (L2.CX P w) 2 (ad 47) (fd 47) ["value"] (SpD K cl 1 (bodyD F__law_is_share 2)) from okD2 (k := 1) (N := ["value", "one"]) (ps := ["value"]) F__law_is_share F sc__law_is_share rfl rfl (by decide) fun cdv A outer s H E hr => by
  have nd := sc__law_is_share.nd
  have hu := hu_of hr
  have hu64 := hr.units
  have tk : Takes (cxOf (L2.CX P w) P w K mg base ["value", "one"] "_law_is_share" (defScope st__law_is_share) (ad 47) cdv A outer s H E) (WE0 E) := takes_of rfl rfl rfl rfl
  have ps : PassesOwn (model P w) (cxOf (L2.CX P w) P w K mg base ["value", "one"] "_law_is_share" (defScope st__law_is_share) (ad 47) cdv A outer s H E).A (cxOf (L2.CX P w) P w K mg base ["value", "one"] "_law_is_share" (defScope st__law_is_share) (ad 47) cdv A outer s H E).env (cxOf (L2.CX P w) P w K mg base ["value", "one"] "_law_is_share" (defScope st__law_is_share) (ad 47) cdv A outer s H E).xe := passes_of rfl
  exact (hCons (hIf (bPW (wOr (bNotE (bValE (dIsi Ty.tuple (by rfl) T.z_isinstance (by rfl) T.z_tuple (by decide +kernel) (dVar (pv 0))))) (wOr (bCmp (op_neD hu64) o_ne (dCb call_len c_len (by rfl) T.z_len (by decide +kernel) (aCons (dVar (pv 0)) aNil)) dInt (nomark _)) (wOr1 (bCmp (op_neD hu64) o_ne (dFE (dLc (pe_lc (own := [("one", 1)]) rfl nd (jSeq (dVar (pv 0))) (blkOk_by (N := ["value", "one"]) (sc := defScope st__law_is_share) (by decide +kernel)) (fun _ _ _ _ _ => (kN (pg_name (i := 1) nd rfl (.inl rfl)))) (fun _ _ _ _ _ => (pts_one (bCmp (op_neD hu64) o_ne (dCall G__law_sort (hr.mono (by omega)) (by rfl) T.m__law_sort T.k__law_sort T.b__law_sort takes0 (aCons (dVar (pv 1)) aNil) (lCons_len lNil_len)) dInt (nomark _)))) (fun _ _ _ _ _ => (dVar (pv 1)))))) (dFE (dLst aNil)) (nomark _)))))) (hOne (hRet dBl)) hNil)
    (hOne (hRet (dAnd (dCmp op_ge o_cmpI (dIx (dVar (pv 0)) dInt (fun _ _ => rfl)) dInt (nomark _)) (dAnd (dChain op_le o_cmpI op_le o_cmpI dInt (dIx (dVar (pv 0)) dInt (fun _ _ => rfl)) (dIx (dVar (pv 0)) dInt (fun _ _ => rfl))) (dOne (dCmp (op_eqD hu64) o_eq (dCall G__law_divisor (hr.mono (by omega)) (by rfl) T.m__law_divisor T.k__law_divisor T.b__law_divisor tk (aCons (dIx (dVar (pv 0)) dInt (fun _ _ => rfl)) (aCons (dIx (dVar (pv 0)) dInt (fun _ _ => rfl)) aNil)) (lCons_len (lCons_len lNil_len))) dInt (nomark _))))))))
theorem ok__law_is_rule (T : Txt K mg ad fd) (F : Fun K "_law_is_rule" "_law_is_rule" st__law_is_rule (ad 48) (fd 48)) (G__law_values : FnOk P w K mg base (L2.CX P w) 1 (ad 39) (fd 39) ["first", "second"] (SpD K cl 2 g__law_values)) (G__law_sort : FnOk P w K mg base (L2.CX P w) 1 (ad 16) (fd 16) ["value"] (SpD K cl 1 g__law_sort)) (G__law_is_share : FnOk P w K mg base (L2.CX P w) 2 (ad 47) (fd 47) ["value"] (SpD K cl 1 g__law_is_share)) : FnOk P w K mg base (L2.CX P w) 3 (ad 48) (fd 48) ["first", "second", "value"] (SpD K cl 3 g__law_is_rule) := show FnOk P w K mg base (L2.CX P w) 3 (ad 48) (fd 48) ["first", "second", "value"] (SpD K cl 3 (bodyD F__law_is_rule 6)) from okD2 (k := 2) (N := ["first", "second", "value", "values", "own", "pair"]) (ps := ["first", "second", "value"]) F__law_is_rule F sc__law_is_rule rfl rfl (by decide) fun cdv A outer s H E hr => by
  have nd := sc__law_is_rule.nd
  have hu := hu_of hr
  have hu64 := hr.units
  have tk : Takes (cxOf (L2.CX P w) P w K mg base ["first", "second", "value", "values", "own", "pair"] "_law_is_rule" (defScope st__law_is_rule) (ad 48) cdv A outer s H E) (WE0 E) := takes_of rfl rfl rfl rfl
  have ps : PassesOwn (model P w) (cxOf (L2.CX P w) P w K mg base ["first", "second", "value", "values", "own", "pair"] "_law_is_rule" (defScope st__law_is_rule) (ad 48) cdv A outer s H E).A (cxOf (L2.CX P w) P w K mg base ["first", "second", "value", "values", "own", "pair"] "_law_is_rule" (defScope st__law_is_rule) (ad 48) cdv A outer s H E).env (cxOf (L2.CX P w) P w K mg base ["first", "second", "value", "values", "own", "pair"] "_law_is_rule" (defScope st__law_is_rule) (ad 48) cdv A outer s H E).xe := passes_of rfl
  exact (hCons (hAsgLcV (ps_setLc (own := [("own", 4)]) (i := 3) rfl nd rfl rfl (sw_true rfl rfl rfl rfl) (jSeq (dCall G__law_values (hr.mono (by omega)) (by rfl) T.m__law_values T.k__law_values T.b__law_values tk (aCons (dVar (pv 0)) (aCons (dVar (pv 1)) aNil)) (lCons_len (lCons_len lNil_len)))) (blkOk_by (N := ["first", "second", "value", "values", "own", "pair"]) (sc := defScope st__law_is_rule) (by decide +kernel)) (fun _ _ _ _ _ => (kN (pg_name (i := 4) nd rfl (.inl rfl)))) (fun _ _ _ _ _ => bNilT) (fun _ _ _ _ _ => (dIx (dVar (pv 4)) dInt (fun _ _ => rfl)))))
    (hCons (hIf (bPW (wOr (bNotE (bValE (dIsi Ty.tuple (by rfl) T.z_isinstance (by rfl) T.z_tuple (by decide +kernel) (dVar (pv 2))))) (wOr (bCmp (op_neD hu64) o_ne (dCb call_len c_len (by rfl) T.z_len (by decide +kernel) (aCons (dVar (pv 2)) aNil)) (dCb call_len c_len (by rfl) T.z_len (by decide +kernel) (aCons (dVar (pv 3)) aNil)) (nomark _)) (wOr1 (bCmp (op_neD hu64) o_ne (dFE (dLc (pe_lc (own := [("pair", 5)]) rfl nd (jSeq (dVar (pv 2))) (blkOk_by (N := ["first", "second", "value", "values", "own", "pair"]) (sc := defScope st__law_is_rule) (by decide +kernel)) (fun _ _ _ _ _ => (kN (pg_name (i := 5) nd rfl (.inl rfl)))) (fun _ _ _ _ _ => (pts_one (bPW (wOr (bNotE (bValE (dIsi Ty.tuple (by rfl) T.z_isinstance (by rfl) T.z_tuple (by decide +kernel) (dVar (pv 5))))) (wOr1 (bCmp (op_neD hu64) o_ne (dCb call_len c_len (by rfl) T.z_len (by decide +kernel) (aCons (dVar (pv 5)) aNil)) dInt (nomark _))))))) (fun _ _ _ _ _ => (dVar (pv 5)))))) (dFE (dLst aNil)) (nomark _)))))) (hOne (hRet dBl)) hNil)
    (hCons (hIf (bCmp (op_neD hu64) o_ne (dFE (dLc (pe_lc (own := [("pair", 5)]) rfl nd (jSeq (dVar (pv 2))) (blkOk_by (N := ["first", "second", "value", "values", "own", "pair"]) (sc := defScope st__law_is_rule) (by decide +kernel)) (fun _ _ _ _ _ => (kN (pg_name (i := 5) nd rfl (.inl rfl)))) (fun _ _ _ _ _ => (pts_one (bPW (wOr (bCmp (op_neD hu64) o_ne (dCall G__law_sort (hr.mono (by omega)) (by rfl) T.m__law_sort T.k__law_sort T.b__law_sort takes0 (aCons (dIx (dVar (pv 5)) dInt (fun _ _ => rfl)) aNil) (lCons_len lNil_len)) dInt (nomark _)) (wOr1 (bNotE (bValE (dCall G__law_is_share (hr.mono (by omega)) (by rfl) T.m__law_is_share T.k__law_is_share T.b__law_is_share takes0 (aCons (dIx (dVar (pv 5)) dInt (fun _ _ => rfl)) aNil) (lCons_len lNil_len))))))))) (fun _ _ _ _ _ => (dVar (pv 5)))))) (dFE (dLst aNil)) (nomark _)) (hOne (hRet dBl)) hNil)
    (hOne (hRet (dCmp (op_eqD hu64) o_eq (dFE (dLc (pe_lc (own := [("pair", 5)]) rfl nd (jSeq (dVar (pv 2))) (blkOk_by (N := ["first", "second", "value", "values", "own", "pair"]) (sc := defScope st__law_is_rule) (by decide +kernel)) (fun _ _ _ _ _ => (kN (pg_name (i := 5) nd rfl (.inl rfl)))) (fun _ _ _ _ _ => bNilT) (fun _ _ _ _ _ => (dIx (dVar (pv 5)) dInt (fun _ _ => rfl)))))) (dVar (pv 3)) (nomark _)))))))
theorem ok__law_right (T : Txt K mg ad fd) (F : Fun K "_law_right" "_law_right" st__law_right (ad 49) (fd 49)) (G__law_values : FnOk P w K mg base (L2.CX P w) 1 (ad 39) (fd 39) ["first", "second"] (SpD K cl 2 g__law_values)) (G_are_chances : FnOk P w K mg base (L2.CX P w) 6 (ad 40) (fd 40) ["value"] (SpD K cl 1 g_are_chances)) (G__law_least : FnOk P w K mg base (L2.CX P w) 2 (ad 28) (fd 28) ["above", "below"] (SpD K cl 2 g__law_least)) (G_quotient_of : FnOk P w K mg base (L2.CX P w) 8 (ad 22) (fd 22) ["first", "second", "value"] (SpD K cl 3 g_quotient_of)) (G__law_like : FnOk P w K mg base (L2.CX P w) 14 (ad 17) (fd 17) ["one", "other"] (SpD K cl 2 (g__law_like 12))) (G__law_under : FnOk P w K mg base (L2.CX P w) 1 (ad 42) (fd 42) ["one", "other"] (SpD K cl 2 g__law_under)) (G_are_rising : FnOk P w K mg base (L2.CX P w) 8 (ad 25) (fd 25) ["first", "second"] (SpD K cl 2 g_are_rising)) (G__law_chance : FnOk P w K mg base (L2.CX P w) 3 (ad 43) (fd 43) ["cup"] (SpD K cl 1 g__law_chance)) (G_is_rule : FnOk P w K mg base (L2.CX P w) 8 (ad 37) (fd 37) ["first", "second", "value"] (SpD K cl 3 g_is_rule)) (G_false_share : FnOk P w K mg base (L2.CX P w) 9 (ad 36) (fd 36) ["first", "second", "rule"] (SpD K cl 3 g_false_share)) (G_power_of_rule : FnOk P w K mg base (L2.CX P w) 9 (ad 38) (fd 38) ["first", "second", "rule"] (SpD K cl 3 g_power_of_rule)) (G__law_shares : FnOk P w K mg base (L2.CX P w) 4 (ad 46) (fd 46) ["first", "second", "rule"] (SpD K cl 3 g__law_shares)) (G_is_chance : FnOk P w K mg base (L2.CX P w) 4 (ad 41) (fd 41) ["value"] (SpD K cl 1 g_is_chance)) (G__law_roll : FnOk P w K mg base (L2.CX P w) 1 (ad 26) (fd 26) ["cup", "many"] (SpD K cl 2 g__law_roll)) (G__law_is_rule : FnOk P w K mg base (L2.CX P w) 3 (ad 48) (fd 48) ["first", "second", "value"] (SpD K cl 3 g__law_is_rule)) : FnOk P w K mg base (L2.CX P w) 15 (ad 49) (fd 49) ["cup", "first", "second"] (SpD K cl 3 g__law_right) := show FnOk P w K mg base (L2.CX P w) 15 (ad 49) (fd 49) ["cup", "first", "second"] (SpD K cl 3 (bodyD F__law_right 18)) from okD2 (k := 14) (N := ["cup", "first", "second", "values", "quotients", "rising", "low", "high", "rule", "told", "every", "none", "at", "odds", "value", "odd", "one", "other"]) (ps := ["cup", "first", "second"]) F__law_right F sc__law_right rfl rfl (by decide) fun cdv A outer s H E hr => by
  have nd := sc__law_right.nd
  have hu := hu_of hr
  have hu64 := hr.units
  have tk : Takes (cxOf (L2.CX P w) P w K mg base ["cup", "first", "second", "values", "quotients", "rising", "low", "high", "rule", "told", "every", "none", "at", "odds", "value", "odd", "one", "other"] "_law_right" (defScope st__law_right) (ad 49) cdv A outer s H E) (WE0 E) := takes_of rfl rfl rfl rfl
  have ps : PassesOwn (model P w) (cxOf (L2.CX P w) P w K mg base ["cup", "first", "second", "values", "quotients", "rising", "low", "high", "rule", "told", "every", "none", "at", "odds", "value", "odd", "one", "other"] "_law_right" (defScope st__law_right) (ad 49) cdv A outer s H E).A (cxOf (L2.CX P w) P w K mg base ["cup", "first", "second", "values", "quotients", "rising", "low", "high", "rule", "told", "every", "none", "at", "odds", "value", "odd", "one", "other"] "_law_right" (defScope st__law_right) (ad 49) cdv A outer s H E).env (cxOf (L2.CX P w) P w K mg base ["cup", "first", "second", "values", "quotients", "rising", "low", "high", "rule", "told", "every", "none", "at", "odds", "value", "odd", "one", "other"] "_law_right" (defScope st__law_right) (ad 49) cdv A outer s H E).xe := passes_of rfl
  exact (hCons (hAsg (ps_set (i := 3) nd rfl (.inl rfl) (dCall G__law_values (hr.mono (by omega)) (by rfl) T.m__law_values T.k__law_values T.b__law_values tk (aCons (dVar (pv 1)) (aCons (dVar (pv 2)) aNil)) (lCons_len (lCons_len lNil_len)))))
    (hCons (hIf (bPW (wOr (bCmp op_notB o_notB (dCall G_are_chances (hr.mono (by omega)) (by rfl) T.m_are_chances T.k_are_chances T.b_are_chances tk (aCons (dVar (pv 1)) aNil) (lCons_len lNil_len)) dBl (nomark _)) (wOr1 (bCmp op_notB o_notB (dCall G_are_chances (hr.mono (by omega)) (by rfl) T.m_are_chances T.k_are_chances T.b_are_chances tk (aCons (dVar (pv 2)) aNil) (lCons_len lNil_len)) dBl (nomark _))))) (hOne (hRet dBl)) hNil)
    (hCons (hAsgLcV (ps_setLc (own := [("value", 14), ("one", 16), ("other", 17)]) (i := 4) rfl nd rfl rfl (sw_true rfl rfl rfl rfl) (jSeq (dVar (pv 3))) (blkOk_by (N := ["cup", "first", "second", "values", "quotients", "rising", "low", "high", "rule", "told", "every", "none", "at", "odds", "value", "odd", "one", "other"]) (sc := defScope st__law_right) (by decide +kernel)) (fun _ _ _ _ _ => (kT (pg_tup rfl (kC (kN (pg_name (i := 14) nd rfl (.inl rfl))) (kC (kN (pg_name (i := 16) nd rfl (.inl rfl))) (kC (kN (pg_name (i := 17) nd rfl (.inl rfl))) kE (pgs_cons (kN (pg_name (i := 17) nd rfl (.inl rfl))) kE)) (pgs_cons (kN (pg_name (i := 16) nd rfl (.inl rfl))) (kC (kN (pg_name (i := 17) nd rfl (.inl rfl))) kE (pgs_cons (kN (pg_name (i := 17) nd rfl (.inl rfl))) kE)))) (pgs_cons (kN (pg_name (i := 14) nd rfl (.inl rfl))) (kC (kN (pg_name (i := 16) nd rfl (.inl rfl))) (kC (kN (pg_name (i := 17) nd rfl (.inl rfl))) kE (pgs_cons (kN (pg_name (i := 17) nd rfl (.inl rfl))) kE)) (pgs_cons (kN (pg_name (i := 16) nd rfl (.inl rfl))) (kC (kN (pg_name (i := 17) nd rfl (.inl rfl))) kE (pgs_cons (kN (pg_name (i := 17) nd rfl (.inl rfl))) kE))))))) (gs_len (gs_len (gs_len gE_len))))) (fun _ _ _ _ _ => bNilT) (fun _ _ _ _ _ => (dIf (bCmp op_gt o_cmpI (dIx (dVar (pv 16)) dInt (fun _ _ => rfl)) dInt (nomark _)) (dCall G__law_least (hr.mono (by omega)) (by rfl) T.m__law_least T.k__law_least T.b__law_least takes0 (aCons (dBin op_mulD o_mul (dIx (dVar (pv 17)) dInt (fun _ _ => rfl)) (dIx (dVar (pv 16)) dInt (fun _ _ => rfl))) (aCons (dBin op_mulD o_mul (dIx (dVar (pv 17)) dInt (fun _ _ => rfl)) (dIx (dVar (pv 16)) dInt (fun _ _ => rfl))) aNil)) (lCons_len (lCons_len lNil_len))) dNon))))
    (hCons (hIf (bNotE (bValE (dCall G__law_like (hr.mono (by omega)) (by rfl) T.m__law_like T.k__law_like T.b__law_like tk (aCons (dFE (dLc (pe_lc (own := [("value", 14), ("one", 16), ("other", 17)]) rfl nd (jSeq (dVar (pv 3))) (blkOk_by (N := ["cup", "first", "second", "values", "quotients", "rising", "low", "high", "rule", "told", "every", "none", "at", "odds", "value", "odd", "one", "other"]) (sc := defScope st__law_right) (by decide +kernel)) (fun _ _ _ _ _ => (kT (pg_tup rfl (kC (kN (pg_name (i := 14) nd rfl (.inl rfl))) (kC (kN (pg_name (i := 16) nd rfl (.inl rfl))) (kC (kN (pg_name (i := 17) nd rfl (.inl rfl))) kE (pgs_cons (kN (pg_name (i := 17) nd rfl (.inl rfl))) kE)) (pgs_cons (kN (pg_name (i := 16) nd rfl (.inl rfl))) (kC (kN (pg_name (i := 17) nd rfl (.inl rfl))) kE (pgs_cons (kN (pg_name (i := 17) nd rfl (.inl rfl))) kE)))) (pgs_cons (kN (pg_name (i := 14) nd rfl (.inl rfl))) (kC (kN (pg_name (i := 16) nd rfl (.inl rfl))) (kC (kN (pg_name (i := 17) nd rfl (.inl rfl))) kE (pgs_cons (kN (pg_name (i := 17) nd rfl (.inl rfl))) kE)) (pgs_cons (kN (pg_name (i := 16) nd rfl (.inl rfl))) (kC (kN (pg_name (i := 17) nd rfl (.inl rfl))) kE (pgs_cons (kN (pg_name (i := 17) nd rfl (.inl rfl))) kE))))))) (gs_len (gs_len (gs_len gE_len))))) (fun _ _ _ _ _ => bNilT) (fun _ _ _ _ _ => (dCall G_quotient_of (hr.mono (by omega)) (by rfl) T.m_quotient_of T.k_quotient_of T.b_quotient_of takes0 (aCons (dVar (pv 1)) (aCons (dVar (pv 2)) (aCons (dVar (pv 14)) aNil))) (lCons_len (lCons_len (lCons_len lNil_len)))))))) (aCons (dVar (pv 4)) aNil)) (lCons_len (lCons_len lNil_len))))) (hOne (hRet dBl)) hNil)
    (hCons (hAsg (ps_set (i := 5) nd rfl (.inl rfl) dBl))
    (hCons (hFor (ps_for ps rfl (jZipA (pi_zipK (by rfl) T.z_zip (aCons (dVar (pv 4)) (aCons (dSl (dVar (pv 4)) (dOSome dInt) dONone) aNil)))) (kT (pg_tup rfl (kC (kN (pg_name (i := 6) nd rfl (.inl rfl))) (kC (kN (pg_name (i := 7) nd rfl (.inl rfl))) kE (pgs_cons (kN (pg_name (i := 7) nd rfl (.inl rfl))) kE)) (pgs_cons (kN (pg_name (i := 6) nd rfl (.inl rfl))) (kC (kN (pg_name (i := 7) nd rfl (.inl rfl))) kE (pgs_cons (kN (pg_name (i := 7) nd rfl (.inl rfl))) kE))))) (gs_len (gs_len gE_len))) (hOne (hIf (bPW (wOr (bPW (wAnd (bCmp op_isN o_isN (dVar (pv 6)) dNon (nomark _)) (wAnd1 (bCmp op_notN o_notN (dVar (pv 7)) dNon (nomark _))))) (wOr1 (bPW (wAnd (bCmp op_notN o_notN (dVar (pv 6)) dNon (nomark _)) (wAnd (bCmp op_notN o_notN (dVar (pv 7)) dNon (nomark _)) (wAnd1 (bValE (dCall G__law_under (hr.mono (by omega)) (by rfl) T.m__law_under T.k__law_under T.b__law_under tk (aCons (dVar (pv 7)) (aCons (dVar (pv 6)) aNil)) (lCons_len (lCons_len lNil_len))))))))))) (hOne (hAsg (ps_set (i := 5) nd rfl (.inl rfl) dBl))) hNil))))
    (hCons (hIf (bNotE (bValE (dCall G__law_like (hr.mono (by omega)) (by rfl) T.m__law_like T.k__law_like T.b__law_like tk (aCons (dCall G_are_rising (hr.mono (by omega)) (by rfl) T.m_are_rising T.k_are_rising T.b_are_rising tk (aCons (dVar (pv 1)) (aCons (dVar (pv 2)) aNil)) (lCons_len (lCons_len lNil_len))) (aCons (dVar (pv 5)) aNil)) (lCons_len (lCons_len lNil_len))))) (hOne (hRet dBl)) hNil)
    (hCons (hAsg (ps_set (i := 8) nd rfl (.inl rfl) (dCty call_tuple_ofN c_tuple (by rfl) T.z_tuple (by decide +kernel) (aCons (dFE (dLc (pe_lc (own := [("value", 14), ("one", 16), ("other", 17)]) rfl nd (jSeq (dVar (pv 3))) (blkOk_by (N := ["cup", "first", "second", "values", "quotients", "rising", "low", "high", "rule", "told", "every", "none", "at", "odds", "value", "odd", "one", "other"]) (sc := defScope st__law_right) (by decide +kernel)) (fun _ _ _ _ _ => (kT (pg_tup rfl (kC (kN (pg_name (i := 14) nd rfl (.inl rfl))) (kC (kN (pg_name (i := 16) nd rfl (.inl rfl))) (kC (kN (pg_name (i := 17) nd rfl (.inl rfl))) kE (pgs_cons (kN (pg_name (i := 17) nd rfl (.inl rfl))) kE)) (pgs_cons (kN (pg_name (i := 16) nd rfl (.inl rfl))) (kC (kN (pg_name (i := 17) nd rfl (.inl rfl))) kE (pgs_cons (kN (pg_name (i := 17) nd rfl (.inl rfl))) kE)))) (pgs_cons (kN (pg_name (i := 14) nd rfl (.inl rfl))) (kC (kN (pg_name (i := 16) nd rfl (.inl rfl))) (kC (kN (pg_name (i := 17) nd rfl (.inl rfl))) kE (pgs_cons (kN (pg_name (i := 17) nd rfl (.inl rfl))) kE)) (pgs_cons (kN (pg_name (i := 16) nd rfl (.inl rfl))) (kC (kN (pg_name (i := 17) nd rfl (.inl rfl))) kE (pgs_cons (kN (pg_name (i := 17) nd rfl (.inl rfl))) kE))))))) (gs_len (gs_len (gs_len gE_len))))) (fun _ _ _ _ _ => bNilT) (fun _ _ _ _ _ => (dTup (aCons (dVar (pv 14)) (aCons (dCall G__law_chance (hr.mono (by omega)) (by rfl) T.m__law_chance T.k__law_chance T.b__law_chance takes0 (aCons (dVar (pv 0)) aNil) (lCons_len lNil_len)) aNil))))))) aNil))))
    (hCons (hAsg (ps_set (i := 9) nd rfl (.inl rfl) (dFE (dLst (aCons (dCall G_is_rule (hr.mono (by omega)) (by rfl) T.m_is_rule T.k_is_rule T.b_is_rule tk (aCons (dVar (pv 1)) (aCons (dVar (pv 2)) (aCons (dVar (pv 8)) aNil))) (lCons_len (lCons_len (lCons_len lNil_len)))) (aCons (dCall G_false_share (hr.mono (by omega)) (by rfl) T.m_false_share T.k_false_share T.b_false_share tk (aCons (dVar (pv 1)) (aCons (dVar (pv 2)) (aCons (dVar (pv 8)) aNil))) (lCons_len (lCons_len (lCons_len lNil_len)))) (aCons (dCall G_power_of_rule (hr.mono (by omega)) (by rfl) T.m_power_of_rule T.k_power_of_rule T.b_power_of_rule tk (aCons (dVar (pv 1)) (aCons (dVar (pv 2)) (aCons (dVar (pv 8)) aNil))) (lCons_len (lCons_len (lCons_len lNil_len)))) aNil)))))))
    (hCons (hIf (bPW (wOr (bNotE (bValE (dCall G__law_like (hr.mono (by omega)) (by rfl) T.m__law_like T.k__law_like T.b__law_like tk (aCons (dVar (pv 9)) (aCons (dBin op_addD o_add (dFE (dLst (aCons dBl aNil))) (dFE (dCtyF call_list_of c_list (by rfl) T.z_list (by decide +kernel) (aCons (dCall G__law_shares (hr.mono (by omega)) (by rfl) T.m__law_shares T.k__law_shares T.b__law_shares tk (aCons (dVar (pv 1)) (aCons (dVar (pv 2)) (aCons (dVar (pv 8)) aNil))) (lCons_len (lCons_len (lCons_len lNil_len)))) aNil)))) aNil)) (lCons_len (lCons_len lNil_len))))) (wOr (bCmp op_notB o_notB (dCall G_is_chance (hr.mono (by omega)) (by rfl) T.m_is_chance T.k_is_chance T.b_is_chance tk (aCons (dIx (dVar (pv 9)) dInt (fun _ _ => rfl)) aNil) (lCons_len lNil_len)) dBl (nomark _)) (wOr1 (bCmp op_notB o_notB (dCall G_is_chance (hr.mono (by omega)) (by rfl) T.m_is_chance T.k_is_chance T.b_is_chance tk (aCons (dIx (dVar (pv 9)) dInt (fun _ _ => rfl)) aNil) (lCons_len lNil_len)) dBl (nomark _)))))) (hOne (hRet dBl)) hNil)
    (hCons (hPar2 (ps_par (i := 10) (j := 11) rfl nd rfl rfl (by decide) rfl rfl (jVal (dCty call_tuple_ofN c_tuple (by rfl) T.z_tuple (by decide +kernel) (aCons (dFE (dLc (pe_lc (own := [("value", 14), ("one", 16), ("other", 17)]) rfl nd (jSeq (dVar (pv 3))) (blkOk_by (N := ["cup", "first", "second", "values", "quotients", "rising", "low", "high", "rule", "told", "every", "none", "at", "odds", "value", "odd", "one", "other"]) (sc := defScope st__law_right) (by decide +kernel)) (fun _ _ _ _ _ => (kT (pg_tup rfl (kC (kN (pg_name (i := 14) nd rfl (.inl rfl))) (kC (kN (pg_name (i := 16) nd rfl (.inl rfl))) (kC (kN (pg_name (i := 17) nd rfl (.inl rfl))) kE (pgs_cons (kN (pg_name (i := 17) nd rfl (.inl rfl))) kE)) (pgs_cons (kN (pg_name (i := 16) nd rfl (.inl rfl))) (kC (kN (pg_name (i := 17) nd rfl (.inl rfl))) kE (pgs_cons (kN (pg_name (i := 17) nd rfl (.inl rfl))) kE)))) (pgs_cons (kN (pg_name (i := 14) nd rfl (.inl rfl))) (kC (kN (pg_name (i := 16) nd rfl (.inl rfl))) (kC (kN (pg_name (i := 17) nd rfl (.inl rfl))) kE (pgs_cons (kN (pg_name (i := 17) nd rfl (.inl rfl))) kE)) (pgs_cons (kN (pg_name (i := 16) nd rfl (.inl rfl))) (kC (kN (pg_name (i := 17) nd rfl (.inl rfl))) kE (pgs_cons (kN (pg_name (i := 17) nd rfl (.inl rfl))) kE))))))) (gs_len (gs_len (gs_len gE_len))))) (fun _ _ _ _ _ => bNilT) (fun _ _ _ _ _ => (dTup (aCons (dVar (pv 14)) (aCons (dTup (aCons dInt (aCons dInt aNil))) aNil))))))) aNil)) (jVal (dCty call_tuple_ofN c_tuple (by rfl) T.z_tuple (by decide +kernel) (aCons (dFE (dLc (pe_lc (own := [("value", 14), ("one", 16), ("other", 17)]) rfl nd (jSeq (dVar (pv 3))) (blkOk_by (N := ["cup", "first", "second", "values", "quotients", "rising", "low", "high", "rule", "told", "every", "none", "at", "odds", "value", "odd", "one", "other"]) (sc := defScope st__law_right) (by decide +kernel)) (fun _ _ _ _ _ => (kT (pg_tup rfl (kC (kN (pg_name (i := 14) nd rfl (.inl rfl))) (kC (kN (pg_name (i := 16) nd rfl (.inl rfl))) (kC (kN (pg_name (i := 17) nd rfl (.inl rfl))) kE (pgs_cons (kN (pg_name (i := 17) nd rfl (.inl rfl))) kE)) (pgs_cons (kN (pg_name (i := 16) nd rfl (.inl rfl))) (kC (kN (pg_name (i := 17) nd rfl (.inl rfl))) kE (pgs_cons (kN (pg_name (i := 17) nd rfl (.inl rfl))) kE)))) (pgs_cons (kN (pg_name (i := 14) nd rfl (.inl rfl))) (kC (kN (pg_name (i := 16) nd rfl (.inl rfl))) (kC (kN (pg_name (i := 17) nd rfl (.inl rfl))) kE (pgs_cons (kN (pg_name (i := 17) nd rfl (.inl rfl))) kE)) (pgs_cons (kN (pg_name (i := 16) nd rfl (.inl rfl))) (kC (kN (pg_name (i := 17) nd rfl (.inl rfl))) kE (pgs_cons (kN (pg_name (i := 17) nd rfl (.inl rfl))) kE))))))) (gs_len (gs_len (gs_len gE_len))))) (fun _ _ _ _ _ => bNilT) (fun _ _ _ _ _ => (dTup (aCons (dVar (pv 14)) (aCons (dTup (aCons dInt (aCons dInt aNil))) aNil))))))) aNil)) jNil)) (by rfl)))
    (hCons (hAsg (ps_set (i := 9) nd rfl (.inl rfl) (dFE (dLst (aCons (dCall G_false_share (hr.mono (by omega)) (by rfl) T.m_false_share T.k_false_share T.b_false_share tk (aCons (dVar (pv 1)) (aCons (dVar (pv 2)) (aCons (dVar (pv 10)) aNil))) (lCons_len (lCons_len (lCons_len lNil_len)))) (aCons (dCall G_power_of_rule (hr.mono (by omega)) (by rfl) T.m_power_of_rule T.k_power_of_rule T.b_power_of_rule tk (aCons (dVar (pv 1)) (aCons (dVar (pv 2)) (aCons (dVar (pv 11)) aNil))) (lCons_len (lCons_len (lCons_len lNil_len)))) (aCons (dCall G_false_share (hr.mono (by omega)) (by rfl) T.m_false_share T.k_false_share T.b_false_share tk (aCons (dVar (pv 2)) (aCons (dVar (pv 1)) (aCons (dVar (pv 8)) aNil))) (lCons_len (lCons_len (lCons_len lNil_len)))) aNil)))))))
    (hCons (hIf (bNotE (bValE (dCall G__law_like (hr.mono (by omega)) (by rfl) T.m__law_like T.k__law_like T.b__law_like tk (aCons (dVar (pv 9)) (aCons (dFE (dLst (aCons (dTup (aCons dInt (aCons dInt aNil))) (aCons (dTup (aCons dInt (aCons dInt aNil))) (aCons (dCall G_power_of_rule (hr.mono (by omega)) (by rfl) T.m_power_of_rule T.k_power_of_rule T.b_power_of_rule tk (aCons (dVar (pv 1)) (aCons (dVar (pv 2)) (aCons (dVar (pv 8)) aNil))) (lCons_len (lCons_len (lCons_len lNil_len)))) aNil))))) aNil)) (lCons_len (lCons_len lNil_len))))) (hOne (hRet dBl)) hNil)
    (hCons (hAsg (ps_set (i := 12) nd rfl (.inl rfl) (dCall G__law_roll (hr.mono (by omega)) (by rfl) T.m__law_roll T.k__law_roll T.b__law_roll tk (aCons (dVar (pv 0)) (aCons (dCb call_len c_len (by rfl) T.z_len (by decide +kernel) (aCons (dVar (pv 8)) aNil)) aNil)) (lCons_len (lCons_len lNil_len)))))
    (hCons (hAsgF (ps_set (i := 13) nd rfl (.inl rfl) (dLst (aCons (dVar (pv 8)) (aCons (dRevT (dVar (pv 8))) (aCons (dFE (dCtyF call_list_of c_list (by rfl) T.z_list (by decide +kernel) (aCons (dVar (pv 8)) aNil))) (aCons (dSl (dVar (pv 8)) (dOSome dInt) dONone) (aCons (dBin op_addD o_add (dVar (pv 8)) (dSl (dVar (pv 8)) (dOSome (dUn un_neg o_neg dInt)) dONone)) (aCons dNon (aCons (dTup aNil) (aCons dInt (aCons (dVar (pv 10)) (aCons (dVar (pv 11)) (aCons (dVar (pv 1)) (aCons (dVar (pv 2)) aNil)))))))))))))))
    (hCons (hAsg (ps_set (i := 14) nd rfl (.inl rfl) (dIx (dIx (dVar (pv 8)) (dVar (pv 12)) (fun _ _ => rfl)) dInt (fun _ _ => rfl))))
    (hCons (hFor (ps_for ps rfl (jSeq (dTup (aCons dNon (aCons (dTup aNil) (aCons (dSl (dIx (dVar (pv 8)) (dVar (pv 12)) (fun _ _ => rfl)) dONone (dOSome dInt)) (aCons (dFE (dCtyF call_list_of c_list (by rfl) T.z_list (by decide +kernel) (aCons (dIx (dVar (pv 8)) (dVar (pv 12)) (fun _ _ => rfl)) aNil))) (aCons (dTup (aCons (dVar (pv 14)) (aCons (dTup (aCons dInt (aCons dInt aNil))) aNil))) (aCons (dTup (aCons (dVar (pv 14)) (aCons (dTup (aCons dInt (aCons dInt aNil))) aNil))) (aCons (dTup (aCons (dVar (pv 14)) (aCons (dTup (aCons (dUn un_neg o_neg dInt) (aCons dInt aNil))) aNil))) (aCons (dTup (aCons (dVar (pv 14)) (aCons dNon aNil))) (aCons (dTup (aCons dBl (aCons (dTup (aCons dInt (aCons dInt aNil))) aNil))) aNil))))))))))) (kN (pg_name (i := 15) nd rfl (.inl rfl))) (hOne (hApp (ps_expr (pe_bm PySem.F.plainAttrs_list PySem.F.slot_list_append PySem.F.type_list_append mt_append (pv 13) (pa_cons (dBin op_addD o_add (dBin op_addD o_add (dSl (dVar (pv 8)) dONone (dOSome (dVar (pv 12)))) (dTup (aCons (dVar (pv 15)) aNil))) (dSl (dVar (pv 8)) (dOSome (dBin op_addD o_add (dVar (pv 12)) dInt)) dONone)) pa_nil)))))))
    (hCons (hFor (ps_for ps rfl (jSeq (dTup (aCons (dTup (aCons (dBin op_addD o_add (dVar (pv 14)) dInt) (aCons (dTup (aCons dInt (aCons dInt aNil))) aNil))) (aCons (dTup (aCons (dVar (pv 14)) (aCons (dTup (aCons dInt (aCons dInt aNil))) aNil))) (aCons (dTup (aCons (dVar (pv 14)) (aCons (dTup (aCons dBl (aCons dInt aNil))) aNil))) (aCons (dTup (aCons (dStr) (aCons (dTup (aCons dInt (aCons dInt aNil))) aNil))) aNil)))))) (kN (pg_name (i := 15) nd rfl (.inl rfl))) (hOne (hApp (ps_expr (pe_bm PySem.F.plainAttrs_list PySem.F.slot_list_append PySem.F.type_list_append mt_append (pv 13) (pa_cons (dBin op_addD o_add (dBin op_addD o_add (dSl (dVar (pv 8)) dONone (dOSome (dVar (pv 12)))) (dTup (aCons (dVar (pv 15)) aNil))) (dSl (dVar (pv 8)) (dOSome (dBin op_addD o_add (dVar (pv 12)) dInt)) dONone)) pa_nil)))))))
    (hOne (hFrz (i := 13) (hRet (dCmp (op_eqD hu64) o_eq (dFE (dLc (pe_lc (own := [("odd", 15)]) rfl nd (jSeq (dVar (pv 13))) (blkOk_by (N := ["cup", "first", "second", "values", "quotients", "rising", "low", "high", "rule", "told", "every", "none", "at", "odds", "value", "odd", "one", "other"]) (sc := defScope st__law_right) (by decide +kernel)) (fun _ _ _ _ _ => (kN (pg_name (i := 15) nd rfl (.inl rfl)))) (fun _ _ _ _ _ => (pts_one (bNotE (bValE (dCall G__law_like (hr.mono (by omega)) (by rfl) T.m__law_like T.k__law_like T.b__law_like takes0 (aCons (dCall G_is_rule (hr.mono (by omega)) (by rfl) T.m_is_rule T.k_is_rule T.b_is_rule takes0 (aCons (dVar (pv 1)) (aCons (dVar (pv 2)) (aCons (dVar (pv 15)) aNil))) (lCons_len (lCons_len (lCons_len lNil_len)))) (aCons (dCall G__law_is_rule (hr.mono (by omega)) (by rfl) T.m__law_is_rule T.k__law_is_rule T.b__law_is_rule takes0 (aCons (dVar (pv 1)) (aCons (dVar (pv 2)) (aCons (dVar (pv 15)) aNil))) (lCons_len (lCons_len (lCons_len lNil_len)))) aNil)) (lCons_len (lCons_len lNil_len))))))) (fun _ _ _ _ _ => (dVar (pv 15)))))) (dFE (dLst aNil)) (nomark _)))))))))))))))))))))))
theorem ok_law (T : Txt K mg ad fd) (F : Fun K "law" "law" st_law (ad 50) (fd 50)) (G__law_cup : FnOk P w K mg base (L2.CX P w) 1 (ad 0) (fd 0) ["script"] (SpF K cl 1 g__law_cup)) (G_are_rising : FnOk P w K mg base (L2.CX P w) 8 (ad 25) (fd 25) ["first", "second"] (SpD K cl 2 g_are_rising)) (G_is_rule : FnOk P w K mg base (L2.CX P w) 8 (ad 37) (fd 37) ["first", "second", "value"] (SpD K cl 3 g_is_rule)) (G__law_like : FnOk P w K mg base (L2.CX P w) 14 (ad 17) (fd 17) ["one", "other"] (SpD K cl 2 (g__law_like 12))) (G_quotient_of : FnOk P w K mg base (L2.CX P w) 8 (ad 22) (fd 22) ["first", "second", "value"] (SpD K cl 3 g_quotient_of)) (G_false_share : FnOk P w K mg base (L2.CX P w) 9 (ad 36) (fd 36) ["first", "second", "rule"] (SpD K cl 3 g_false_share)) (G_power_of_rule : FnOk P w K mg base (L2.CX P w) 9 (ad 38) (fd 38) ["first", "second", "rule"] (SpD K cl 3 g_power_of_rule)) (G__law_two : FnOk P w K mg base (L2.CX P w) 4 (ad 30) (fd 30) ["cup", "most"] (SpD K cl 2 g__law_two)) (G__law_right : FnOk P w K mg base (L2.CX P w) 15 (ad 49) (fd 49) ["cup", "first", "second"] (SpD K cl 3 g__law_right)) (G__law_roll : FnOk P w K mg base (L2.CX P w) 1 (ad 26) (fd 26) ["cup", "many"] (SpD K cl 2 g__law_roll)) (G__law_least : FnOk P w K mg base (L2.CX P w) 2 (ad 28) (fd 28) ["above", "below"] (SpD K cl 2 g__law_least)) (G__law_chances : FnOk P w K mg base (L2.CX P w) 3 (ad 29) (fd 29) ["cup", "most"] (SpD K cl 2 g__law_chances)) (G_mean_of : FnOk P w K mg base (L2.CX P w) 7 (ad 15) (fd 15) ["chances"] (SpD K cl 1 g_mean_of)) : FnOk P w K mg base (L2.CX P w) 16 (ad 50) (fd 50) ["script"] (SpD K cl 1 g_law) := show FnOk P w K mg base (L2.CX P w) 16 (ad 50) (fd 50) ["script"] (SpD K cl 1 (bodyD F_law 17)) from okD2 (k := 15) (N := ["script", "cup", "third", "fall", "one", "other", "some", "told", "most", "first", "second", "many", "rule", "mean", "at", "value", "chance"]) (ps := ["script"]) F_law F sc_law rfl rfl (by decide) fun cdv A outer s H E hr => by
  have nd := sc_law.nd
  have hu := hu_of hr
  have hu64 := hr.units
  have tk : Takes (cxOf (L2.CX P w) P w K mg base ["script", "cup", "third", "fall", "one", "other", "some", "told", "most", "first", "second", "many", "rule", "mean", "at", "value", "chance"] "law" (defScope st_law) (ad 50) cdv A outer s H E) (WE0 E) := takes_of rfl rfl rfl rfl
  have ps : PassesOwn (model P w) (cxOf (L2.CX P w) P w K mg base ["script", "cup", "third", "fall", "one", "other", "some", "told", "most", "first", "second", "many", "rule", "mean", "at", "value", "chance"] "law" (defScope st_law) (ad 50) cdv A outer s H E).A (cxOf (L2.CX P w) P w K mg base ["script", "cup", "third", "fall", "one", "other", "some", "told", "most", "first", "second", "many", "rule", "mean", "at", "value", "chance"] "law" (defScope st_law) (ad 50) cdv A outer s H E).env (cxOf (L2.CX P w) P w K mg base ["script", "cup", "third", "fall", "one", "other", "some", "told", "most", "first", "second", "many", "rule", "mean", "at", "value", "chance"] "law" (defScope st_law) (ad 50) cdv A outer s H E).xe := passes_of rfl
  exact (hCons (hAsgF (ps_set (i := 1) nd rfl (.inl rfl) (dCallF G__law_cup (hr.mono (by omega)) (by rfl) T.m__law_cup T.k__law_cup T.b__law_cup tk (aCons (dVar (pv 0)) aNil) (lCons_len lNil_len)))) (hProm (i := 1) (hCons (hParT (is := [2, 3]) (ps_asg (pe_tup (jVal (dTup (aCons (dTup (aCons dInt (aCons (dTup (aCons dInt (aCons dInt aNil))) aNil))) (aCons (dTup (aCons dInt (aCons (dTup (aCons dInt (aCons dInt aNil))) aNil))) (aCons (dTup (aCons dInt (aCons (dTup (aCons dInt (aCons dInt aNil))) aNil))) aNil)))) (jVal (dTup (aCons (dTup (aCons dInt (aCons (dTup (aCons dInt (aCons dInt aNil))) aNil))) (aCons (dTup (aCons dInt (aCons (dTup (aCons dInt (aCons dInt aNil))) aNil))) (aCons (dTup (aCons dInt (aCons (dTup (aCons dInt (aCons dInt aNil))) aNil))) aNil)))) jNil))) (pg_tup rfl (pgs_cons (pg_name (i := 2) nd rfl (.inl rfl)) (pgs_cons (pg_name (i := 3) nd rfl (.inl rfl)) pgs_nil)))))
    (hCons (hParT (is := [4, 5]) (ps_asg (pe_tup (jVal (dTup (aCons (dTup (aCons dInt (aCons (dTup (aCons dInt (aCons dInt aNil))) aNil))) (aCons (dTup (aCons dInt (aCons (dTup (aCons dInt (aCons dInt aNil))) aNil))) aNil))) (jVal (dTup (aCons (dTup (aCons dInt (aCons (dTup (aCons dInt (aCons dInt aNil))) aNil))) (aCons (dTup (aCons dInt (aCons (dTup (aCons dInt (aCons dInt aNil))) aNil))) aNil))) jNil))) (pg_tup rfl (pgs_cons (pg_name (i := 4) nd rfl (.inl rfl)) (pgs_cons (pg_name (i := 5) nd rfl (.inl rfl)) pgs_nil)))))
    (hCons (hIf (bNotE (bValE (dCall G__law_like (hr.mono (by omega)) (by rfl) T.m__law_like T.k__law_like T.b__law_like tk (aCons (dFE (dLst (aCons (dCall G_are_rising (hr.mono (by omega)) (by rfl) T.m_are_rising T.k_are_rising T.b_are_rising tk (aCons (dVar (pv 2)) (aCons (dVar (pv 3)) aNil)) (lCons_len (lCons_len lNil_len))) (aCons (dCall G_is_rule (hr.mono (by omega)) (by rfl) T.m_is_rule T.k_is_rule T.b_is_rule tk (aCons (dVar (pv 4)) (aCons (dVar (pv 5)) (aCons (dTup (aCons (dTup (aCons dInt (aCons (dTup (aCons dInt (aCons dInt aNil))) aNil))) (aCons (dTup (aCons dInt (aCons (dTup (aCons dInt (aCons dInt aNil))) aNil))) aNil))) aNil))) (lCons_len (lCons_len (lCons_len lNil_len)))) aNil)))) (aCons (dFE (dLst (aCons dBl (aCons dBl aNil)))) aNil)) (lCons_len (lCons_len lNil_len))))) (hOne (hRet dBl)) hNil)
    (hCons (hParT (is := [4, 5]) (ps_asg (pe_tup (jVal (dTup (aCons (dTup (aCons dInt (aCons (dTup (aCons dInt (aCons dInt aNil))) aNil))) (aCons (dTup (aCons dInt (aCons (dTup (aCons dInt (aCons dInt aNil))) aNil))) aNil))) (jVal (dTup (aCons (dTup (aCons dInt (aCons (dTup (aCons dInt (aCons dInt aNil))) aNil))) (aCons (dTup (aCons dInt (aCons (dTup (aCons dInt (aCons dInt aNil))) aNil))) aNil))) jNil))) (pg_tup rfl (pgs_cons (pg_name (i := 4) nd rfl (.inl rfl)) (pgs_cons (pg_name (i := 5) nd rfl (.inl rfl)) pgs_nil)))))
    (hCons (hAsg (ps_set (i := 6) nd rfl (.inl rfl) (dTup (aCons (dTup (aCons dInt (aCons (dTup (aCons dInt (aCons dInt aNil))) aNil))) (aCons (dTup (aCons dInt (aCons (dTup (aCons dInt (aCons dInt aNil))) aNil))) aNil)))))
    (hCons (hAsg (ps_set (i := 7) nd rfl (.inl rfl) (dFE (dLst (aCons (dCall G_quotient_of (hr.mono (by omega)) (by rfl) T.m_quotient_of T.k_quotient_of T.b_quotient_of tk (aCons (dVar (pv 4)) (aCons (dVar (pv 5)) (aCons dInt aNil))) (lCons_len (lCons_len (lCons_len lNil_len)))) (aCons (dCall G_quotient_of (hr.mono (by omega)) (by rfl) T.m_quotient_of T.k_quotient_of T.b_quotient_of tk (aCons (dTup (aCons (dTup (aCons dInt (aCons (dTup (aCons dInt (aCons dInt aNil))) aNil))) aNil)) (aCons (dVar (pv 4)) (aCons dInt aNil))) (lCons_len (lCons_len (lCons_len lNil_len)))) (aCons (dCall G_are_rising (hr.mono (by omega)) (by rfl) T.m_are_rising T.k_are_rising T.b_are_rising tk (aCons (dVar (pv 4)) (aCons (dVar (pv 5)) aNil)) (lCons_len (lCons_len lNil_len))) (aCons (dCall G_are_rising (hr.mono (by omega)) (by rfl) T.m_are_rising T.k_are_rising T.b_are_rising tk (aCons (dVar (pv 5)) (aCons (dVar (pv 4)) aNil)) (lCons_len (lCons_len lNil_len))) aNil))))))))
    (hCons (hAsg (ps_set (i := 7) nd rfl (.inl rfl) (dBin op_addD o_add (dVar (pv 7)) (dFE (dLst (aCons (dCall G_is_rule (hr.mono (by omega)) (by rfl) T.m_is_rule T.k_is_rule T.b_is_rule tk (aCons (dVar (pv 4)) (aCons (dVar (pv 5)) (aCons (dVar (pv 6)) aNil))) (lCons_len (lCons_len (lCons_len lNil_len)))) (aCons (dCall G_is_rule (hr.mono (by omega)) (by rfl) T.m_is_rule T.k_is_rule T.b_is_rule tk (aCons (dVar (pv 4)) (aCons (dVar (pv 5)) (aCons (dSl (dVar (pv 6)) (dOSome dInt) dONone) aNil))) (lCons_len (lCons_len (lCons_len lNil_len)))) (aCons (dCall G_false_share (hr.mono (by omega)) (by rfl) T.m_false_share T.k_false_share T.b_false_share tk (aCons (dVar (pv 4)) (aCons (dVar (pv 5)) (aCons (dVar (pv 6)) aNil))) (lCons_len (lCons_len (lCons_len lNil_len)))) (aCons (dCall G_power_of_rule (hr.mono (by omega)) (by rfl) T.m_power_of_rule T.k_power_of_rule T.b_power_of_rule tk (aCons (dVar (pv 4)) (aCons (dVar (pv 5)) (aCons (dVar (pv 6)) aNil))) (lCons_len (lCons_len (lCons_len lNil_len)))) aNil)))))))))
    (hCons (hIf (bNotE (bValE (dCall G__law_like (hr.mono (by omega)) (by rfl) T.m__law_like T.k__law_like T.b__law_like tk (aCons (dVar (pv 7)) (aCons (dFE (dLst (aCons (dTup (aCons dInt (aCons dInt aNil))) (aCons dNon (aCons dBl (aCons dBl (aCons dBl (aCons dBl (aCons (dTup (aCons dInt (aCons dInt aNil))) (aCons (dTup (aCons dInt (aCons dInt aNil))) aNil)))))))))) aNil)) (lCons_len (lCons_len lNil_len))))) (hOne (hRet dBl)) hNil)
    (hCons (hFor (ps_for ps rfl (jSeq (dTup (aCons dInt (aCons dInt (aCons dInt (aCons dInt aNil)))))) (kN (pg_name (i := 8) nd rfl (.inl rfl))) (hCons (hAsgG (ps_asg (dCall G__law_two (hr.mono (by omega)) (by rfl) T.m__law_two T.k__law_two T.b__law_two tk (aCons (dVar (pv 1)) (aCons (dVar (pv 8)) aNil)) (lCons_len (lCons_len lNil_len))) (kT (pg_tup rfl (kC (kN (pg_name (i := 9) nd rfl (.inl rfl))) (kC (kN (pg_name (i := 10) nd rfl (.inl rfl))) kE (pgs_cons (kN (pg_name (i := 10) nd rfl (.inl rfl))) kE)) (pgs_cons (kN (pg_name (i := 9) nd rfl (.inl rfl))) (kC (kN (pg_name (i := 10) nd rfl (.inl rfl))) kE (pgs_cons (kN (pg_name (i := 10) nd rfl (.inl rfl))) kE))))) (gs_len (gs_len gE_len)))))
    (hOne (hIf (bNotE (bValE (dCall G__law_right (hr.mono (by omega)) (by rfl) T.m__law_right T.k__law_right T.b__law_right tk (aCons (dVar (pv 1)) (aCons (dVar (pv 9)) (aCons (dVar (pv 10)) aNil))) (lCons_len (lCons_len (lCons_len lNil_len)))))) (hOne (hRet dBl)) hNil)))))
    (hCons (hAsg (ps_set (i := 11) nd rfl (.inr rfl) (dBin op_addD o_add dInt (dCall G__law_roll (hr.mono (by omega)) (by rfl) T.m__law_roll T.k__law_roll T.b__law_roll tk (aCons (dVar (pv 1)) (aCons dInt aNil)) (lCons_len (lCons_len lNil_len))))))
    (hCons (hPar2 (ps_par (i := 9) (j := 10) rfl nd rfl rfl (by decide) rfl rfl (jVal (dCty call_tuple_ofN c_tuple (by rfl) T.z_tuple (by decide +kernel) (aCons (dFE (dLc (pe_lc (own := [("at", 14)]) rfl nd (jRg1 (by rfl) T.z_range (aCons (dBin op_addD o_add (dVar (pv 11)) dInt) aNil)) (blkOk_by (N := ["script", "cup", "third", "fall", "one", "other", "some", "told", "most", "first", "second", "many", "rule", "mean", "at", "value", "chance"]) (sc := defScope st_law) (by decide +kernel)) (fun _ _ _ _ _ => (kN (pg_name (i := 14) nd rfl (.inl rfl)))) (fun _ _ _ _ _ => bNilT) (fun _ _ _ _ _ => (dTup (aCons (dVar (pv 14)) (aCons (dCall G__law_least (hr.mono (by omega)) (by rfl) T.m__law_least T.k__law_least T.b__law_least takes0 (aCons dInt (aCons (dBin op_addD o_add (dVar (pv 11)) dInt) aNil)) (lCons_len (lCons_len lNil_len))) aNil))))))) aNil)) (jVal (dCall G__law_chances (hr.mono (by omega)) (by rfl) T.m__law_chances T.k__law_chances T.b__law_chances tk (aCons (dVar (pv 1)) (aCons dInt aNil)) (lCons_len (lCons_len lNil_len))) jNil)) (by rfl)))
    (hCons (hAsg (ps_set (i := 10) nd rfl (.inl rfl) (dCty call_tuple_ofN c_tuple (by rfl) T.z_tuple (by decide +kernel) (aCons (dFE (dLc (pe_lc (own := [("at", 14), ("value", 15), ("chance", 16)]) rfl nd (jEnumA (dVar (pv 10)) (by rfl) T.z_enumerate) (blkOk_by (N := ["script", "cup", "third", "fall", "one", "other", "some", "told", "most", "first", "second", "many", "rule", "mean", "at", "value", "chance"]) (sc := defScope st_law) (by decide +kernel)) (fun _ _ _ _ _ => (kT (pg_tup rfl (kC (kN (pg_name (i := 14) nd rfl (.inl rfl))) (kC (kT (pg_tup rfl (kC (kN (pg_name (i := 15) nd rfl (.inl rfl))) (kC (kN (pg_name (i := 16) nd rfl (.inl rfl))) kE (pgs_cons (kN (pg_name (i := 16) nd rfl (.inl rfl))) kE)) (pgs_cons (kN (pg_name (i := 15) nd rfl (.inl rfl))) (kC (kN (pg_name (i := 16) nd rfl (.inl rfl))) kE (pgs_cons (kN (pg_name (i := 16) nd rfl (.inl rfl))) kE))))) (gs_len (gs_len gE_len))) kE (pgs_cons (kT (pg_tup rfl (kC (kN (pg_name (i := 15) nd rfl (.inl rfl))) (kC (kN (pg_name (i := 16) nd rfl (.inl rfl))) kE (pgs_cons (kN (pg_name (i := 16) nd rfl (.inl rfl))) kE)) (pgs_cons (kN (pg_name (i := 15) nd rfl (.inl rfl))) (kC (kN (pg_name (i := 16) nd rfl (.inl rfl))) kE (pgs_cons (kN (pg_name (i := 16) nd rfl (.inl rfl))) kE))))) (gs_len (gs_len gE_len))) kE)) (pgs_cons (kN (pg_name (i := 14) nd rfl (.inl rfl))) (kC (kT (pg_tup rfl (kC (kN (pg_name (i := 15) nd rfl (.inl rfl))) (kC (kN (pg_name (i := 16) nd rfl (.inl rfl))) kE (pgs_cons (kN (pg_name (i := 16) nd rfl (.inl rfl))) kE)) (pgs_cons (kN (pg_name (i := 15) nd rfl (.inl rfl))) (kC (kN (pg_name (i := 16) nd rfl (.inl rfl))) kE (pgs_cons (kN (pg_name (i := 16) nd rfl (.inl rfl))) kE))))) (gs_len (gs_len gE_len))) kE (pgs_cons (kT (pg_tup rfl (kC (kN (pg_name (i := 15) nd rfl (.inl rfl))) (kC (kN (pg_name (i := 16) nd rfl (.inl rfl))) kE (pgs_cons (kN (pg_name (i := 16) nd rfl (.inl rfl))) kE)) (pgs_cons (kN (pg_name (i := 15) nd rfl (.inl rfl))) (kC (kN (pg_name (i := 16) nd rfl (.inl rfl))) kE (pgs_cons (kN (pg_name (i := 16) nd rfl (.inl rfl))) kE))))) (gs_len (gs_len gE_len))) kE))))) (gs_len (gs_len gE_len)))) (fun _ _ _ _ _ => bNilT) (fun _ _ _ _ _ => (dTup (aCons (dVar (pv 14)) (aCons (dVar (pv 16)) aNil))))))) aNil))))
    (hCons (hAsg (ps_set (i := 12) nd rfl (.inl rfl) (dCty call_tuple_ofN c_tuple (by rfl) T.z_tuple (by decide +kernel) (aCons (dFE (dLc (pe_lc (own := [("at", 14)]) rfl nd (jRg1 (by rfl) T.z_range (aCons (dBin op_addD o_add (dVar (pv 11)) dInt) aNil)) (blkOk_by (N := ["script", "cup", "third", "fall", "one", "other", "some", "told", "most", "first", "second", "many", "rule", "mean", "at", "value", "chance"]) (sc := defScope st_law) (by decide +kernel)) (fun _ _ _ _ _ => (kN (pg_name (i := 14) nd rfl (.inl rfl)))) (fun _ _ _ _ _ => bNilT) (fun _ _ _ _ _ => (dTup (aCons (dVar (pv 14)) (aCons (dCall G__law_least (hr.mono (by omega)) (by rfl) T.m__law_least T.k__law_least T.b__law_least takes0 (aCons (dVar (pv 14)) (aCons (dVar (pv 11)) aNil)) (lCons_len (lCons_len lNil_len))) aNil))))))) aNil))))
    (hCons (hAsg (ps_set (i := 13) nd rfl (.inl rfl) (dCall G_mean_of (hr.mono (by omega)) (by rfl) T.m_mean_of T.k_mean_of T.b_mean_of tk (aCons (dVar (pv 9)) aNil) (lCons_len lNil_len))))
    (hOne (hRet (dCall G__law_like (hr.mono (by omega)) (by rfl) T.m__law_like T.k__law_like T.b__law_like tk (aCons (dCall G_false_share (hr.mono (by omega)) (by rfl) T.m_false_share T.k_false_share T.b_false_share tk (aCons (dVar (pv 9)) (aCons (dVar (pv 10)) (aCons (dVar (pv 12)) aNil))) (lCons_len (lCons_len (lCons_len lNil_len)))) (aCons (dCall G__law_least (hr.mono (by omega)) (by rfl) T.m__law_least T.k__law_least T.b__law_least tk (aCons (dIx (dVar (pv 13)) dInt (fun _ _ => rfl)) (aCons (dBin op_mulD o_mul (dIx (dVar (pv 13)) dInt (fun _ _ => rfl)) (dVar (pv 11))) aNil)) (lCons_len (lCons_len lNil_len))) aNil)) (lCons_len (lCons_len lNil_len)))))))))))))))))))))
end
end K80
set_option Elab.async false
set_option linter.all false
set_option maxRecDepth 100000
set_option maxHeartbeats 2000000
/-! fractions: Rat as pairs in least terms; their reckoning by denotations. -/
namespace FR
open PySem DC
def fr (q : Rat) : D := .tup [.int q.num, .int ((q.den : Nat) : Int)]
abbrev Sz (n : Nat) (i : Int) : Prop := i.natAbs < 2 ^ n
theorem lt_pow {a m n : Nat} (h : a < 2 ^ m) (hm : m ≤ n) : a < 2 ^ n := Nat.lt_of_lt_of_le h (Nat.pow_le_pow_right (by decide) hm)
theorem Sz.mono {m n : Nat} {i : Int} (h : Sz m i) (hm : m ≤ n) : Sz n i := lt_pow h hm
theorem Sz.mul {m n : Nat} {i j : Int} (h : Sz m i) (h2 : Sz n j) : Sz (m + n) (i * j) := by
  unfold Sz at *
  rw [Int.natAbs_mul, Nat.pow_add]
  exact Nat.mul_lt_mul_of_lt_of_le h (Nat.le_of_lt h2) (Nat.lt_of_le_of_lt (Nat.zero_le _) h2)
theorem Sz.add {m : Nat} {i j : Int} (h : Sz m i) (h2 : Sz m j) : Sz (m + 1) (i + j) := by
  unfold Sz at *
  rw [Nat.pow_succ]
  omega
theorem Sz.neg {m : Nat} {i : Int} (h : Sz m i) : Sz m (-i) := by
  unfold Sz at *
  rw [Int.natAbs_neg]; exact h
theorem Sz.sub {m : Nat} {i j : Int} (h : Sz m i) (h2 : Sz m j) : Sz (m + 1) (i - j) := h.add h2.neg
set_option exponentiation.threshold 10 in
theorem mul_sz {i j : Int} (h : Sz 8900 i) (h2 : Sz 8900 j) : mulD (.int i) (.int j) = some (.int (i * j)) := by
  have e1 : Nat.blt i.natAbs (2 ^ 65536) = true := Nat.ble_eq.mpr (lt_pow h (by decide))
  have e2 : Nat.blt j.natAbs (2 ^ 65536) = true := Nat.ble_eq.mpr (lt_pow h2 (by decide))
  refine ev_mul ?_
  unfold mulOk
  rw [e1, e2]
  simp
set_option exponentiation.threshold 10 in
theorem div_sz {i j : Int} (h : 0 < j) (h2 : Sz 8990 j) : divD (.int i) (.int j) = some (.int (i / j)) := by
  have e : Nat.blt j.natAbs (2 ^ 8999) = true := Nat.ble_eq.mpr (lt_pow h2 (by decide))
  show (if (decide (0 < j) && Nat.blt j.natAbs (2 ^ 8999)) = true then some (D.int (i / j)) else _) = _
  rw [e, decide_eq_true h]
  rfl
/-! ### the greatest common divisor -/
abbrev gcdT : XB := (bVal (xBin neD (xVar 1) (xC (.int 0))))
abbrev gcdL1 : SD := (sPar [0, 1] (mVal (xVar 1) (mVal (xBin modD (xVar 0) (xVar 1)) mNil)))
abbrev gcdL2 : SD := (sPar [0, 1] (mVal (xVar 1) (mVal (xBin modD (xCb intD (lCons (xVar 0) lNil)) (xVar 1)) mNil)))
@[simp] theorem ev_mNil {ρ : DC.Env} {μ : Store} : mNil ρ μ = .ok [] μ := rfl
@[simp] theorem ev_mVal {f : XD} {fs : XM} {ρ : DC.Env} {μ : Store} : mVal f fs ρ μ = (f ρ μ).bind fun d μ1 => (fs ρ μ1).bind fun ds μ2 => .ok ((false, d) :: ds) μ2 := rfl
def parE (is : List Nat) (ds : List (Bool × D)) (ρ : DC.Env) (μ : Store) : SRes := match setAll is ds ρ with
  | some ρ' => .nx ρ' μ
  | none => .fail
@[simp] theorem ev_par {fs : XM} {is : List Nat} {ρ : DC.Env} {μ : Store} : sPar is fs ρ μ = (fs ρ μ).st ρ fun ds μ' => parE is ds ρ μ' := rfl
@[simp] theorem parE_nil (ρ : DC.Env) (μ : Store) : parE [] [] ρ μ = .nx ρ μ := rfl
@[simp] theorem parE_cons (i : Nat) (is : List Nat) (b : Bool) (d : D) (ds : List (Bool × D)) (ρ : DC.Env) (μ : Store) : parE (i :: is) ((b, d) :: ds) ρ μ = parE is ds (ρ.set i (if b then .ow d else .fz d)) μ := rfl
theorem eqII (i j : Int) : eqD (.int i) (.int j) = some (.bl (decide (i = j))) := by
  unfold eqD D.eqv
  simp [D.pd, D.toPy, PyData.eqv]
  rfl
theorem neII (i j : Int) : neD (.int i) (.int j) = some (.bl (!decide (i = j))) := by
  unfold neD D.eqv
  simp [D.pd, D.toPy, PyData.eqv]
  rfl
theorem ev_while_succ (n : Nat) (t : XB) (F : SD) (ρ : DC.Env) (μ : Store) : sWhile (n + 1) t F ρ μ = (t ρ μ).st ρ fun b μ1 => if b then (match F ρ μ1 with
      | .nx ρ' μ' => sWhile n t F ρ' μ'
      | .ct ρ' μ' => sWhile n t F ρ' μ'
      | .bk ρ' μ' => .nx ρ' μ'
      | r => r) else .nx ρ μ1 := rfl
theorem while_stop {n : Nat} {t : XB} {F : SD} {ρ : DC.Env} {μ : Store} (h : t ρ μ = .ok false μ) : sWhile (n + 1) t F ρ μ = .nx ρ μ := by
  rw [ev_while_succ, h]; rfl
theorem while_step {n : Nat} {t : XB} {F : SD} {ρ ρ' : DC.Env} {μ μ' : Store} (h : t ρ μ = .ok true μ) (h2 : F ρ μ = .nx ρ' μ') : sWhile (n + 1) t F ρ μ = sWhile n t F ρ' μ' := by
  rw [ev_while_succ, h]
  show (match F ρ μ with
      | .nx ρ' μ' => sWhile n t F ρ' μ'
      | .ct ρ' μ' => sWhile n t F ρ' μ'
      | .bk ρ' μ' => SRes.nx ρ' μ'
      | r => r) = _
  rw [h2]
theorem gcd_while {L : SD} (hL : ∀ (x y : Nat) (μ : Store), 0 < y → L [.fz (.int (x : Int)), .fz (.int (y : Int))] μ = .nx [.fz (.int (y : Int)), .fz (.int ((x % y : Nat) : Int))] μ) : ∀ (n x y : Nat) (μ : Store), y < n →
    sWhile n gcdT L [.fz (.int (x : Int)), .fz (.int (y : Int))] μ = .nx [.fz (.int (Nat.gcd x y : Nat)), .fz (.int 0)] μ
  | 0, x, y, μ, h => by omega
  | n + 1, x, 0, μ, h => by
    rw [while_stop (by simp [neII])]
    simp
  | n + 1, x, y + 1, μ, h => by
    have hne : ¬ ((y + 1 : Nat) : Int) = 0 := by omega
    have hlt := Nat.mod_lt x (show y + 1 > 0 by omega)
    rw [while_step (ρ' := [.fz (.int ((y + 1 : Nat) : Int)), .fz (.int ((x % (y + 1) : Nat) : Int))]) (μ' := μ) (by simp [neII]; omega) (hL x (y + 1) μ (by omega)), gcd_while hL n (y + 1) (x % (y + 1)) μ (by omega)]
    rw [Nat.gcd_comm x (y + 1), Nat.gcd_rec (y + 1) x, Nat.gcd_comm]
theorem mod_nat (x y : Nat) (h : 0 < y) : modD (.int (x : Int)) (.int (y : Int)) = some (.int ((x % y : Nat) : Int)) := by
  rw [ev_mod (by omega)]
  congr 2
theorem gcd_L1 (x y : Nat) (μ : Store) (h : 0 < y) : gcdL1 [.fz (.int (x : Int)), .fz (.int (y : Int))] μ = .nx [.fz (.int (y : Int)), .fz (.int ((x % y : Nat) : Int))] μ := by
  simp [mod_nat x y h]
theorem gcd_L2 (x y : Nat) (μ : Store) (h : 0 < y) : gcdL2 [.fz (.int (x : Int)), .fz (.int (y : Int))] μ = .nx [.fz (.int (y : Int)), .fz (.int ((x % y : Nat) : Int))] μ := by
  simp [mod_nat x y h]
abbrev gcdF (L : SD) : SD := (sSeq (sPar [0, 1] (mVal (xCb absD (lCons (xVar 0) lNil)) (mVal (xCb absD (lCons (xVar 1) lNil)) mNil)))
    (sSeq (sWhileV (fuelI 1) gcdT L)
    (sRet (xVar 0))))
theorem abs_nat (i : Int) : absD [.int i] = some (.int (i.natAbs : Nat)) := by
  rw [ev_abs]
  congr 2
  split <;> omega
theorem gcd_spec {L : SD} (hL : ∀ (x y : Nat) (μ : Store), 0 < y → L [.fz (.int (x : Int)), .fz (.int (y : Int))] μ = .nx [.fz (.int (y : Int)), .fz (.int ((x % y : Nat) : Int))] μ) (a b : Int) (μ : Store) : bodyD (gcdF L) 2 [.int a, .int b] μ = .ok (.int (Int.gcd a b : Nat)) μ := by
  have h1 := gcd_while hL (b.natAbs + 1) a.natAbs b.natAbs μ (by omega)
  have h2 : sWhileV (fuelI 1) gcdT L [.fz (.int (a.natAbs : Int)), .fz (.int (b.natAbs : Int))] μ = .nx [.fz (.int (Nat.gcd a.natAbs b.natAbs : Nat)), .fz (.int 0)] μ := h1
  simp only [ev_body, gcdF, ev_seq, ev_par, ev_mVal, ev_mNil, ev_cb, ev_lCons, ev_lNil, ev_var, ev_entry, List.map_cons, List.map_nil, List.length_cons, List.length_nil, List.cons_append, List.nil_append, List.getElem?_cons_zero, List.getElem?_cons_succ, slV_fz, ev_bind_ok, abs_nat, ev_ofO_some, ev_st_ok, parE_cons, parE_nil, List.set_cons_zero, List.set_cons_succ, seq_nx, Bool.false_eq_true, if_false, Nat.sub_self, List.replicate_zero]
  rw [h2]
  simp
  rfl
end FR
set_option Elab.async false
set_option linter.all false
set_option maxRecDepth 100000
set_option maxHeartbeats 2000000
namespace FR
open PySem DC
/-! ### lowest, least -/
/-- a fraction of bounded size -/
structure SzR (n : Nat) (q : Rat) : Prop where
  num : Sz n q.num
  den : q.den < 2 ^ n
theorem SzR.mono {m n : Nat} {q : Rat} (h : SzR m q) (hm : m ≤ n) : SzR n q := ⟨h.num.mono hm, lt_pow h.den hm⟩
theorem SzR.denZ {n : Nat} {q : Rat} (h : SzR n q) : Sz n ((q.den : Nat) : Int) := h.den
theorem gcd_pos {a b : Int} (hb : 0 < b) : 0 < Int.gcd a b := Nat.pos_of_ne_zero fun z => by
  have := (Int.gcd_eq_zero_iff.mp z).2
  omega
theorem gcd_le {a b : Int} (hb : 0 < b) : (Int.gcd a b : Int) ≤ b := Int.le_of_dvd hb (Int.gcd_dvd_right a b)
theorem num_of {a b : Int} (hb : 0 < b) : (Rat.divInt a b).num = a / (Int.gcd a b : Int) := by
  rw [Rat.num_divInt, Int.sign_eq_one_of_pos hb, Int.one_mul, Int.gcd_comm]
theorem den_of {a b : Int} (hb : 0 < b) : (((Rat.divInt a b).den : Nat) : Int) = b / (Int.gcd a b : Int) := by
  rw [Rat.den_divInt, if_neg (by omega), Int.natCast_ediv, Int.gcd_comm, Int.natAbs_of_nonneg (by omega)]
theorem fr_divInt {a b : Int} (hb : 0 < b) : fr (Rat.divInt a b) = .tup [.int (a / (Int.gcd a b : Int)), .int (b / (Int.gcd a b : Int))] := by
  unfold fr
  rw [num_of hb, den_of hb]
theorem sz_gcd {a b : Int} {n : Nat} (hb : 0 < b) (h : Sz n b) : Sz n (Int.gcd a b : Int) := by
  have := gcd_le (a := a) hb
  unfold Sz at *
  omega
abbrev lowF (g : List D → Store → Res D) : SD := (sSeq (sAsg 2 (xBin mulD (xCall g (lCons (xVar 0) (lCons (xVar 1) lNil))) (xIf (bVal (xBin gtD (xVar 1) (xC (.int 0)))) (xC (.int 1)) (xUn negD (xC (.int 1))))))
    (sRet (xTup (lCons (xBin divD (xVar 0) (xVar 2)) (lCons (xBin divD (xVar 1) (xVar 2)) lNil)))))
theorem low_spec {g : List D → Store → Res D} (hg : ∀ (a b : Int) (μ : Store), g [.int a, .int b] μ = .ok (.int (Int.gcd a b : Nat)) μ) {a b : Int} (hb : 0 < b) (h : Sz 8990 b) (μ : Store) : bodyD (lowF g) 3 [.int a, .int b] μ = .ok (fr (Rat.divInt a b)) μ := by
  have h1 := ev_mul (i := (Int.gcd a b : Int)) (j := 1) (mulOk_r (by decide))
  have hp := gcd_pos (a := a) hb
  have h2 := div_sz (i := a) (j := (Int.gcd a b : Int)) (by omega) (sz_gcd hb h)
  have h3 := div_sz (i := b) (j := (Int.gcd a b : Int)) (by omega) (sz_gcd hb h)
  rw [fr_divInt hb]
  simp [lowF, hg, hb, h1, h2, h3]
abbrev leastF (g : List D → Store → Res D) : SD := (sSeq (sAsg 2 (xIf (bVal (xBin ltD (xVar 1) (xC (.int 0)))) (xUn negD (xC (.int 1))) (xC (.int 1))))
    (sSeq (sAsg 3 (xCb max2D (lCons (xC (.int 1)) (lCons (xCall g (lCons (xVar 0) (lCons (xVar 1) lNil))) lNil))))
    (sRet (xTup (lCons (xCb intD (lCons (xBin divD (xBin mulD (xVar 2) (xVar 0)) (xVar 3)) lNil)) (lCons (xCb intD (lCons (xBin divD (xBin mulD (xVar 2) (xVar 1)) (xVar 3)) lNil)) lNil))))))
theorem least_spec {g : List D → Store → Res D} (hg : ∀ (a b : Int) (μ : Store), g [.int a, .int b] μ = .ok (.int (Int.gcd a b : Nat)) μ) {a b : Int} (hb : 0 < b) (h : Sz 8990 b) (μ : Store) : bodyD (leastF g) 4 [.int a, .int b] μ = .ok (fr (Rat.divInt a b)) μ := by
  have hp := gcd_pos (a := a) hb
  have hn : ¬ b < 0 := by omega
  have hm : max2D [.int 1, .int (Int.gcd a b : Nat)] = some (.int (Int.gcd a b : Nat)) := by
    show some (D.int (if ((Int.gcd a b : Nat) : Int) > 1 then ((Int.gcd a b : Nat) : Int) else 1)) = _
    congr 2
    split <;> omega
  have h1 := ev_mul (i := 1) (j := a) (mulOk_l (by decide))
  have h1' := ev_mul (i := 1) (j := b) (mulOk_l (by decide))
  have h2 := div_sz (i := a) (j := (Int.gcd a b : Int)) (by omega) (sz_gcd hb h)
  have h3 := div_sz (i := b) (j := (Int.gcd a b : Int)) (by omega) (sz_gcd hb h)
  rw [Int.one_mul] at h1 h1'
  rw [fr_divInt hb]
  simp [leastF, hg, hn, hm, h1, h1', h2, h3]
/-! ### reckoning -/
theorem den_pos (q : Rat) : 0 < ((q.den : Nat) : Int) := by have := q.den_pos; omega
theorem ix0 (q : Rat) (μ : Store) : ixS μ (fr q) (.int 0) = some (.int q.num) := rfl
theorem ix1 (q : Rat) (μ : Store) : ixS μ (fr q) (.int 1) = some (.int ((q.den : Nat) : Int)) := rfl
theorem divInt_fr (q : Rat) : Rat.divInt q.num ((q.den : Nat) : Int) = q := Rat.num_divInt_den q
theorem add_fr (p q : Rat) : Rat.divInt (p.num * ((q.den : Nat) : Int) + q.num * ((p.den : Nat) : Int)) (((p.den : Nat) : Int) * ((q.den : Nat) : Int)) = p + q := by
  conv => rhs; rw [← divInt_fr p, ← divInt_fr q]
  rw [Rat.divInt_add_divInt _ _ (by have := den_pos p; omega) (by have := den_pos q; omega)]
theorem mul_fr (p q : Rat) : Rat.divInt (p.num * q.num) (((p.den : Nat) : Int) * ((q.den : Nat) : Int)) = p * q := by
  conv => rhs; rw [← divInt_fr p, ← divInt_fr q]
  rw [Rat.divInt_mul_divInt]
theorem sub_fr (p q : Rat) : Rat.divInt (p.num * ((q.den : Nat) : Int) - q.num * ((p.den : Nat) : Int)) (((p.den : Nat) : Int) * ((q.den : Nat) : Int)) = p - q := by
  conv => rhs; rw [← divInt_fr p, ← divInt_fr q]
  rw [Rat.divInt_sub_divInt _ _ (by have := den_pos p; omega) (by have := den_pos q; omega)]
def LowOk (g : List D → Store → Res D) : Prop := ∀ (a b : Int) (μ : Store), 0 < b → Sz 8990 b → g [.int a, .int b] μ = .ok (fr (Rat.divInt a b)) μ
abbrev sumF (g : List D → Store → Res D) : SD := (sRet (xCall g (lCons (xBin addD (xBin mulD (xIx (xVar 0) (xC (.int 0))) (xIx (xVar 1) (xC (.int 1)))) (xBin mulD (xIx (xVar 1) (xC (.int 0))) (xIx (xVar 0) (xC (.int 1))))) (lCons (xBin mulD (xIx (xVar 0) (xC (.int 1))) (xIx (xVar 1) (xC (.int 1)))) lNil))))
theorem den_mul_sz {p q : Rat} {m n : Nat} (hp : SzR m p) (hq : SzR n q) (h : m + n ≤ 8990) : 0 < ((p.den : Nat) : Int) * ((q.den : Nat) : Int) ∧ Sz 8990 (((p.den : Nat) : Int) * ((q.den : Nat) : Int)) := by
  refine ⟨Int.mul_pos (den_pos p) (den_pos q), (Sz.mul hp.denZ hq.denZ).mono h⟩
theorem sum_spec {g : List D → Store → Res D} (hg : LowOk g) {p q : Rat} (hp : SzR 4000 p) (hq : SzR 4000 q) (μ : Store) : bodyD (sumF g) 2 [fr p, fr q] μ = .ok (fr (p + q)) μ := by
  obtain ⟨h1, h2⟩ := den_mul_sz hp hq (by decide)
  have m1 := mul_sz (hp.num.mono (n := 8900) (by decide)) (hq.denZ.mono (n := 8900) (by decide))
  have m2 := mul_sz (hq.num.mono (n := 8900) (by decide)) (hp.denZ.mono (n := 8900) (by decide))
  have m3 := mul_sz (hp.denZ.mono (n := 8900) (by decide)) (hq.denZ.mono (n := 8900) (by decide))
  have e := hg (p.num * ((q.den : Nat) : Int) + q.num * ((p.den : Nat) : Int)) _ μ h1 h2
  rw [add_fr] at e
  simp [sumF, ix0, ix1, m1, m2, m3, e]
abbrev mulF (g : List D → Store → Res D) : SD := (sRet (xCall g (lCons (xBin mulD (xIx (xVar 0) (xC (.int 0))) (xIx (xVar 1) (xC (.int 0)))) (lCons (xBin mulD (xIx (xVar 0) (xC (.int 1))) (xIx (xVar 1) (xC (.int 1)))) lNil))))
theorem mul_spec {g : List D → Store → Res D} (hg : LowOk g) {p q : Rat} (hp : SzR 4000 p) (hq : SzR 4000 q) (μ : Store) : bodyD (mulF g) 2 [fr p, fr q] μ = .ok (fr (p * q)) μ := by
  obtain ⟨h1, h2⟩ := den_mul_sz hp hq (by decide)
  have m1 := mul_sz (hp.num.mono (n := 8900) (by decide)) (hq.num.mono (n := 8900) (by decide))
  have m3 := mul_sz (hp.denZ.mono (n := 8900) (by decide)) (hq.denZ.mono (n := 8900) (by decide))
  have e := hg (p.num * q.num) _ μ h1 h2
  rw [mul_fr] at e
  simp [mulF, ix0, ix1, m1, m3, e]
/-! ### size of what divides a number -/
/-- a whole number of R-ths -/
def Dv (R : Nat) (q : Rat) : Prop := ∃ k : Int, q = Rat.divInt k (R : Int)
theorem Dv.den {R : Nat} (hR : 0 < R) {q : Rat} (h : Dv R q) : q.den ≤ R := by
  obtain ⟨k, rfl⟩ := h
  have h1 := den_of (a := k) (b := (R : Int)) (by omega)
  have h2 : (R : Int) / (Int.gcd k R : Int) ≤ R := Int.ediv_le_self _ (by omega)
  omega
theorem Dv.add {R : Nat} (hR : 0 < R) {p q : Rat} (h1 : Dv R p) (h2 : Dv R q) : Dv R (p + q) := by
  obtain ⟨k, rfl⟩ := h1
  obtain ⟨l, rfl⟩ := h2
  refine ⟨k + l, ?_⟩
  rw [Rat.divInt_add_divInt _ _ (by omega) (by omega), ← Int.add_mul, Rat.divInt_mul_right (by omega)]
theorem Dv.zero (R : Nat) : Dv R 0 := ⟨0, (Rat.zero_divInt _).symm⟩
/-- the size by the value's bound -/
theorem Dv.sz {R n m : Nat} (hR : 0 < R) (hR2 : R < 2 ^ n) {q : Rat} (h : Dv R q) (h0 : 0 ≤ q) (h1 : q ≤ ((2 ^ m : Nat) : Rat)) : SzR (n + m) q := by
  have hd := h.den hR
  refine ⟨?_, lt_pow (Nat.lt_of_le_of_lt hd hR2) (by omega)⟩
  have hn : 0 ≤ q.num := Rat.num_nonneg.mpr h0
  have h2 := (Rat.le_iff q _).mp h1
  have e1 : (((2 ^ m : Nat) : Rat)).num = ((2 ^ m : Nat) : Int) := rfl
  have e2 : (((2 ^ m : Nat) : Rat)).den = 1 := rfl
  rw [e1, e2] at h2
  have h3 : q.num ≤ ((2 ^ m : Nat) : Int) * (q.den : Nat) := by simpa using h2
  have h4 : q.num.natAbs ≤ 2 ^ m * q.den := by
    have : ((2 ^ m * q.den : Nat) : Int) = ((2 ^ m : Nat) : Int) * (q.den : Nat) := Int.natCast_mul ..
    omega
  have h5 : 2 ^ m * q.den < 2 ^ m * 2 ^ n := Nat.mul_lt_mul_of_pos_left (Nat.lt_of_le_of_lt hd hR2) (Nat.two_pow_pos m)
  show q.num.natAbs < 2 ^ (n + m)
  rw [Nat.add_comm, Nat.pow_add]
  omega
end FR
set_option Elab.async false
set_option linter.all false
set_option maxRecDepth 100000
set_option maxHeartbeats 2000000
namespace FR
open PySem DC
/-! ### sums -/
def sumQ : List Rat → Rat
  | [] => 0
  | q :: qs => q + sumQ qs
theorem sumQ_app : ∀ a b : List Rat, sumQ (a ++ b) = sumQ a + sumQ b
  | [], b => by show _ = 0 + sumQ b; grind
  | q :: a, b => by
    show q + sumQ (a ++ b) = q + sumQ a + sumQ b
    rw [sumQ_app a b]; grind
theorem sumQ_nn : ∀ {a : List Rat}, (∀ q, q ∈ a → 0 ≤ q) → 0 ≤ sumQ a
  | [], _ => Rat.le_refl
  | q :: a, h => Rat.add_nonneg (h q (by simp)) (sumQ_nn fun x hx => h x (List.mem_cons_of_mem _ hx))
theorem sumQ_mul (c : Rat) : ∀ a : List Rat, sumQ (a.map fun q => c * q) = c * sumQ a
  | [] => by show (0 : Rat) = c * 0; grind
  | q :: a => by
    show c * q + sumQ (a.map fun q => c * q) = c * (q + sumQ a)
    rw [sumQ_mul c a]; grind
theorem sumQ_perm {a b : List Rat} (h : a.Perm b) : sumQ a = sumQ b := by
  induction h with
  | nil => rfl
  | cons x _ ih => show x + _ = x + _; rw [ih]
  | swap x y l => show y + (x + sumQ l) = x + (y + sumQ l); grind
  | trans _ _ h1 h2 => rw [h1, h2]
theorem sumQ_rev (a : List Rat) : sumQ a.reverse = sumQ a := sumQ_perm a.reverse_perm
theorem sumQ_zero : ∀ {a : List Rat}, (∀ q, q ∈ a → q = 0) → sumQ a = 0
  | [], _ => rfl
  | q :: a, h => by
    show q + sumQ a = 0
    rw [h q (by simp), sumQ_zero fun x hx => h x (List.mem_cons_of_mem _ hx)]; grind
theorem sumQ_add {α : Type} (f g : α → Rat) : ∀ l : List α, sumQ (l.map fun x => f x + g x) = sumQ (l.map f) + sumQ (l.map g)
  | [] => by show (0 : Rat) = 0 + 0; grind
  | x :: l => by
    show f x + g x + _ = f x + _ + (g x + _)
    rw [sumQ_add f g l]; grind
theorem sumQ_ge_mem {a : List Rat} (h : ∀ q, q ∈ a → 0 ≤ q) {x : Rat} (hx : x ∈ a) : x ≤ sumQ a := by
  induction a with
  | nil => cases hx
  | cons q a ih =>
    have h1 := sumQ_nn (a := a) fun y hy => h y (List.mem_cons_of_mem _ hy)
    show x ≤ q + sumQ a
    rcases List.mem_cons.mp hx with e | hx
    · subst e; grind
    · have := ih (fun y hy => h y (List.mem_cons_of_mem _ hy)) hx
      have := h q (by simp)
      grind
theorem Dv.sum {R : Nat} (hR : 0 < R) : ∀ {a : List Rat}, (∀ q, q ∈ a → Dv R q) → Dv R (sumQ a)
  | [], _ => Dv.zero R
  | q :: a, h => (h q (by simp)).add hR (Dv.sum hR fun x hx => h x (List.mem_cons_of_mem _ hx))
def SumOk (g : List D → Store → Res D) : Prop := ∀ (p q : Rat) (μ : Store), SzR 4000 p → SzR 4000 q → g [fr p, fr q] μ = .ok (fr (p + q)) μ
abbrev overL (g : List D → Store → Res D) : SD := (sAsg 1 (xCall g (lCons (xVar 1) (lCons (xVar 2) lNil))))
/-- what a list of fractions must keep -/
structure Few (R n m : Nat) (a : List Rat) : Prop where
  pos : 0 < R
  lt : R < 2 ^ n
  le : n + m ≤ 4000
  dv : ∀ q, q ∈ a → Dv R q
  nn : ∀ q, q ∈ a → 0 ≤ q
theorem over_loop {g : List D → Store → Res D} (hg : SumOk g) {R n m : Nat} {s0 : Sl} {μ : Store} : ∀ (a : List Rat) (x : Rat) (s2 : Sl), Few R n m a → Dv R x → 0 ≤ x → x + sumQ a ≤ ((2 ^ m : Nat) : Rat) → ∃ s2', sForL (gN 2) (overL g) (a.map fr) [s0, .fz (fr x), s2] μ = .nx [s0, .fz (fr (x + sumQ a)), s2'] μ
  | [], x, s2, _, _, _, _ => ⟨s2, by show SRes.nx _ _ = _; rw [show x + sumQ [] = x by show x + 0 = x; grind]⟩
  | q :: a, x, s2, hf, hd, h0, h1 => by
    have hd2 := hf.dv q (by simp)
    have hq := hf.nn q (by simp)
    have ha := sumQ_nn (a := a) fun y hy => hf.nn y (List.mem_cons_of_mem _ hy)
    have h1' : x + (q + sumQ a) ≤ ((2 ^ m : Nat) : Rat) := h1
    have b1 := hd.sz hf.pos hf.lt h0 (m := m) (by grind)
    have b2 := hd2.sz hf.pos hf.lt hq (m := m) (by grind)
    obtain ⟨s2', e⟩ := over_loop hg (s0 := s0) (μ := μ) (m := m) a (x + q) (.fz (fr q)) ⟨hf.pos, hf.lt, hf.le, fun y hy => hf.dv y (List.mem_cons_of_mem _ hy), fun y hy => hf.nn y (List.mem_cons_of_mem _ hy)⟩ (hd.add hf.pos hd2) (by grind) (by grind)
    refine ⟨s2', ?_⟩
    have es := hg x q μ (b1.mono hf.le) (b2.mono hf.le)
    rw [List.map_cons, forL_cons (ρ1 := [s0, .fz (fr x), .fz (fr q)]) (ρ2 := [s0, .fz (fr (x + q)), .fz (fr q)]) (μ2 := μ) rfl (by simp [es]), e]
    show SRes.nx [s0, .fz (fr (x + q + sumQ a)), s2'] μ = .nx [s0, .fz (fr (x + (q + sumQ a))), s2'] μ
    rw [show x + q + sumQ a = x + (q + sumQ a) by grind]
abbrev overF (g : List D → Store → Res D) : SD := (sSeq (sAsg 1 (xC (.tup [(.int 0), (.int 1)])))
    (sSeq (sFor (iSeq (xVar 0)) (gN 2) (overL g))
    (sRet (xVar 1))))
abbrev overF' (g : List D → Store → Res D) : SD := (sSeq (sAsg 1 (xTup (lCons (xC (.int 0)) (lCons (xC (.int 1)) lNil))))
    (sSeq (sFor (iSeq (xVar 0)) (gN 2) (overL g))
    (sRet (xVar 1))))
theorem fr0 : (.tup [.int 0, .int 1] : D) = fr 0 := rfl
theorem fr1 : (.tup [.int 1, .int 1] : D) = fr 1 := rfl
theorem over_spec {g : List D → Store → Res D} (hg : SumOk g) {R n m : Nat} {a : List Rat} (hf : Few R n m a) (hs : sumQ a ≤ ((2 ^ m : Nat) : Rat)) (μ : Store) : bodyD (overF g) 3 [.lst (a.map fr)] μ = .ok (fr (sumQ a)) μ ∧ bodyD (overF' g) 3 [.lst (a.map fr)] μ = .ok (fr (sumQ a)) μ := by
  obtain ⟨s2', e⟩ := over_loop hg (s0 := .fz (.lst (a.map fr))) (μ := μ) (m := m) a 0 .no hf (Dv.zero R) Rat.le_refl (by grind)
  rw [show (0 : Rat) + sumQ a = sumQ a by grind] at e
  refine ⟨?_, ?_⟩
  · simp [overF, fr0, e]
  · simp [overF', fr0, e]
theorem sumQ_le_len {c : Rat} (hc : 0 ≤ c) : ∀ {a : List Rat}, (∀ q, q ∈ a → q ≤ c) → sumQ a ≤ (a.length : Rat) * c
  | [], _ => by show (0 : Rat) ≤ ((0 : Nat) : Rat) * c; grind
  | q :: a, h => by
    have h1 := sumQ_le_len hc (a := a) fun x hx => h x (List.mem_cons_of_mem _ hx)
    have h2 := h q (by simp)
    show q + sumQ a ≤ ((a.length + 1 : Nat) : Rat) * c
    have : ((a.length + 1 : Nat) : Rat) = (a.length : Rat) + 1 := Rat.natCast_add ..
    rw [this]
    grind
theorem fr_inj {p q : Rat} (h : fr p = fr q) : p = q := by
  unfold fr at h
  simp at h
  exact Rat.ext h.1 (by omega)
end FR
set_option Elab.async false
set_option linter.all false
set_option maxRecDepth 100000
set_option maxHeartbeats 2000000
namespace FR
open PySem DC
/-! ### powers, chances of points -/
theorem rat_mul_pow (x y : Rat) : ∀ n : Nat, (x * y) ^ n = x ^ n * y ^ n
  | 0 => by grind
  | n + 1 => by
    have := rat_mul_pow x y n
    rw [Rat.pow_succ, Rat.pow_succ, Rat.pow_succ, this]; grind
theorem rat_pow_add (x : Rat) (m : Nat) : ∀ n : Nat, x ^ (m + n) = x ^ m * x ^ n
  | 0 => by grind
  | n + 1 => by
    have := rat_pow_add x m n
    rw [← Nat.add_assoc, Rat.pow_succ, Rat.pow_succ, this]; grind
theorem rat_pow_ne {x : Rat} (h : x ≠ 0) : ∀ n : Nat, x ^ n ≠ 0
  | 0 => by grind
  | n + 1 => by
    have := rat_pow_ne h n
    rw [Rat.pow_succ]
    intro z
    rcases Rat.mul_eq_zero.mp z with z | z
    · exact this z
    · exact h z
theorem cast_pow (a : Int) : ∀ n : Nat, ((a ^ n : Int) : Rat) = (a : Rat) ^ n
  | 0 => by rw [Int.pow_zero, Rat.pow_zero]; rfl
  | n + 1 => by rw [Int.pow_succ, Rat.pow_succ, Rat.intCast_mul, cast_pow a n]
/-- the chance of a point: w ways, u ups, d downs -/
def pc (q : Rat) (w : Int) (u d : Nat) : Rat := (w : Rat) * q ^ u * (1 - q) ^ d
theorem pc_eq {a b : Int} (hb : 0 < b) (w : Int) (u d : Nat) : Rat.divInt (w * a ^ u * (b - a) ^ d) (b ^ (u + d)) = pc (Rat.divInt a b) w u d := by
  unfold pc
  rw [Rat.divInt_eq_div, Rat.divInt_eq_div, Rat.intCast_mul, Rat.intCast_mul, cast_pow, cast_pow, cast_pow, Rat.intCast_sub]
  have hy : (b : Rat) ≠ 0 := by
    intro z
    have := Rat.intCast_inj.mp (z.trans Rat.intCast_zero.symm)
    omega
  generalize (b : Rat) = y at hy
  generalize hq : (a : Rat) / y = q
  have hx : (a : Rat) = q * y := by grind
  rw [hx, show y - q * y = (1 - q) * y by grind, rat_mul_pow, rat_mul_pow, rat_pow_add]
  have h1 := rat_pow_ne hy u
  have h2 := rat_pow_ne hy d
  generalize y ^ u = s at *
  generalize y ^ d = t at *
  generalize q ^ u = m at *
  generalize (1 - q) ^ d = n at *
  have h3 : s * t ≠ 0 := fun z => (Rat.mul_eq_zero.mp z).elim h1 h2
  grind
theorem pc_dv {a b : Int} (hb : 0 < b) (w : Int) (u d : Nat) {N : Nat} (hN : N = (b ^ (u + d)).toNat) : Dv N (pc (Rat.divInt a b) w u d) := by
  refine ⟨w * a ^ u * (b - a) ^ d, ?_⟩
  rw [← pc_eq hb, hN]
  have : 0 ≤ b ^ (u + d) := Int.pow_nonneg (by omega)
  rw [Int.toNat_of_nonneg this]
theorem Dv.up {R S : Nat} {q : Rat} (h : Dv R q) (hs : 0 < S) : Dv (R * S) q := by
  obtain ⟨k, rfl⟩ := h
  refine ⟨k * S, ?_⟩
  rw [Int.natCast_mul, Rat.divInt_mul_right (by omega)]
theorem pc_nn {q : Rat} (h0 : 0 ≤ q) (h1 : q ≤ 1) {w : Int} (hw : 0 ≤ w) (u d : Nat) : 0 ≤ pc q w u d :=
  Rat.mul_nonneg (Rat.mul_nonneg (Rat.intCast_nonneg.mpr hw) (Rat.pow_nonneg h0)) (Rat.pow_nonneg (by grind))
abbrev powL : SD := (sAsg 2 (xBin mulD (xVar 2) (xVar 0)))
abbrev powF : SD := (sSeq (sAsg 2 (xC (.int 1)))
    (sSeq (sFor (iRg1 (lCons (xVar 1) lNil)) (gN 3) powL)
    (sRet (xVar 2))))
def rgI : Int → Nat → List D
  | _, 0 => []
  | lo, n + 1 => .int lo :: rgI (lo + 1) n
theorem rangeD_rg : ∀ (n : Nat) (lo : Int), rangeD lo n = rgI lo n := by
  intro n
  induction n with
  | zero => intro lo; rfl
  | succ n ih =>
    intro lo
    show _ = D.int lo :: rgI (lo + 1) n
    rw [← ih (lo + 1)]
    unfold rangeD
    rw [List.range_succ_eq_map, List.map_cons, List.map_map]
    congr 1
    · show D.int (lo + (0 : Nat)) = _
      rw [show lo + ((0 : Nat) : Int) = lo by omega]
    · apply List.map_congr_left
      intro u _
      show D.int (lo + ((u + 1 : Nat) : Int)) = D.int (lo + 1 + (u : Int))
      rw [show lo + ((u + 1 : Nat) : Int) = lo + 1 + (u : Int) by omega]
theorem pow_loop {b : Int} (hb : b.natAbs < 18446744073709551616) {s1 : Sl} {μ : Store} : ∀ (n : Nat) (lo x : Int) (s3 : Sl), ∃ s3', sForL (gN 3) powL (rgI lo n) [.fz (.int b), s1, .fz (.int x), s3] μ = .nx [.fz (.int b), s1, .fz (.int (x * b ^ n)), s3'] μ
  | 0, lo, x, s3 => ⟨s3, by simp [rgI]⟩
  | n + 1, lo, x, s3 => by
    obtain ⟨s3', e⟩ := pow_loop hb (s1 := s1) (μ := μ) n (lo + 1) (x * b) (.fz (.int lo))
    refine ⟨s3', ?_⟩
    have hm := ev_mul (i := x) (j := b) (mulOk_r hb)
    show sForL _ _ (.int lo :: rgI (lo + 1) n) _ μ = _
    rw [forL_cons (ρ1 := [.fz (.int b), s1, .fz (.int x), .fz (.int lo)]) (ρ2 := [.fz (.int b), s1, .fz (.int (x * b)), .fz (.int lo)]) (μ2 := μ) rfl (by simp [hm]), e]
    have : x * b * b ^ n = x * b ^ (n + 1) := by rw [Int.mul_assoc, Int.pow_succ, Int.mul_comm b (b ^ n)]
    rw [this]
theorem rgOk_int' {i : Int} (h : -1000000 ≤ i) (h2 : i ≤ 1000000) : rgOk i = true := by
  unfold rgOk
  exact Nat.ble_eq.mpr (by omega)
theorem pow_spec {b : Int} (hb : b.natAbs < 18446744073709551616) {n : Nat} (hn : n ≤ 1000) (μ : Store) : bodyD powF 4 [.int b, .int (n : Nat)] μ = .ok (.int (b ^ n)) μ := by
  obtain ⟨s3', e⟩ := pow_loop hb (s1 := .fz (.int (n : Nat))) (μ := μ) n 0 1 .no
  have hr := rgOk_int' (i := (n : Nat)) (by omega) (by omega)
  have hs : iRg1 (lCons (xVar 1) lNil) [.fz (.int b), .fz (.int (n : Nat)), .fz (.int 1), .no] μ = .ok (rgI 0 n) μ := by
    unfold iRg1
    simp [hr, rangeD_rg]
  rw [Int.one_mul] at e
  simp [powF, hs, e]
theorem pow_sz {b : Int} {k : Nat} (h : Sz k b) : ∀ n : Nat, Sz (k * n + 1) (b ^ n)
  | 0 => by unfold Sz; simp
  | n + 1 => by
    have := (pow_sz h n).mul h
    rw [Int.pow_succ]
    exact this.mono (by rw [Nat.mul_succ]; omega)
end FR
set_option Elab.async false
set_option linter.all false
set_option maxRecDepth 100000
set_option maxHeartbeats 2000000
namespace FR
open PySem DC
/-! ### sums by groups -/
theorem sum_ind {k : Int} {c : Rat} : ∀ {nums : List Int}, nums.Nodup → sumQ (nums.map fun n => if k = n then c else 0) = if k ∈ nums then c else 0
  | [], _ => rfl
  | n :: nums, h => by
    have h2 := List.nodup_cons.mp h
    have ih := sum_ind (k := k) (c := c) h2.2
    show (if k = n then c else 0) + sumQ (nums.map fun n => if k = n then c else 0) = _
    rw [ih]
    by_cases e : k = n
    · subst e
      rw [if_pos rfl, if_neg h2.1, if_pos (by simp)]; grind
    · rw [if_neg e]
      by_cases hm : k ∈ nums
      · rw [if_pos hm, if_pos (List.mem_cons_of_mem _ hm)]; grind
      · rw [if_neg hm, if_neg (by simp [e, hm])]; grind
theorem group_sum {α : Type} (κ : α → Int) (f : α → Rat) {nums : List Int} (hn : nums.Nodup) : ∀ l : List α, (∀ x, x ∈ l → κ x ∈ nums) → sumQ (nums.map fun k => sumQ ((l.filter fun x => decide (κ x = k)).map f)) = sumQ (l.map f)
  | [], _ => sumQ_zero fun q hq => by
    obtain ⟨k, _, rfl⟩ := List.mem_map.mp hq
    rfl
  | x :: l, h => by
    have ih := group_sum κ f hn l fun y hy => h y (List.mem_cons_of_mem _ hy)
    have e : (fun k => sumQ (((x :: l).filter fun x => decide (κ x = k)).map f)) = fun k => (if κ x = k then f x else 0) + sumQ ((l.filter fun x => decide (κ x = k)).map f) := by
      funext k
      by_cases hk : κ x = k
      · rw [List.filter_cons_of_pos (by simpa using hk), if_pos hk]; rfl
      · rw [List.filter_cons_of_neg (by simpa using hk), if_neg hk]; grind
    rw [e, sumQ_add, ih, sum_ind hn, if_pos (h x (by simp))]
    rfl
theorem group_mul {α : Type} (κ : α → Int) (f : α → Rat) {nums : List Int} (hn : nums.Nodup) (l : List α) (h : ∀ x, x ∈ l → κ x ∈ nums) : sumQ (nums.map fun (k : Int) => (k : Rat) * sumQ ((l.filter fun x => decide (κ x = k)).map f)) = sumQ (l.map fun x => (κ x : Rat) * f x) := by
  rw [← group_sum κ (fun x => (κ x : Rat) * f x) hn l h]
  congr 1
  apply List.map_congr_left
  intro k _
  rw [← sumQ_mul, List.map_map]
  congr 1
  apply List.map_congr_left
  intro x hx
  have := of_decide_eq_true (List.mem_filter.mp hx).2
  rw [← this]
  rfl
theorem asc_len : ∀ {l : List Int} {a : Int} {n : Nat}, l.Pairwise (· < ·) → (∀ x, x ∈ l → a < x ∧ x ≤ a + n) → l.length ≤ n
  | [], _, _, _, _ => Nat.zero_le _
  | x :: l, a, n, h, hb => by
    have h2 := List.pairwise_cons.mp h
    obtain ⟨b1, b2⟩ := hb x (by simp)
    obtain ⟨m, rfl⟩ : ∃ m, n = m + 1 := ⟨n - 1, by omega⟩
    have := asc_len (l := l) (a := x) (n := (a + (m + 1 : Nat) - x).toNat) h2.2 fun y hy => ⟨h2.1 y hy, by have := (hb y (List.mem_cons_of_mem _ hy)).2; omega⟩
    rw [List.length_cons]
    omega
theorem scale_low {k : Int} {q : Rat} : Rat.divInt (k * q.num) ((q.den : Nat) : Int) = (k : Rat) * q := by
  conv => rhs; rw [← divInt_fr q]
  rw [Rat.divInt_eq_div, Rat.divInt_eq_div, Rat.intCast_mul]
  grind
theorem Dv.scale {R : Nat} {q : Rat} (k : Int) (h : Dv R q) : Dv R ((k : Rat) * q) := by
  obtain ⟨l, rfl⟩ := h
  refine ⟨k * l, ?_⟩
  rw [Rat.divInt_eq_div, Rat.divInt_eq_div, Rat.intCast_mul]
  grind
end FR
set_option Elab.async false
set_option linter.all false
set_option maxRecDepth 100000
set_option maxHeartbeats 2000000
namespace K80
open PySem DC
def CupOk (μ : Store) : Prop := ∃ a b : Int, μ = [[a, b]] ∧ 0 ≤ a ∧ 0 ≤ b
theorem ixc0 {a b : Int} : ixS [[a, b]] (.own 0) (.int 0) = some (.int a) := rfl
theorem ixc1 {a b : Int} : ixS [[a, b]] (.own 0) (.int 1) = some (.int b) := rfl
theorem roll_spec {μ : Store} {many : Int} (h : CupOk μ) (h0 : 0 < many) (h1 : many < 1000000) : ∃ v μ', g__law_roll [.own 0, .int many] μ = .ok (.int v) μ' ∧ CupOk μ' ∧ 0 ≤ v ∧ v < many := by
  obtain ⟨a, b, rfl, ha, hb⟩ := h
  unfold g__law_roll F__law_roll
  by_cases hp : 0 < a
  · refine ⟨a % many, [[a / many, b]], ?_, ⟨_, _, rfl, Int.ediv_nonneg ha (by omega), hb⟩, Int.emod_nonneg _ (by omega), Int.emod_lt_of_pos _ h0⟩
    simp [ixc0, hp, ev_mod h0]
    rw [ev_setI (n := 0) (p := 0) (z := a / many) (j := 0) (μ1 := [[a, b]]) (μ2 := [[a, b]]) (ns := [a, b]) rfl (by simp [ixc0, ev_div h0 (show many < 1000000000000000000 by omega)]) rfl rfl rfl]
    simp
  · have hb0 : 0 ≤ (b * 31051 + 7993) % 2147483543 := Int.emod_nonneg _ (by omega)
    have hb1 : (b * 31051 + 7993) % 2147483543 < 2147483543 := Int.emod_lt_of_pos _ (by omega)
    have m1 : mulOk b 31051 = true := mulOk_r (by decide)
    have e1 := ev_setI (ρ := [.fz (.own 0), .fz (.int many), .no, .no]) (μ := [[a, b]]) (i := 0) (n := 0) (p := 1) (fi := xC (.int 1)) (fe := xBin modD (xCb intD (lCons (xBin addD (xBin mulD (xIx (xVar 0) (xC (.int 1))) (xC (.int 31051))) (xC (.int 7993))) lNil)) (xC (.int 2147483543)))
      (z := (b * 31051 + 7993) % 2147483543) (j := 1) (μ1 := [[a, b]]) (μ2 := [[a, b]]) (ns := [a, b]) rfl (by simp [ixc1, ev_mul m1, ev_mod]) rfl rfl rfl
    generalize hc : (b * 31051 + 7993) % 2147483543 = c at *
    have m2 : mulOk c (c + 229) = true := mulOk_r (by omega)
    refine ⟨c * (c + 229) % 2147483587 / 821 % many, [[a, c]], ?_, ⟨_, _, rfl, ha, hb0⟩, Int.emod_nonneg _ (by omega), Int.emod_lt_of_pos _ h0⟩
    simp [ixc0, hp, e1]
    simp [ixc1, ev_mul m2, ev_mod, ev_div, h0]
end K80
set_option Elab.async false
set_option linter.all false
set_option maxRecDepth 100000
set_option maxHeartbeats 2000000
namespace K80
open PySem DC
theorem eqvAll_refl (xs : List D) (h : ∀ x, x ∈ xs → PyData.eqv x.toPy x.toPy = true) : PyData.eqvAll (D.toPyA xs) (D.toPyA xs) = true := by
  induction xs with
  | nil => simp [D.toPyA, PyData.eqvAll]
  | cons x xs ih =>
    simp only [D.toPyA, PyData.eqvAll]
    rw [h x (by simp), ih fun y hy => h y (List.mem_cons_of_mem _ hy)]
    rfl
theorem eqv_refl : ∀ (n : Nat) (d : D), D.pd n d = true → D.eqv d d = true
  | 0, d, h => by simp [D.pd] at h
  | n + 1, d, h => by
    unfold D.eqv
    cases d with
    | non => simp [D.toPy, PyData.eqv]
    | bl b => simp [D.toPy, PyData.eqv]
    | int i => simp [D.toPy, PyData.eqv]
    | str x => simp [D.toPy, PyData.eqv]
    | tup xs =>
      simp only [D.toPy, PyData.eqv]
      have hx : xs.all (D.pd n) = true := h
      exact eqvAll_refl xs fun x hx' => eqv_refl n x (List.all_eq_true.mp hx x hx')
    | lst xs =>
      simp only [D.toPy, PyData.eqv]
      have hx : xs.all (D.pd n) = true := h
      exact eqvAll_refl xs fun x hx' => eqv_refl n x (List.all_eq_true.mp hx x hx')
    | scr _ => simp [D.pd] at h
    | dk _ _ => simp [D.pd] at h
    | dt _ _ => simp [D.pd] at h
    | own _ => simp [D.pd] at h
theorem pd_mono : ∀ (n m : Nat) (d : D), n ≤ m → D.pd n d = true → D.pd m d = true
  | 0, m, d, _, h => by simp [D.pd] at h
  | n + 1, 0, d, hm, h => by omega
  | n + 1, m + 1, d, hm, h => by
    cases d with
    | tup xs =>
      have hx : xs.all (D.pd n) = true := h
      show xs.all (D.pd m) = true
      rw [List.all_eq_true] at hx ⊢
      exact fun x hx' => pd_mono n m x (by omega) (hx x hx')
    | lst xs =>
      have hx : xs.all (D.pd n) = true := h
      show xs.all (D.pd m) = true
      rw [List.all_eq_true] at hx ⊢
      exact fun x hx' => pd_mono n m x (by omega) (hx x hx')
    | non => rfl
    | bl b => rfl
    | int i => rfl
    | str x => rfl
    | scr _ => simp [D.pd] at h
    | dk _ _ => simp [D.pd] at h
    | dt _ _ => simp [D.pd] at h
    | own _ => simp [D.pd] at h
@[simp] theorem ev_eqII (i j : Int) : eqD (.int i) (.int j) = some (.bl (decide (i = j))) := by
  unfold eqD D.eqv
  simp [D.pd, D.toPy, PyData.eqv]
  rfl
@[simp] theorem ev_neII (i j : Int) : neD (.int i) (.int j) = some (.bl (!decide (i = j))) := by
  unfold neD D.eqv
  simp [D.pd, D.toPy, PyData.eqv]
  rfl
@[simp] theorem ev_eqSS (x y : Str) : eqD (.str x) (.str y) = some (.bl (decide (x = y))) := by
  unfold eqD D.eqv
  simp [D.pd, D.toPy, PyData.eqv]
  rfl
@[simp] theorem ev_nil : eqD (.lst []) (.lst []) = some (.bl true) := by
  unfold eqD D.eqv
  simp [D.pd, D.toPy, D.toPyA, PyData.eqv, PyData.eqvAll]
def srtI (d : D) : Int := match d with
  | .non => 0
  | .bl _ => 1
  | .int _ => 2
  | .str _ => 3
  | .tup _ => 4
  | .lst _ => 5
  | _ => 6
theorem sort_spec (d : D) (h : D.pd 60 d = true) (μ : Store) : g__law_sort [d] μ = .ok (.int (srtI d)) μ := by
  unfold g__law_sort F__law_sort
  cases d with
  | scr _ => simp [D.pd] at h
  | dk _ _ => simp [D.pd] at h
  | dt _ _ => simp [D.pd] at h
  | own _ => simp [D.pd] at h
  | _ => simp [isN, D.isNon, isiD, Ty.has, srtI]
end K80
set_option Elab.async false
set_option linter.all false
set_option maxRecDepth 100000
set_option maxHeartbeats 2000000
namespace K80
open PySem DC
theorem in45 (s : Int) : inSq false (.int s) (.tup [.int 4, .int 5]) = some (.bl (decide (s = 4 ∨ s = 5))) := by
  have e : inSq false (.int s) (.tup [.int 4, .int 5]) = some (.bl ((4 : Int) == s || (5 : Int) == s)) := by
    unfold inSq
    simp [D.flat, D.eqv, D.toPy, PyData.eqv]
  rw [e]
  by_cases h : s = 4
  · subst h; rfl
  · by_cases h2 : s = 5
    · subst h2; rfl
    · have e1 : ((4 : Int) == s) = false := beq_eq_false_iff_ne.mpr fun z => h z.symm
      have e2 : ((5 : Int) == s) = false := beq_eq_false_iff_ne.mpr fun z => h2 z.symm
      rw [e1, e2, decide_eq_false (by omega)]
      rfl
theorem zip_self (ds : List D) : ∀ x, x ∈ List.zipWith pairD ds ds → ∃ d, d ∈ ds ∧ x = .tup [d, d] := by
  induction ds with
  | nil => intro x h; cases h
  | cons d ds ih =>
    intro x h
    rcases List.mem_cons.mp (show x ∈ pairD d d :: List.zipWith pairD ds ds from h) with e | h
    · exact ⟨d, by simp, e⟩
    · obtain ⟨d', h1, h2⟩ := ih x h
      exact ⟨d', List.mem_cons_of_mem _ h1, h2⟩
theorem filter_ff {α : Type} (l : List α) : l.filter (fun _ => false) = [] := by
  induction l with
  | nil => rfl
  | cons a l ih => rw [List.filter_cons_of_neg (by decide), ih]
/-- lists nowhere too long -/
def lenB : Nat → D → Bool
  | 0, _ => true
  | n + 1, d => match d with
    | .tup xs => decide (xs.length ≤ 1000000) && xs.all (lenB n)
    | .lst xs => decide (xs.length ≤ 1000000) && xs.all (lenB n)
    | _ => true
theorem like_seq {n : Nat} {ds : List D} {μ : Store} (ih : ∀ d, D.pd n d = true → lenB n d = true → g__law_like n [d, d] μ = .ok (.bl true) μ) (hp : ds.all (D.pd n) = true) (hl : ds.length ≤ 1000000) (hb : ds.all (lenB n) = true) (c : List D → D) (hc : ∀ xs ys, wZipA (lCons (xVar 0) (lCons (xVar 1) lNil)) [.fz (c xs), .fz (c ys), .fz (.int (srtI (c xs))), .no, .no] μ = .ok (List.zipWith pairD xs ys) μ) :
    xLc (wZipA (lCons (xVar 0) (lCons (xVar 1) lNil))) (gT (gC (gN 3) (gC (gN 4) gE))) (bNot (bVal (xCall (g__law_like n) (lCons (xVar 3) (lCons (xVar 4) lNil))))) (xC (.int 1)) [3, 4] [.fz (c ds), .fz (c ds), .fz (.int (srtI (c ds))), .no, .no] μ = .ok (.lst []) μ := by
  rw [ev_lc (p := fun _ => false) (h := fun x => x) (hc ds ds) rfl (by rw [List.length_zipWith]; omega) fun d hd => ?_, filter_ff]
  · rfl
  · obtain ⟨x, hx, rfl⟩ := zip_self ds d hd
    refine ⟨_, rfl, ?_, fun h => by cases h⟩
    simp [wipeE, ih x (List.all_eq_true.mp hp x hx) (List.all_eq_true.mp hb x hx)]
theorem like_refl : ∀ (n : Nat), n ≤ 60 → ∀ (d : D) (μ : Store), D.pd n d = true → lenB n d = true → g__law_like n [d, d] μ = .ok (.bl true) μ
  | 0, _, d, μ, h, _ => by simp [D.pd] at h
  | n + 1, hn, d, μ, h, hb => by
    have h60 := pd_mono _ 60 d hn h
    have hs := sort_spec d h60 μ
    have he : eqD d d = some (.bl true) := by
      unfold eqD
      rw [h60, eqv_refl 60 d h60]
      rfl
    unfold g__law_like F__law_like
    cases d with
    | scr _ => simp [D.pd] at h
    | dk _ _ => simp [D.pd] at h
    | dt _ _ => simp [D.pd] at h
    | own _ => simp [D.pd] at h
    | tup ds =>
      have hb' : (decide (ds.length ≤ 1000000) && ds.all (lenB n)) = true := hb
      rw [Bool.and_eq_true, decide_eq_true_eq] at hb'
      have hq := like_seq (n := n) (ds := ds) (μ := μ) (fun d h hb => like_refl n (by omega) d μ h hb) h hb'.1 hb'.2 D.tup fun xs ys => by simp [wZipA, lCons, lNil]
      have : srtI (.tup ds) = 4 := rfl
      rw [this] at hq hs
      simp [hs, in45, lenD, hq]
    | lst ds =>
      have hb' : (decide (ds.length ≤ 1000000) && ds.all (lenB n)) = true := hb
      rw [Bool.and_eq_true, decide_eq_true_eq] at hb'
      have hq := like_seq (n := n) (ds := ds) (μ := μ) (fun d h hb => like_refl n (by omega) d μ h hb) h hb'.1 hb'.2 D.lst fun xs ys => by simp [wZipA, lCons, lNil]
      have : srtI (.lst ds) = 5 := rfl
      rw [this] at hq hs
      simp [hs, in45, lenD, hq]
    | non => simp [hs, in45, srtI, he]
    | bl b => simp [hs, in45, srtI, he]
    | int b => simp [hs, in45, srtI, he]
    | str b => simp [hs, in45, srtI, he]
end K80
set_option Elab.async false
set_option linter.all false
set_option maxRecDepth 100000
set_option maxHeartbeats 2000000
namespace K80
open PySem DC
end K80
set_option Elab.async false
set_option linter.all false
set_option maxRecDepth 100000
set_option maxHeartbeats 2000000
namespace K80
open PySem DC
@[simp] theorem ev_mNil {ρ : DC.Env} {μ : Store} : mNil ρ μ = .ok [] μ := rfl
@[simp] theorem ev_mVal {f : XD} {fs : XM} {ρ : DC.Env} {μ : Store} : mVal f fs ρ μ = (f ρ μ).bind fun d μ1 => (fs ρ μ1).bind fun ds μ2 => .ok ((false, d) :: ds) μ2 := rfl
@[simp] theorem ev_mNew {f : XD} {fs : XM} {ρ : DC.Env} {μ : Store} : mNew f fs ρ μ = (f ρ μ).bind fun d μ1 => (fs ρ μ1).bind fun ds μ2 => .ok ((true, d) :: ds) μ2 := rfl
def parE (is : List Nat) (ds : List (Bool × D)) (ρ : DC.Env) (μ : Store) : SRes := match setAll is ds ρ with
  | some ρ' => .nx ρ' μ
  | none => .fail
@[simp] theorem ev_par {fs : XM} {is : List Nat} {ρ : DC.Env} {μ : Store} : sPar is fs ρ μ = (fs ρ μ).st ρ fun ds μ' => parE is ds ρ μ' := rfl
@[simp] theorem parE_nil (ρ : DC.Env) (μ : Store) : parE [] [] ρ μ = .nx ρ μ := rfl
@[simp] theorem parE_cons (i : Nat) (is : List Nat) (b : Bool) (d : D) (ds : List (Bool × D)) (ρ : DC.Env) (μ : Store) : parE (i :: is) ((b, d) :: ds) ρ μ = parE is ds (ρ.set i (if b then .ow d else .fz d)) μ := rfl
@[simp] theorem ev_min (i j : Int) : min2D [.int i, .int j] = some (.int (if j < i then j else i)) := rfl
theorem rgOk_int {i : Int} (h : -1000000 ≤ i) (h2 : i ≤ 1000000) : rgOk i = true := by
  unfold rgOk
  exact Nat.ble_eq.mpr (by omega)
theorem rangeD_at {lo : Int} {n i : Nat} {d : D} (h : (rangeD lo n)[i]? = some d) : i < n ∧ d = .int (lo + (i : Nat)) := by
  have hl : i < n := by
    have := (List.getElem?_eq_some_iff.mp h).1
    rw [rangeD_len] at this; exact this
  rw [rangeD_get hl] at h
  exact ⟨hl, (Option.some.inj h).symm⟩
end K80
set_option Elab.async false
set_option linter.all false
set_option maxRecDepth 100000
set_option maxHeartbeats 2000000
namespace K80
open PySem DC
theorem enum_map {f : Nat → Int → Int} {g : D → D} (hg : ∀ (i : Nat) (w : Int), g (.tup [.int (i : Nat), .int w]) = .int (f i w)) (a : List Int) : (enumD (a.map D.int)).map g = (a.mapIdx f).map D.int := by
  apply List.ext_getElem?
  intro i
  unfold enumD
  rw [List.getElem?_map, List.getElem?_mapIdx, List.getElem?_map, List.getElem?_map, List.getElem?_mapIdx]
  cases a[i]? with
  | none => rfl
  | some w =>
    show some (g _) = _
    rw [hg]
    rfl
theorem addL_ok {xs ys : List D} (h : xs.length + ys.length ≤ 1000000) : addD (.lst xs) (.lst ys) = some (.lst (xs ++ ys)) := by
  show (if Nat.ble (xs.length + ys.length) 1000000 = true then some (D.lst (xs ++ ys)) else none) = _
  rw [if_pos (Nat.ble_eq.mpr h)]
section
variable {pl : D} {os es : List D} {l h : Int} {a : List Int} {s5 s6 : Sl} {μ : Store}
end
end K80
set_option Elab.async false
set_option linter.all false
set_option maxRecDepth 100000
set_option maxHeartbeats 2000000
namespace K80
open PySem DC
def isIntB : D → Bool
  | .int _ => true
  | _ => false
def wholeB (lo hi : Int) : D → Bool
  | .int i => decide (lo ≤ i) && decide (i ≤ hi)
  | _ => false
theorem not_dt {n : Nat} {d : D} (h : D.pd n d = true) : ∀ ks vs, d ≠ .dt ks vs := fun ks vs e => by
  subst e
  cases n <;> simp [D.pd] at h
theorem is_integer_spec {n : Nat} {d : D} (h : D.pd n d = true) (μ : Store) : g_is_integer [d] μ = .ok (.bl (isIntB d)) μ := by
  have := not_dt h
  unfold g_is_integer F_is_integer
  cases d with
  | dt ks vs => exact absurd rfl (this _ _)
  | _ => simp [isiD, Ty.has, isIntB]
theorem is_whole_spec {n : Nat} {d : D} {lo hi : Int} (h : D.pd n d = true) (μ : Store) : g_is_whole [d, .int lo, .int hi] μ = .ok (.bl (wholeB lo hi d)) μ := by
  have hi' := is_integer_spec h μ
  unfold g_is_whole F_is_whole
  cases d with
  | int i =>
    by_cases h1 : lo ≤ i
    · simp [hi', isIntB, wholeB, h1]
    · simp [hi', isIntB, wholeB, h1]
  | _ => simp [hi', isIntB, wholeB]
def tupB (lo hi : Int) : D → Bool
  | .tup xs => decide (lo ≤ (xs.length : Int)) && decide ((xs.length : Int) ≤ hi)
  | _ => false
theorem tupB_tup (lo hi : Int) (xs : List D) : tupB lo hi (.tup xs) = (decide (lo ≤ (xs.length : Int)) && decide ((xs.length : Int) ≤ hi)) := rfl
theorem is_tuple_spec {n : Nat} {d : D} {lo hi : Int} (h : D.pd n d = true) (μ : Store) : g_is_tuple_of [d, .int lo, .int hi] μ = .ok (.bl (tupB lo hi d)) μ := by
  have := not_dt h
  unfold g_is_tuple_of F_is_tuple_of
  cases d with
  | dt ks vs => exact absurd rfl (this _ _)
  | tup xs =>
    by_cases h1 : lo ≤ (xs.length : Int)
    · simp [isiD, Ty.has, tupB, lenD, h1]
    · simp [isiD, Ty.has, tupB, lenD, h1]
  | _ => simp [isiD, Ty.has, tupB]
theorem bls_bl {f : D → Bool} : ∀ ds : List D, D.bls (ds.map fun d => .bl (f d)) = some (ds.map f)
  | [] => rfl
  | d :: ds => by
    show (D.bls (ds.map fun d => .bl (f d))).map (f d :: ·) = _
    rw [bls_bl ds]
    rfl
theorem all_bl {f : D → Bool} (ds : List D) : allD [.lst (ds.map fun d => .bl (f d))] = some (.bl (ds.all f)) := by
  show (D.bls (ds.map fun d => .bl (f d))).map (fun ns => D.bl (ns.all id)) = _
  rw [bls_bl]
  simp
@[simp] theorem all_two (a b : Bool) : allD [.lst [.bl a, .bl b]] = some (.bl (a && b)) := by cases a <;> cases b <;> rfl
end K80
set_option Elab.async false
set_option linter.all false
set_option maxRecDepth 100000
set_option maxHeartbeats 2000000
namespace K80
open PySem DC
end K80
set_option Elab.async false
set_option linter.all false
set_option maxRecDepth 100000
set_option maxHeartbeats 2000000
namespace K80
open PySem DC
section
variable {pl : D} {hm m : Asc} {fd s3 s4 s5 : Sl} {u o w : Int} {μ : Store} {s8 : Sl}
end
end K80
set_option Elab.async false
set_option linter.all false
set_option maxRecDepth 100000
set_option maxHeartbeats 2000000
namespace K80
open PySem DC
theorem snocInd {α : Type} {P : List α → Prop} (h0 : P []) (h1 : ∀ l x, P l → P (l ++ [x])) (l : List α) : P l := by
  have : ∀ n (l : List α), l.length = n → P l := by
    intro n
    induction n with
    | zero => intro l hl; rw [List.eq_nil_of_length_eq_zero hl]; exact h0
    | succ n ih =>
      intro l hl
      have hne : l ≠ [] := fun e => by subst e; cases hl
      rw [← List.dropLast_concat_getLast hne]
      exact h1 _ _ (ih _ (by rw [List.length_dropLast, hl]; rfl))
  exact this _ l rfl
end K80
set_option Elab.async false
set_option linter.all false
set_option maxRecDepth 100000
set_option maxHeartbeats 2000000
namespace K80
open PySem DC
section
variable {pl : D} {hm m : Asc} {fs : List D} {k l h : Int} {μ : Store} {s7 : Sl} {o w : Int}
end
end K80
set_option Elab.async false
set_option linter.all false
set_option maxRecDepth 100000
set_option maxHeartbeats 2000000
namespace K80
open PySem DC
def bI (b : Bool) : Int := if b then 1 else 0
@[simp] theorem ev_addB (i : Int) (b : Bool) : addD (.int i) (.bl b) = some (.int (i + bI b)) := rfl
end K80
set_option Elab.async false
set_option linter.all false
set_option maxRecDepth 100000
set_option maxHeartbeats 2000000
namespace K80
open PySem DC
end K80
set_option Elab.async false
set_option linter.all false
set_option maxRecDepth 100000
set_option maxHeartbeats 2000000
namespace K80
open PySem DC
end K80
set_option Elab.async false
set_option linter.all false
set_option maxRecDepth 100000
set_option maxHeartbeats 2000000
namespace K80
open PySem DC
theorem D_ints (l : List Int) : D.ints (l.map D.int) = some l := D.ints_map l
theorem sumA_lst (l : List Int) : sumA [.lst (l.map D.int)] = some (.int l.sum) := by
  show (D.ints (l.map D.int)).map (fun ns => D.int ns.sum) = _
  rw [D_ints]; rfl
theorem sumA_tup (l : List Int) : sumA [.tup (l.map D.int)] = some (.int l.sum) := by
  show (D.ints (l.map D.int)).map (fun ns => D.int ns.sum) = _
  rw [D_ints]; rfl
theorem like12 {d : D} (μ : Store) (h : D.pd 12 d = true) (hb : lenB 12 d = true) : g__law_like 12 [d, d] μ = .ok (.bl true) μ := like_refl 12 (by decide) d μ h hb
end K80
set_option Elab.async false
set_option linter.all false
set_option maxRecDepth 100000
set_option maxHeartbeats 2000000
namespace K80
open PySem DC
theorem cutD_to {xs : List D} {k : Nat} (h : k ≤ xs.length) : cutD xs none (some ((k : Nat) : Int)) = xs.take k := by
  unfold cutD
  rw [HT.sIx_none, HT.sIx_nat, Nat.min_eq_left h]
  simp
theorem cutD_from {xs : List D} {k : Nat} (h : k ≤ xs.length) : cutD xs (some ((k : Nat) : Int)) none = xs.drop k := by
  unfold cutD
  rw [HT.sIx_none, HT.sIx_nat, Nat.min_eq_left h]
  apply List.take_of_length_le
  simp
theorem sl_to {xs : List D} {k : Nat} (h : k ≤ xs.length) : slT (.tup xs) none (some ((k : Nat) : Int)) = some (.tup (xs.take k)) := by
  show some (D.tup (cutD xs none (some ((k : Nat) : Int)))) = _
  rw [cutD_to h]
theorem sl_from {xs : List D} {k : Nat} (h : k ≤ xs.length) : slT (.tup xs) (some ((k : Nat) : Int)) none = some (.tup (xs.drop k)) := by
  show some (D.tup (cutD xs (some ((k : Nat) : Int)) none)) = _
  rw [cutD_from h]
theorem addT_ok {xs ys : List D} (h : xs.length + ys.length ≤ 1000000) : addD (.tup xs) (.tup ys) = some (.tup (xs ++ ys)) := by
  show (if Nat.ble (xs.length + ys.length) 1000000 = true then some (D.tup (xs ++ ys)) else none) = _
  rw [if_pos (Nat.ble_eq.mpr h)]
end K80
set_option Elab.async false
set_option linter.all false
set_option maxRecDepth 100000
set_option maxHeartbeats 2000000
namespace K80
open PySem DC
@[simp] theorem ev_asgG {f : XD} {g : Tg} {ρ : DC.Env} {μ : Store} : sAsgG f g ρ μ = (f ρ μ).st ρ fun d μ' => match g d ρ with
  | some ρ' => .nx ρ' μ'
  | none => .fail := rfl
theorem cutD_len' (xs : List D) (l h : Option Int) : (cutD xs l h).length ≤ xs.length := by
  unfold cutD
  rw [List.length_take, List.length_drop]
  omega
theorem cutD_mem {xs : List D} {l h : Option Int} {x : D} (hx : x ∈ cutD xs l h) : x ∈ xs := by
  unfold cutD at hx
  exact List.mem_of_mem_drop (List.mem_of_mem_take hx)
end K80
set_option Elab.async false
set_option linter.all false
set_option maxRecDepth 100000
set_option maxHeartbeats 2000000
namespace K80
open PySem DC
def ch : Nat → Nat → Nat
  | _, 0 => 1
  | 0, _ + 1 => 0
  | n + 1, k + 1 => ch n k + ch n (k + 1)
end K80
set_option Elab.async false
set_option linter.all false
set_option maxRecDepth 100000
set_option maxHeartbeats 2000000
namespace K80
open PySem DC
theorem pow18 : powD (.int 10) (.int 18) = some (.int 1000000000000000000) := rfl
theorem cup_spec (ns : List Int) (hl : ns.length ≤ 63) (μ : Store) : ∃ a b : Int, g__law_cup [.scr ns] μ = .ok (.lst [.int a, .int b]) μ ∧ 0 ≤ a ∧ 0 ≤ b := by
  obtain ⟨z, hz⟩ : ∃ z : Int, ixS μ (.lst (ns.map D.int ++ [.int 0])) (.int 0) = some (.int z) := by
    cases ns with
    | nil => exact ⟨0, rfl⟩
    | cons n ns => exact ⟨n, by
        show L2.atI (D.int n :: (ns.map D.int ++ [.int 0])) ((0 : Nat) : Int) = _
        exact L2.atI_nat rfl⟩
  have ha := addL_ok (xs := ns.map D.int) (ys := [.int 0]) (by simp; omega)
  have hc : 0 ≤ (if z < 0 then -z else z) := by split <;> omega
  generalize hcc : (if z < 0 then -z else z) = c at hc
  have hm := ev_mul (i := c) (j := 283) (mulOk_r (by decide))
  have h1 := ev_mod (i := c * 283 + 3907) (j := 2077503167) (by decide)
  have h2 := ev_div (i := c) (j := 73) (by decide) (by decide)
  have b0 : 0 ≤ (c * 283 + 3907) % 2077503167 := Int.emod_nonneg _ (by decide)
  by_cases hb : (1000000000000000000 : Int) ≤ c
  · refine ⟨c / 73, (c * 283 + 3907) % 2077503167 + 167, ?_, Int.ediv_nonneg hc (by decide), by omega⟩
    unfold g__law_cup F__law_cup bodyF
    simp [listD, ha, hz, hcc, pow18, hm, h1, h2, hb]
  · refine ⟨0, (c * 283 + 3907) % 2077503167 + 167, ?_, Int.le_refl _, by omega⟩
    unfold g__law_cup F__law_cup bodyF
    simp [listD, ha, hz, hcc, pow18, hm, h1, h2, hb]
theorem ev_prom {F : SD} {ρ : DC.Env} {μ μ' : Store} {i : Nat} {a b : Int} (h : ρ[i]? = some (.ow (.lst [.int a, .int b]))) (e : F (ρ.set i (.fz (.own μ.length))) (μ ++ [[a, b]]) = .rt (.bl true) μ') : sProm i F ρ μ = .rt (.bl true) (μ'.take μ.length) := by
  unfold sProm
  rw [h]
  show (match D.ints [D.int a, D.int b] with
    | some ns => (match F (ρ.set i (.fz (.own μ.length))) (μ ++ [ns]) with
      | .rt (.bl b) μ' => SRes.rt (.bl b) (μ'.take μ.length)
      | _ => .fail)
    | none => .fail) = _
  have : D.ints [D.int a, D.int b] = some [a, b] := rfl
  rw [this]
  show (match F (ρ.set i (.fz (.own μ.length))) (μ ++ [[a, b]]) with
      | .rt (.bl b) μ' => SRes.rt (.bl b) (μ'.take μ.length)
      | _ => .fail) = _
  rw [e]
end K80
set_option Elab.async false
set_option linter.all false
set_option maxRecDepth 100000
set_option maxHeartbeats 2000000
namespace K80
open PySem DC
open FR (sumQ pc)
end K80
set_option Elab.async false
set_option linter.all false
set_option maxRecDepth 100000
set_option maxHeartbeats 2000000
namespace K80
open PySem DC
open FR (sumQ pc fr SzR Dv Few LowOk SumOk)
theorem div_spec (a b : Int) (μ : Store) : g_divisor_of [.int a, .int b] μ = .ok (.int (Int.gcd a b : Nat)) μ := FR.gcd_spec FR.gcd_L1 a b μ
theorem ldiv_spec (a b : Int) (μ : Store) : g__law_divisor [.int a, .int b] μ = .ok (.int (Int.gcd a b : Nat)) μ := FR.gcd_spec FR.gcd_L2 a b μ
theorem low_ok : LowOk g_lowest := fun a b μ hb h => FR.low_spec div_spec hb h μ
theorem least_ok : LowOk g__law_least := fun a b μ hb h => FR.least_spec ldiv_spec hb h μ
theorem sum_in_ok : SumOk g_sum_in := fun p q μ hp hq => FR.sum_spec low_ok hp hq μ
theorem plus_ok : SumOk g__law_plus := fun p q μ hp hq => FR.sum_spec least_ok hp hq μ
theorem over_spec {R n m : Nat} {a : List Rat} (hf : Few R n m a) (hs : sumQ a ≤ ((2 ^ m : Nat) : Rat)) (μ : Store) : g_sum_over [.lst (a.map fr)] μ = .ok (fr (sumQ a)) μ := (FR.over_spec sum_in_ok hf hs μ).1
end K80
set_option Elab.async false
set_option linter.all false
set_option maxRecDepth 100000
set_option maxHeartbeats 2000000
namespace K80
open PySem DC
open FR (sumQ pc fr SzR Dv Few LowOk SumOk)
theorem fr_pd (q : Rat) (n : Nat) : D.pd (n + 2) (fr q) = true := by
  unfold fr
  cases n <;> rfl
abbrev G60 : Int := 1000000000000000000000000000000000000000000000000000000000000
theorem fits_fraction_spec {q : Rat} (h1 : q.num.natAbs < 1000000000000000000000000000000000000000000000000000000000000) (h2 : q.den < 1000000000000000000000000000000000000000000000000000000000000) (μ : Store) : g_fits_fraction [fr q] μ = .ok (.bl true) μ := by
  have hd := FR.den_pos q
  have e1 := is_tuple_spec (n := 2) (d := fr q) (lo := 2) (hi := 2) (fr_pd q 0) μ
  have e1' : tupB 2 2 (fr q) = true := rfl
  rw [e1'] at e1
  have i1 := is_integer_spec (n := 1) (d := .int q.num) rfl μ
  have i2 := is_integer_spec (n := 1) (d := .int ((q.den : Nat) : Int)) rfl μ
  have hc : C_fits_fraction_1 [.fz (fr q), .no] μ = .ok (.lst [.bl true, .bl true]) μ := by
    refine (ev_lcT (h := fun _ => .bl true) (ds := [.int q.num, .int ((q.den : Nat) : Int)]) (μ' := μ) (by simp [fr]) rfl (by show 2 ≤ 1000000; decide) fun d hd => ?_).trans rfl
    have hi : ∃ i : Int, d = .int i ∧ -G60 < i ∧ i < G60 := by
      rcases List.mem_cons.mp hd with rfl | hd
      · exact ⟨_, rfl, by unfold G60; omega, by unfold G60; omega⟩
      · rw [List.mem_singleton.mp hd]
        exact ⟨_, rfl, by unfold G60; omega, by unfold G60; omega⟩
    obtain ⟨i, rfl, l1, l2⟩ := hi
    have i3 := is_integer_spec (n := 1) (d := .int i) rfl μ
    have e3 : isIntB (.int i) = true := rfl
    rw [e3] at i3
    refine ⟨_, rfl, ?_⟩
    unfold G60 at l1 l2
    simp [wipeE, i3, l1, l2]
  have hg : Int.gcd q.num ((q.den : Nat) : Int) = 1 := by
    show Nat.gcd q.num.natAbs (((q.den : Nat) : Int)).natAbs = 1
    rw [Int.natAbs_natCast]
    exact q.reduced
  have dv := div_spec q.num ((q.den : Nat) : Int) μ
  rw [hg] at dv
  have hd1 : (1 : Int) ≤ ((q.den : Nat) : Int) := by omega
  unfold g_fits_fraction F_fits_fraction
  simp [e1, hc, FR.ix0, FR.ix1, dv, hd1]
theorem fits_chance_spec {q : Rat} (h0 : 0 ≤ q) (h1 : q ≤ 1) (h2 : q.den < 1000000000000000000000000000000000000000000000000000000000000) (μ : Store) : g_fits_chance [fr q] μ = .ok (.bl true) μ := by
  have n0 : 0 ≤ q.num := Rat.num_nonneg.mpr h0
  have n1 : q.num ≤ ((q.den : Nat) : Int) := by
    have := (Rat.le_iff q 1).mp h1
    have e2 : (1 : Rat).num = 1 := rfl
    have e3 : (1 : Rat).den = 1 := rfl
    rw [e2, e3] at this
    omega
  have e := fits_fraction_spec (q := q) (by omega) h2 μ
  unfold g_fits_chance F_fits_chance
  simp [e, FR.ix0, FR.ix1, n0, n1]
theorem le64 {x : Rat} (h : x ≤ 1) : x ≤ ((2 ^ 6 : Nat) : Rat) := by
  have : ((2 ^ 6 : Nat) : Rat) = 64 := rfl
  rw [this]; grind
end K80
set_option Elab.async false
set_option linter.all false
set_option maxRecDepth 100000
set_option maxHeartbeats 2000000
namespace K80
open PySem DC
open FR (sumQ pc fr SzR Dv Few LowOk SumOk)
end K80
set_option Elab.async false
set_option linter.all false
set_option maxRecDepth 100000
set_option maxHeartbeats 2000000
namespace K80
open PySem DC
open FR (sumQ pc fr SzR Dv Few LowOk SumOk)
abbrev Chs := List (Int × Rat)
def chD (c : Int × Rat) : D := .tup [.int c.1, fr c.2]
structure ChOk (R : Nat) (l : Chs) : Prop where
  pos : 0 < R
  lt : R < 1000000000000000000000000000000000000000000000000000000000000
  len0 : 1 ≤ l.length
  len : l.length ≤ 40
  asc : (l.map Prod.fst).Pairwise (· < ·)
  key : ∀ c, c ∈ l → -1000000 ≤ c.1 ∧ c.1 ≤ 1000000
  ch : ∀ c, c ∈ l → 0 < c.2 ∧ c.2 ≤ 1 ∧ Dv R c.2
  one : sumQ (l.map Prod.snd) = 1
theorem chD_pd (c : Int × Rat) (n : Nat) : D.pd (n + 3) (chD c) = true := by
  show (true && (D.pd (n + 2) (fr c.2) && true)) = true
  rw [fr_pd]; rfl
theorem G60_lt : (1000000000000000000000000000000000000000000000000000000000000 : Nat) < 2 ^ 201 := by decide
theorem few_ch {R : Nat} {l : Chs} (h : ChOk R l) : Few R 201 6 (l.map Prod.snd) where
  pos := h.pos
  lt := Nat.lt_trans h.lt G60_lt
  le := by decide
  dv := fun x hx => by
    obtain ⟨c, hc, rfl⟩ := List.mem_map.mp hx
    exact (h.ch c hc).2.2
  nn := fun x hx => by
    obtain ⟨c, hc, rfl⟩ := List.mem_map.mp hx
    exact Rat.le_of_lt (h.ch c hc).1
theorem zip_slice (l : List Int) (hl : l.length ≤ 1000) (μ : Store) : wZipA (lCons (xVar 0) (lCons (xSl (xVar 0) (oSome (xC (.int 1))) oNone) lNil)) [.fz (.lst (l.map D.int)), .no, .no] μ = .ok (List.zipWith pairD (l.map D.int) ((l.map D.int).drop 1)) μ := by
  have hc : cutD (l.map D.int) (some 1) none = (l.map D.int).drop 1 := by
    cases l with
    | nil => rfl
    | cons x l => exact cutD_from (xs := (x :: l).map D.int) (k := 1) (by simp)
  have hs : slT (.lst (l.map D.int)) (some 1) none = some (.lst (cutD (l.map D.int) (some 1) none)) := rfl
  unfold wZipA
  simp [hs, hc]
theorem eq_self (d : D) (h : D.pd 60 d = true) : eqD d d = some (.bl true) := by
  unfold eqD
  rw [h, eqv_refl 60 d h]
  rfl
structure MeanOk (R : Nat) (l : Chs) : Prop where
  pos : 0 < R
  lt : R < 2 ^ 201
  len : l.length ≤ 40
  key : ∀ c, c ∈ l → 0 ≤ c.1 ∧ c.1 ≤ 1000000
  ch : ∀ c, c ∈ l → 0 ≤ c.2 ∧ c.2 ≤ 1 ∧ Dv R c.2
def mnF : D → D
  | .tup [.int k, .tup [.int a, .int b]] => fr ((k : Rat) * Rat.divInt a b)
  | _ => .non
theorem mnF_chD (c : Int × Rat) : mnF (chD c) = fr ((c.1 : Rat) * c.2) := by
  show fr ((c.1 : Rat) * Rat.divInt c.2.num ((c.2.den : Nat) : Int)) = _
  rw [FR.divInt_fr]
theorem few_mean {R : Nat} {l : Chs} (h : MeanOk R l) : Few R 201 40 (l.map fun c => (c.1 : Rat) * c.2) where
  pos := h.pos
  lt := h.lt
  le := by decide
  dv := fun x hx => by
    obtain ⟨c, hc, rfl⟩ := List.mem_map.mp hx
    exact (h.ch c hc).2.2.scale _
  nn := fun x hx => by
    obtain ⟨c, hc, rfl⟩ := List.mem_map.mp hx
    exact Rat.mul_nonneg (Rat.intCast_nonneg.mpr (h.key c hc).1) (h.ch c hc).1
theorem mean_bd {R : Nat} {l : Chs} (h : MeanOk R l) : sumQ (l.map fun c => (c.1 : Rat) * c.2) ≤ ((2 ^ 40 : Nat) : Rat) := by
  have h1 := FR.sumQ_le_len (c := 1000000) (by decide) (a := l.map fun c => (c.1 : Rat) * c.2) fun x hx => by
    obtain ⟨c, hc, rfl⟩ := List.mem_map.mp hx
    have k := h.key c hc
    have k1 : (0 : Rat) ≤ (c.1 : Rat) := Rat.intCast_nonneg.mpr k.1
    have k2 : (c.1 : Rat) ≤ ((1000000 : Int) : Rat) := Rat.intCast_le_intCast.mpr k.2
    have e : ((1000000 : Int) : Rat) = 1000000 := rfl
    rw [e] at k2
    obtain ⟨c1, c2, _⟩ := h.ch c hc
    have := Rat.mul_le_mul_of_nonneg_left c2 k1
    grind
  rw [List.length_map] at h1
  have h2 : ((l.length : Nat) : Rat) ≤ ((40 : Nat) : Rat) := Rat.natCast_le_natCast.mpr h.len
  have e2 : ((40 : Nat) : Rat) = 40 := rfl
  have e3 : ((2 ^ 40 : Nat) : Rat) = 1099511627776 := rfl
  rw [e2] at h2
  rw [e3]
  grind
theorem mean_item {R : Nat} {l : Chs} (h : MeanOk R l) {c : Int × Rat} (hc : c ∈ l) (μ : Store) : mulD (.int c.1) (.int c.2.num) = some (.int (c.1 * c.2.num)) ∧ g_lowest [.int (c.1 * c.2.num), .int ((c.2.den : Nat) : Int)] μ = .ok (fr ((c.1 : Rat) * c.2)) μ ∧
    g__law_least [.int (c.1 * c.2.num), .int ((c.2.den : Nat) : Int)] μ = .ok (fr ((c.1 : Rat) * c.2)) μ := by
  obtain ⟨k1, k2⟩ := h.key c hc
  have hd := (h.ch c hc).2.2.den h.pos
  have hl := h.lt
  have hz : FR.Sz 8990 ((c.2.den : Nat) : Int) := FR.lt_pow (m := 201) (by show (((c.2.den : Nat) : Int)).natAbs < 2 ^ 201; rw [Int.natAbs_natCast]; omega) (by decide)
  refine ⟨ev_mul (mulOk_l (by omega)), ?_, ?_⟩
  · rw [low_ok _ _ μ (FR.den_pos _) hz, FR.scale_low]
  · rw [least_ok _ _ μ (FR.den_pos _) hz, FR.scale_low]
theorem mean_in_spec {R : Nat} {l : Chs} (h : MeanOk R l) (μ : Store) : g_mean_in [.tup (l.map chD)] μ = .ok (fr (sumQ (l.map fun c => (c.1 : Rat) * c.2))) μ := by
  have hlen := h.len
  have hc : C_mean_in_1 [.fz (.tup (l.map chD)), .no, .no] μ = .ok (.lst ((l.map fun c => (c.1 : Rat) * c.2).map fr)) μ := by
    refine (ev_lcT (h := mnF) (ds := l.map chD) (μ' := μ) (by simp) rfl (by simp; omega) fun d hd => ?_).trans ?_
    · obtain ⟨c, hc, rfl⟩ := List.mem_map.mp hd
      obtain ⟨e1, e2, _⟩ := mean_item h hc μ
      rw [mnF_chD]
      refine ⟨[.fz (.tup (l.map chD)), .fz (.int c.1), .fz (fr c.2)], rfl, ?_⟩
      simp [FR.ix0, FR.ix1, e1, e2]
    · rw [List.map_map, List.map_map]
      congr 2
      apply List.map_congr_left
      intro c _
      exact mnF_chD c
  have hs := over_spec (few_mean h) (mean_bd h) μ
  unfold g_mean_in F_mean_in
  generalize D.lst ((l.map fun c => (c.1 : Rat) * c.2).map fr) = A at hc hs
  simp [hc, hs]
end K80
set_option Elab.async false
set_option linter.all false
set_option maxRecDepth 100000
set_option maxHeartbeats 2000000
namespace K80
open PySem DC
open FR (sumQ pc fr SzR Dv Few LowOk SumOk)
theorem eq_pair (a b c d : Int) : eqD (.tup [.int a, .int b]) (.tup [.int c, .int d]) = some (.bl (decide (a = c) && decide (b = d))) := by
  unfold eqD D.eqv
  simp [D.pd, D.toPy, D.toPyA, PyData.eqv, PyData.eqvAll]
  rfl
end K80
set_option Elab.async false
set_option linter.all false
set_option maxRecDepth 100000
set_option maxHeartbeats 2000000
namespace K80
open PySem DC
open FR (sumQ pc fr SzR Dv Few LowOk SumOk)
end K80
set_option Elab.async false
set_option linter.all false
set_option maxRecDepth 100000
set_option maxHeartbeats 2000000
namespace K80
open PySem DC
open FR (sumQ pc fr SzR Dv Few LowOk SumOk)
section
variable {pl many ups found at_ : D} {l h : Int} {a : List Int} {s3 s5 s6 s7 : Sl} {μ : Store}
end
end K80
set_option Elab.async false
set_option linter.all false
set_option maxRecDepth 100000
set_option maxHeartbeats 2000000
namespace K80
open PySem DC
open FR (sumQ pc fr SzR Dv Few LowOk SumOk)
end K80
set_option Elab.async false
set_option linter.all false
set_option maxRecDepth 100000
set_option maxHeartbeats 2000000
namespace K80
open PySem DC
open FR (sumQ pc fr SzR Dv Few LowOk SumOk)
section
variable {q : Rat} {p : Plan} {μ : Store} {s0 s4 s5 s6 s7 s8 s12 s3 : Sl}
end
end K80
set_option Elab.async false
set_option linter.all false
set_option maxRecDepth 100000
set_option maxHeartbeats 2000000
namespace K80
open PySem DC
open FR (sumQ pc fr SzR Dv Few LowOk SumOk)
section
variable {q : Rat} {p : Plan} {μ : Store} {s0 s4 s5 s6 s7 s8 s9 s10 s11 s12 s3 : Sl}
end
theorem fr_lb (q : Rat) (n : Nat) : lenB n (fr q) = true := by
  cases n with
  | zero => rfl
  | succ n => cases n <;> rfl
end K80
set_option Elab.async false
set_option linter.all false
set_option maxRecDepth 100000
set_option maxHeartbeats 2000000
namespace K80
open PySem DC
open FR (sumQ pc fr SzR Dv Few LowOk SumOk)
end K80
set_option Elab.async false
set_option linter.all false
set_option maxRecDepth 100000
set_option maxHeartbeats 2000000
namespace K80
open PySem DC
open FR (sumQ pc fr SzR Dv Few LowOk SumOk)
theorem ne_nil {n : Nat} {xs : List D} (hn : n < 60) (h : xs.all (D.pd n) = true) : neD (.lst xs) (.lst []) = some (.bl (decide (xs ≠ []))) := by
  unfold neD
  have h1 : D.pd 60 (.lst xs) = true := pd_mono (n + 1) 60 _ (by omega) h
  have h2 : D.pd 60 (.lst []) = true := rfl
  rw [h1, h2]
  show some (D.bl (!D.eqv (.lst xs) (.lst []))) = _
  congr 2
  unfold D.eqv
  cases xs with
  | nil => simp [D.toPy, D.toPyA, PyData.eqv, PyData.eqvAll]
  | cons x xs => simp [D.toPy, D.toPyA, PyData.eqv, PyData.eqvAll]
end K80
set_option Elab.async false
set_option linter.all false
set_option maxRecDepth 100000
set_option maxHeartbeats 2000000
namespace K80
open PySem DC
open FR (sumQ pc fr SzR Dv Few LowOk SumOk)
end K80
set_option Elab.async false
set_option linter.all false
set_option maxRecDepth 100000
set_option maxHeartbeats 2000000
namespace K80
open PySem DC
open FR (sumQ pc fr SzR Dv Few LowOk SumOk)
end K80
set_option Elab.async false
set_option linter.all false
set_option maxRecDepth 100000
set_option maxHeartbeats 2000000
namespace K80
open PySem DC
open FR (sumQ pc fr SzR Dv Few LowOk SumOk)
end K80
set_option Elab.async false
set_option linter.all false
set_option maxRecDepth 100000
set_option maxHeartbeats 2000000
namespace K80
open PySem DC
open FR (sumQ pc fr SzR Dv Few LowOk SumOk)
theorem small_mul {i j : Int} (h : i.natAbs < 18446744073709551616) : mulD (.int i) (.int j) = some (.int (i * j)) := ev_mul (mulOk_l h)
theorem lt_num (p q : Rat) : p < q ↔ p.num * ((q.den : Nat) : Int) < q.num * ((p.den : Nat) : Int) := Rat.lt_iff p q
theorem ne_bl (a b : Bool) : neD (.bl a) (.bl b) = some (.bl (!(a == b))) := by
  cases a <;> cases b <;> rfl
end K80
set_option Elab.async false
set_option linter.all false
set_option maxRecDepth 100000
set_option maxHeartbeats 2000000
namespace K80
open PySem DC
open FR (sumQ pc fr SzR Dv Few LowOk SumOk)
end K80
set_option Elab.async false
set_option linter.all false
set_option maxRecDepth 100000
set_option maxHeartbeats 2000000
namespace K80
open PySem DC
open FR (sumQ pc fr SzR Dv Few LowOk SumOk)
section
variable {φ σ lo hi : Rat} {n : Nat} {μ : Store} {s2 s3 s4 s5 s6 s8 s9 s10 : Sl}
end
end K80
set_option Elab.async false
set_option linter.all false
set_option maxRecDepth 100000
set_option maxHeartbeats 2000000
namespace K80
open PySem DC
end K80
set_option Elab.async false
set_option linter.all false
set_option maxRecDepth 100000
set_option maxHeartbeats 2000000
namespace K80
open PySem DC
open FR (sumQ pc fr SzR Dv Few LowOk SumOk)
section
variable {φ σ : Rat} {p : Plan} {n : Nat} {μ : Store} {s0 s1 s2 s3 s7 s8 s9 s10 s11 : Sl}
end
end K80
set_option Elab.async false
set_option linter.all false
set_option maxRecDepth 100000
set_option maxHeartbeats 4000000
namespace K80
open PySem DC
open FR (sumQ pc fr SzR Dv Few LowOk SumOk)
theorem eq_fr (p q : Rat) : eqD (fr p) (fr q) = some (.bl (decide (p = q))) := by
  show eqD (.tup [.int p.num, .int ((p.den : Nat) : Int)]) (.tup [.int q.num, .int ((q.den : Nat) : Int)]) = _
  rw [eq_pair]
  congr 2
  rw [Bool.eq_iff_iff, Bool.and_eq_true, decide_eq_true_iff, decide_eq_true_iff, decide_eq_true_iff]
  constructor
  · rintro ⟨h1, h2⟩; exact Rat.ext h1 (by omega)
  · rintro rfl; exact ⟨rfl, rfl⟩
theorem ne_fr (p q : Rat) : neD (fr p) (fr q) = some (.bl (!decide (p = q))) := by
  have h := eq_fr p q
  unfold eqD at h
  unfold neD
  split at h <;> rename_i hc
  · rw [if_pos hc]
    have h2 := D.bl.inj (Option.some.inj h)
    rw [h2]
  · cases h
theorem least_of {a b : Int} (h2 : 0 < b) (hb : b ≤ 1000000) (μ : Store) : g__law_least [.int a, .int b] μ = .ok (fr (Rat.divInt a b)) μ := least_ok a b μ h2 (by show b.natAbs < 2 ^ 8990; exact FR.lt_pow (m := 20) (by omega) (by decide))
end K80
set_option Elab.async false
set_option linter.all false
set_option maxRecDepth 100000
set_option maxHeartbeats 4000000
namespace K80
open PySem DC
open FR (sumQ pc fr SzR Dv Few LowOk SumOk)
end K80
set_option Elab.async false
set_option linter.all false
set_option maxRecDepth 100000
set_option maxHeartbeats 4000000
namespace K80
open PySem DC
open FR (sumQ pc fr SzR Dv Few LowOk SumOk)
section
variable {q : Rat} {many need : Nat} {μ : Store} {s0 s3 s4 s5 s6 : Sl}
end
end K80
set_option Elab.async false
set_option linter.all false
set_option maxRecDepth 100000
set_option maxHeartbeats 4000000
namespace K80
open PySem DC
open FR (sumQ pc fr SzR Dv Few LowOk SumOk)
section
variable {ρ ρ' : DC.Env} {μ μ' : Store} {f f1 f2 f3 f4 : XD} {d d1 d2 d3 d4 : D} {A B : SD} {i : Nat} {t : XB}
end
end K80
set_option Elab.async false
set_option linter.all false
set_option maxRecDepth 100000
set_option maxHeartbeats 2000000
namespace K80
open PySem DC
open FR (sumQ pc)
end K80
set_option Elab.async false
set_option linter.all false
set_option maxRecDepth 100000
set_option maxHeartbeats 2000000
namespace K80
open PySem DC
open FR (sumQ pc fr SzR Dv Few LowOk SumOk)
end K80
set_option Elab.async false
set_option linter.all false
set_option maxRecDepth 100000
set_option maxHeartbeats 2000000
namespace K80
open PySem DC
open FR (sumQ pc fr SzR Dv Few LowOk SumOk)
end K80
set_option Elab.async false
set_option linter.all false
set_option maxRecDepth 100000
set_option maxHeartbeats 2000000
namespace K80
open PySem DC
open FR (sumQ pc fr SzR Dv Few LowOk SumOk)
end K80
set_option Elab.async false
set_option linter.all false
set_option maxRecDepth 100000
set_option maxHeartbeats 2000000
namespace K80
open PySem DC
open FR (sumQ pc fr SzR Dv Few LowOk SumOk)
theorem is_share_spec {R : Nat} {l : Chs} (h : ChOk R l) {c : Int × Rat} (hc : c ∈ l) (μ : Store) : g_is_share [chD c] μ = .ok (.bl true) μ := by
  obtain ⟨k1, k2⟩ := h.key c hc
  obtain ⟨c1, c2, c3⟩ := h.ch c hc
  have e1 := is_tuple_spec (n := 3) (d := chD c) (lo := 2) (hi := 2) (chD_pd c 0) μ
  have e1' : tupB 2 2 (chD c) = true := rfl
  rw [e1'] at e1
  have e2 := is_whole_spec (n := 1) (d := .int c.1) (lo := -1000000) (hi := 1000000) rfl μ
  have e2' : wholeB (-1000000) 1000000 (.int c.1) = true := by
    show (true && (decide (-1000000 ≤ c.1) && decide (c.1 ≤ 1000000))) = true
    rw [decide_eq_true k1, decide_eq_true k2]; rfl
  rw [e2'] at e2
  have hd := c3.den h.pos
  have hlt := h.lt
  have e3 := fits_chance_spec (q := c.2) (Rat.le_of_lt c1) c2 (by omega) μ
  have i0 : ixS μ (chD c) (.int 0) = some (.int c.1) := rfl
  have i1 : ixS μ (chD c) (.int 1) = some (fr c.2) := rfl
  have n0 : 0 < c.2.num := by
    have h1 := (Rat.lt_iff 0 c.2).mp c1
    have e0 : (0 : Rat).num = 0 := rfl
    have e1 : (0 : Rat).den = 1 := rfl
    rw [e0, e1] at h1
    omega
  unfold g_is_share F_is_share
  simp [e1, i0, e2, i1, e3, FR.ix0, n0]
theorem rising_spec {l : List Int} (h : l.Pairwise (· < ·)) (hl : l.length ≤ 1000) (μ : Store) : g_is_rising [.lst (l.map D.int)] μ = .ok (.bl true) μ := by
  have hz := zip_slice l hl μ
  have hall : ∀ d, d ∈ List.zipWith pairD (l.map D.int) ((l.map D.int).drop 1) → ∃ a b : Int, d = .tup [.int a, .int b] ∧ a < b := by
    clear hz hl
    induction l with
    | nil => intro d hd; simp at hd
    | cons x l ih =>
      intro d hd
      have h2 := List.pairwise_cons.mp h
      cases l with
      | nil => simp at hd
      | cons y l =>
        rcases List.mem_cons.mp (show d ∈ pairD (.int x) (.int y) :: List.zipWith pairD ((y :: l).map D.int) (((y :: l).map D.int).drop 1) from hd) with e | hd
        · exact ⟨x, y, e, h2.1 y (by simp)⟩
        · exact ih h2.2 d hd
  have hc : C_is_rising_1 [.fz (.lst (l.map D.int)), .no, .no] μ = .ok (.lst ((List.zipWith pairD (l.map D.int) ((l.map D.int).drop 1)).map fun _ => .bl true)) μ := by
    refine ev_lcT (h := fun _ => .bl true) (μ' := μ) hz rfl (by rw [List.length_zipWith]; simp; omega) fun d hd => ?_
    obtain ⟨a, b, rfl, hab⟩ := hall d hd
    exact ⟨_, rfl, by simp [wipeE, hab]⟩
  have ha := all_bl (f := fun _ => true) (List.zipWith pairD (l.map D.int) ((l.map D.int).drop 1))
  have ht : (List.zipWith pairD (l.map D.int) ((l.map D.int).drop 1)).all (fun _ => true) = true := List.all_eq_true.mpr fun _ _ => rfl
  rw [ht] at ha
  unfold g_is_rising F_is_rising
  generalize ((List.zipWith pairD (l.map D.int) ((l.map D.int).drop 1)).map fun _ => D.bl true) = Z at hc ha
  simp [hc, ha]
theorem fits_chances_spec {R : Nat} {l : Chs} (h : ChOk R l) (μ : Store) : g_fits_chances [.tup (l.map chD)] μ = .ok (.bl true) μ := by
  have hlen := h.len
  have hlen0 := h.len0
  have hpd : D.pd 4 (.tup (l.map chD)) = true := by
    show (l.map chD).all (D.pd 3) = true
    rw [List.all_eq_true]
    intro x hx
    obtain ⟨c, _, rfl⟩ := List.mem_map.mp hx
    exact chD_pd c 0
  have e1 := is_tuple_spec (n := 4) (d := .tup (l.map chD)) (lo := 1) (hi := 40) hpd μ
  have e1' : tupB 1 40 (.tup (l.map chD)) = true := by
    rw [tupB_tup, List.length_map, decide_eq_true (by omega), decide_eq_true (by omega)]; rfl
  rw [e1'] at e1
  have hc1 : C_fits_chances_1 [.fz (.tup (l.map chD)), .no] μ = .ok (.lst ((l.map chD).map fun _ => .bl true)) μ := by
    refine ev_lcT (h := fun _ => .bl true) (ds := l.map chD) (μ' := μ) (by simp) rfl (by simp; omega) fun d hd => ?_
    obtain ⟨c, hc, rfl⟩ := List.mem_map.mp hd
    have e := is_share_spec h hc μ
    exact ⟨_, rfl, by simp [wipeE, e]⟩
  have ha := all_bl (f := fun _ => true) (l.map chD)
  have ht : (l.map chD).all (fun _ => true) = true := List.all_eq_true.mpr fun _ _ => rfl
  rw [ht] at ha
  have hc2 : C_fits_chances_2 [.fz (.tup (l.map chD)), .no] μ = .ok (.lst ((l.map Prod.fst).map D.int)) μ := by
    refine (ev_lcT (h := fun d => match d with
      | .tup [a, _] => a
      | _ => .non) (ds := l.map chD) (μ' := μ) (by simp) rfl (by simp; omega) fun d hd => ?_).trans (by rw [List.map_map, List.map_map]; rfl)
    obtain ⟨c, hc, rfl⟩ := List.mem_map.mp hd
    have i0 : ixS μ (chD c) (.int 0) = some (.int c.1) := rfl
    exact ⟨_, rfl, by simp [wipeE, i0]; rfl⟩
  have hc3 : C_fits_chances_3 [.fz (.tup (l.map chD)), .no] μ = .ok (.lst ((l.map Prod.snd).map fr)) μ := by
    refine (ev_lcT (h := fun d => match d with
      | .tup [_, b] => b
      | _ => .non) (ds := l.map chD) (μ' := μ) (by simp) rfl (by simp; omega) fun d hd => ?_).trans (by rw [List.map_map, List.map_map]; rfl)
    obtain ⟨c, hc, rfl⟩ := List.mem_map.mp hd
    have i1 : ixS μ (chD c) (.int 1) = some (fr c.2) := rfl
    exact ⟨_, rfl, by simp [wipeE, i1]; rfl⟩
  have hr := rising_spec (l := l.map Prod.fst) h.asc (by simp; omega) μ
  have hs := over_spec (few_ch h) (le64 (by rw [h.one]; exact Rat.le_refl)) μ
  rw [h.one] at hs
  have he := eq_self (fr 1) (fr_pd 1 58)
  have h1 : (.tup [.int 1, .int 1] : D) = fr 1 := rfl
  unfold g_fits_chances F_fits_chances
  generalize ((l.map chD).map fun _ => D.bl true) = Z at hc1 ha
  generalize D.lst ((l.map Prod.fst).map D.int) = A at hc2 hr
  generalize D.lst ((l.map Prod.snd).map fr) = B at hc3 hs
  simp [e1, hc1, ha, hc2, hr, hc3, hs, h1, he]
theorem need_ch {R : Nat} {l : Chs} (h : ChOk R l) (μ : Store) : g_need_chances [.tup (l.map chD)] μ = .ok .non μ := by
  have e := fits_chances_spec h μ
  unfold g_need_chances F_need_chances
  simp [e]
end K80
set_option Elab.async false
set_option linter.all false
set_option maxRecDepth 100000
set_option maxHeartbeats 2000000
namespace K80
open PySem DC
open FR (sumQ pc fr SzR Dv Few LowOk SumOk)
end K80
set_option Elab.async false
set_option linter.all false
set_option maxRecDepth 100000
set_option maxHeartbeats 2000000
namespace K80
open PySem DC
open FR (sumQ pc fr SzR Dv Few LowOk SumOk)
end K80
set_option Elab.async false
set_option linter.all false
set_option maxRecDepth 100000
set_option maxHeartbeats 2000000
namespace K80
open PySem DC
open FR (sumQ pc fr SzR Dv Few LowOk SumOk)
section
variable {pl many ups found at_ : D} {l h : Int} {a : List Int} {s3 s5 s6 s7 : Sl} {μ : Store}
end
end K80
set_option Elab.async false
set_option linter.all false
set_option maxRecDepth 100000
set_option maxHeartbeats 2000000
namespace K80
open PySem DC
end K80
set_option Elab.async false
set_option linter.all false
set_option maxRecDepth 100000
set_option maxHeartbeats 2000000
namespace K80
open PySem DC
end K80
set_option Elab.async false
set_option linter.all false
set_option maxRecDepth 100000
set_option maxHeartbeats 2000000
namespace K80
open PySem DC
end K80
set_option Elab.async false
set_option linter.all false
set_option maxRecDepth 100000
set_option maxHeartbeats 2000000
namespace K80
open PySem DC
end K80
set_option Elab.async false
set_option linter.all false
set_option maxRecDepth 100000
set_option maxHeartbeats 2000000
namespace K80
open PySem DC
end K80
set_option Elab.async false
set_option linter.all false
set_option maxRecDepth 100000
set_option maxHeartbeats 2000000
namespace K80
open PySem DC
section
variable {pl : D} {os es : List D} {l h : Int} {a : List Int} {s5 s6 : Sl} {μ : Store}
end
end K80
set_option Elab.async false
set_option linter.all false
set_option maxRecDepth 100000
set_option maxHeartbeats 2000000
namespace K80
open PySem DC
end K80
set_option Elab.async false
set_option linter.all false
set_option maxRecDepth 100000
set_option maxHeartbeats 2000000
namespace K80
open PySem DC
end K80
set_option Elab.async false
set_option linter.all false
set_option maxRecDepth 100000
set_option maxHeartbeats 2000000
namespace K80
open PySem DC
section
variable {pl : D} {hm m : Asc} {fd s3 s4 s5 : Sl} {u o w : Int} {μ : Store} {s8 : Sl}
end
end K80
set_option Elab.async false
set_option linter.all false
set_option maxRecDepth 100000
set_option maxHeartbeats 2000000
namespace K80
open PySem DC
end K80
set_option Elab.async false
set_option linter.all false
set_option maxRecDepth 100000
set_option maxHeartbeats 2000000
namespace K80
open PySem DC
section
variable {pl : D} {hm m : Asc} {fs : List D} {k l h : Int} {μ : Store} {s7 : Sl} {o w : Int}
end
end K80
set_option Elab.async false
set_option linter.all false
set_option maxRecDepth 100000
set_option maxHeartbeats 2000000
namespace K80
open PySem DC
end K80
set_option Elab.async false
set_option linter.all false
set_option maxRecDepth 100000
set_option maxHeartbeats 2000000
namespace K80
open PySem DC
end K80
set_option Elab.async false
set_option linter.all false
set_option maxRecDepth 100000
set_option maxHeartbeats 2000000
namespace K80
open PySem DC
end K80
set_option Elab.async false
set_option linter.all false
set_option maxRecDepth 100000
set_option maxHeartbeats 2000000
namespace K80
open PySem DC
end K80
set_option Elab.async false
set_option linter.all false
set_option maxRecDepth 100000
set_option maxHeartbeats 2000000
namespace K80
open PySem DC
end K80
set_option Elab.async false
set_option linter.all false
set_option maxRecDepth 100000
set_option maxHeartbeats 2000000
namespace K80
open PySem DC
end K80
set_option Elab.async false
set_option linter.all false
set_option maxRecDepth 100000
set_option maxHeartbeats 2000000
namespace K80
open PySem DC
end K80
set_option Elab.async false
set_option linter.all false
set_option maxRecDepth 100000
set_option maxHeartbeats 2000000
namespace K80
open PySem DC
end K80
set_option Elab.async false
set_option linter.all false
set_option maxRecDepth 100000
set_option maxHeartbeats 2000000
namespace K80
open PySem DC
open FR (sumQ pc)
end K80
set_option Elab.async false
set_option linter.all false
set_option maxRecDepth 100000
set_option maxHeartbeats 2000000
namespace K80
open PySem DC
open FR (sumQ pc fr SzR Dv Few LowOk SumOk)
end K80
set_option Elab.async false
set_option linter.all false
set_option maxRecDepth 100000
set_option maxHeartbeats 2000000
namespace K80
open PySem DC
open FR (sumQ pc fr SzR Dv Few LowOk SumOk)
end K80
set_option Elab.async false
set_option linter.all false
set_option maxRecDepth 100000
set_option maxHeartbeats 2000000
namespace K80
open PySem DC
open FR (sumQ pc fr SzR Dv Few LowOk SumOk)
end K80
set_option Elab.async false
set_option linter.all false
set_option maxRecDepth 100000
set_option maxHeartbeats 2000000
namespace K80
open PySem DC
open FR (sumQ pc fr SzR Dv Few LowOk SumOk)
end K80
set_option Elab.async false
set_option linter.all false
set_option maxRecDepth 100000
set_option maxHeartbeats 2000000
namespace K80
open PySem DC
open FR (sumQ pc fr SzR Dv Few LowOk SumOk)
end K80
set_option Elab.async false
set_option linter.all false
set_option maxRecDepth 100000
set_option maxHeartbeats 2000000
namespace K80
open PySem DC
open FR (sumQ pc fr SzR Dv Few LowOk SumOk)
end K80
set_option Elab.async false
set_option linter.all false
set_option maxRecDepth 100000
set_option maxHeartbeats 2000000
namespace K80
open PySem DC
open FR (sumQ pc fr SzR Dv Few LowOk SumOk)
section
variable {pl many ups found at_ : D} {l h : Int} {a : List Int} {s3 s5 s6 s7 : Sl} {μ : Store}
end
end K80
set_option Elab.async false
set_option linter.all false
set_option maxRecDepth 100000
set_option maxHeartbeats 2000000
namespace K80
open PySem DC
open FR (sumQ pc fr SzR Dv Few LowOk SumOk)
end K80
set_option Elab.async false
set_option linter.all false
set_option maxRecDepth 100000
set_option maxHeartbeats 2000000
namespace K80
open PySem DC
open FR (sumQ pc fr SzR Dv Few LowOk SumOk)
section
variable {q : Rat} {p : Plan} {μ : Store} {s0 s4 s5 s6 s7 s8 s12 s3 : Sl}
end
end K80
set_option Elab.async false
set_option linter.all false
set_option maxRecDepth 100000
set_option maxHeartbeats 2000000
namespace K80
open PySem DC
open FR (sumQ pc fr SzR Dv Few LowOk SumOk)
section
variable {q : Rat} {p : Plan} {μ : Store} {s0 s4 s5 s6 s7 s8 s9 s10 s11 s12 s3 : Sl}
end
end K80
set_option Elab.async false
set_option linter.all false
set_option maxRecDepth 100000
set_option maxHeartbeats 2000000
namespace K80
open PySem DC
open FR (sumQ pc fr SzR Dv Few LowOk SumOk)
end K80
set_option Elab.async false
set_option linter.all false
set_option maxRecDepth 100000
set_option maxHeartbeats 2000000
namespace K80
open PySem DC
open FR (sumQ pc fr SzR Dv Few LowOk SumOk)
end K80
set_option Elab.async false
set_option linter.all false
set_option maxRecDepth 100000
set_option maxHeartbeats 2000000
namespace K80
open PySem DC
open FR (sumQ pc fr SzR Dv Few LowOk SumOk)
end K80
set_option Elab.async false
set_option linter.all false
set_option maxRecDepth 100000
set_option maxHeartbeats 2000000
namespace K80
open PySem DC
open FR (sumQ pc fr SzR Dv Few LowOk SumOk)
end K80
set_option Elab.async false
set_option linter.all false
set_option maxRecDepth 100000
set_option maxHeartbeats 2000000
namespace K80
open PySem DC
open FR (sumQ pc fr SzR Dv Few LowOk SumOk)
end K80
set_option Elab.async false
set_option linter.all false
set_option maxRecDepth 100000
set_option maxHeartbeats 2000000
namespace K80
open PySem DC
open FR (sumQ pc fr SzR Dv Few LowOk SumOk)
end K80
set_option Elab.async false
set_option linter.all false
set_option maxRecDepth 100000
set_option maxHeartbeats 2000000
namespace K80
open PySem DC
open FR (sumQ pc fr SzR Dv Few LowOk SumOk)
end K80
set_option Elab.async false
set_option linter.all false
set_option maxRecDepth 100000
set_option maxHeartbeats 2000000
namespace K80
open PySem DC
end K80
set_option Elab.async false
set_option linter.all false
set_option maxRecDepth 100000
set_option maxHeartbeats 4000000
namespace K80
open PySem DC
open FR (sumQ pc fr SzR Dv Few LowOk SumOk)
end K80
set_option Elab.async false
set_option linter.all false
set_option maxRecDepth 100000
set_option maxHeartbeats 4000000
namespace K80
open PySem DC
open FR (sumQ pc fr SzR Dv Few LowOk SumOk)
end K80
set_option Elab.async false
set_option linter.all false
set_option maxRecDepth 100000
set_option maxHeartbeats 4000000
namespace K80
open PySem DC
open FR (sumQ pc fr SzR Dv Few LowOk SumOk)
section
variable {q : Rat} {many need : Nat} {μ : Store} {s0 s3 s4 s5 s6 : Sl}
end
end K80
set_option Elab.async false
set_option linter.all false
set_option maxRecDepth 100000
set_option maxHeartbeats 2000000
namespace K80
open PySem DC
open FR (sumQ pc fr SzR Dv Few LowOk SumOk)
end K80
set_option Elab.async false
set_option linter.all false
set_option maxRecDepth 100000
set_option maxHeartbeats 2000000
namespace K80
open PySem DC
open FR (sumQ pc fr SzR Dv Few LowOk SumOk)
theorem whole_int (v lo hi : Int) (μ : Store) : g_is_whole [.int v, .int lo, .int hi] μ = .ok (.bl (decide (lo ≤ v) && decide (v ≤ hi))) μ := is_whole_spec (n := 1) (d := .int v) (lo := lo) (hi := hi) rfl μ
theorem tup2_spec {n : Nat} {a b : D} (h : D.pd n (.tup [a, b]) = true) (μ : Store) : g_is_tuple_of [.tup [a, b], .int 2, .int 2] μ = .ok (.bl true) μ := is_tuple_spec (d := .tup [a, b]) (lo := 2) (hi := 2) h μ
theorem under_spec {p q : Rat} (hp : SzR 4000 p) (hq : SzR 4000 q) (μ : Store) : g_is_under [fr p, fr q] μ = .ok (.bl (decide (p < q))) μ ∧ g__law_under [fr p, fr q] μ = .ok (.bl (decide (p < q))) μ := by
  have m1 := FR.mul_sz (hp.num.mono (n := 8900) (by decide)) (hq.denZ.mono (n := 8900) (by decide))
  have m2 := FR.mul_sz (hq.num.mono (n := 8900) (by decide)) (hp.denZ.mono (n := 8900) (by decide))
  have e : decide (p.num * ((q.den : Nat) : Int) < q.num * ((p.den : Nat) : Int)) = decide (p < q) := decide_eq_decide.mpr (lt_num p q).symm
  unfold g_is_under F_is_under g__law_under F__law_under
  exact ⟨by simp [FR.ix0, FR.ix1, m1, m2, e], by simp [FR.ix0, FR.ix1, m1, m2, e]⟩
end K80
set_option Elab.async false
set_option linter.all false
set_option maxRecDepth 100000
set_option maxHeartbeats 2000000
namespace K80
open PySem DC
open FR (sumQ fr SzR Dv Few LowOk SumOk)
/-! ### the values of two chances -/
def gt : Chs → Int → Rat
  | [], _ => 0
  | c :: r, v => if c.1 = v then c.2 else gt r v
def uni (a b : Chs) : List Int := sortU (a.map Prod.fst ++ b.map Prod.fst)
def tr (v : Int) (p q : Rat) : D := .tup [.int v, fr p, fr q]
def trs (a b : Chs) : List D := (uni a b).map fun v => tr v (gt a v) (gt b v)
def chT (a : Chs) : D := .tup (a.map chD)
theorem prKs_ch : ∀ a : Chs, prKs (a.map chD) = some (a.map Prod.fst)
  | [] => rfl
  | c :: r => by
    show (match prK (chD c) with | none => none | some k => match prKs (r.map chD) with | none => none | some ks => some (k :: ks)) = _
    rw [prKs_ch r]
    rfl
theorem rises_asc : ∀ {l : List Int}, l.Pairwise (· < ·) → rises l = true
  | [], _ => rfl
  | [a], _ => rfl
  | a :: b :: r, h => by
    rw [List.pairwise_cons] at h
    show (decide (a < b) && rises (b :: r)) = true
    rw [rises_asc h.2, decide_eq_true (h.1 b (by simp))]
    rfl
theorem isCh_ch {a : Chs} (h0 : 1 ≤ a.length) (h : (a.map Prod.fst).Pairwise (· < ·)) : isCh (a.map chD) = true := by
  cases a with
  | nil => simp at h0
  | cons c r =>
    show (match prKs ((c :: r).map chD) with | none => false | some ks => rises ks) = true
    rw [prKs_ch]
    exact rises_asc h
def dkC (a : Chs) : D := .dk (a.map fun c => Sum.inl c.1) (a.map fun c => fr c.2)
theorem dict_ch {R : Nat} {a : Chs} (h : ChOk R a) : dictTD [chT a] = some (dkC a) := by
  show (if isCh (a.map chD) then (match prKs (a.map chD) with
    | some ks => some (D.dk (ks.map Sum.inl) ((a.map chD).map prV))
    | none => none) else none) = _
  rw [isCh_ch h.len0 h.asc, prKs_ch]
  show some (D.dk ((a.map Prod.fst).map Sum.inl) ((a.map chD).map prV)) = _
  rw [List.map_map, List.map_map]
  rfl
theorem look_ch (v : Int) : ∀ a : Chs, lookD (a.map fun c => (Sum.inl c.1 : L2.Key)) (a.map fun c => fr c.2) (Sum.inl v) = if v ∈ a.map Prod.fst then some (fr (gt a v)) else none
  | [] => rfl
  | c :: r => by
    show (if (Sum.inl c.1 : L2.Key) = Sum.inl v then some (fr c.2) else lookD _ _ _) = _
    rw [look_ch v r]
    by_cases e : c.1 = v
    · subst e
      rw [if_pos rfl, if_pos (by simp)]
      show _ = some (fr (if c.1 = c.1 then c.2 else gt r c.1))
      rw [if_pos rfl]
    · rw [if_neg (fun z => e (Sum.inl.inj z))]
      have e' : v ≠ c.1 := fun z => e z.symm
      have eg : gt (c :: r) v = gt r v := if_neg e
      rw [eg]
      simp only [List.map_cons, List.mem_cons, e', false_or]
theorem gt_no {v : Int} : ∀ {a : Chs}, v ∉ a.map Prod.fst → gt a v = 0
  | [], _ => rfl
  | c :: r, h => by
    simp only [List.map_cons, List.mem_cons, not_or] at h
    show (if c.1 = v then c.2 else gt r v) = 0
    rw [if_neg (fun z => h.1 z.symm), gt_no h.2]
theorem get2_ch (a : Chs) (v : Int) : get2K (dkC a) (.int v) (fr 0) = some (fr (gt a v)) := by
  show some ((lookD (a.map fun c => (Sum.inl c.1 : L2.Key)) (a.map fun c => fr c.2) (Sum.inl v)).getD (fr 0)) = _
  rw [look_ch]
  by_cases h : v ∈ a.map Prod.fst
  · rw [if_pos h]; rfl
  · rw [if_neg h, gt_no h]; rfl
theorem insU_len (x : Int) : ∀ l : List Int, (insU x l).length ≤ l.length + 1
  | [] => by simp [insU]
  | y :: r => by
    unfold insU
    split
    · simp
    · split
      · simp
      · have := insU_len x r
        simp only [List.length_cons]
        omega
theorem sortU_len : ∀ l : List Int, (sortU l).length ≤ l.length
  | [] => by simp [sortU]
  | x :: r => by
    have h1 := insU_len x (sortU r)
    have h2 := sortU_len r
    show (insU x (sortU r)).length ≤ r.length + 1
    omega
theorem ints_map : ∀ l : List Int, D.ints (l.map D.int) = some l
  | [] => rfl
  | x :: r => by
    show (D.ints (r.map D.int)).map (x :: ·) = _
    rw [ints_map r]
    rfl
/-- two chances -/
structure Pr (R S : Nat) (a b : Chs) : Prop where
  oa : ChOk R a
  ob : ChOk S b
  len : a.length + b.length ≤ 60
  ra : R ≤ 1000000
  sb : S ≤ 1000000
theorem Pr.symm {R S : Nat} {a b : Chs} (h : Pr R S a b) : Pr S R b a := ⟨h.ob, h.oa, by have := h.len; omega, h.sb, h.ra⟩
theorem uni_len {R S : Nat} {a b : Chs} (h : Pr R S a b) : (uni a b).length ≤ 60 := by
  have h1 := sortU_len (a.map Prod.fst ++ b.map Prod.fst)
  have := h.len
  unfold uni
  simp only [List.length_append, List.length_map] at h1
  omega
theorem uni_mem {a b : Chs} {v : Int} : v ∈ uni a b ↔ v ∈ a.map Prod.fst ∨ v ∈ b.map Prod.fst := by
  unfold uni
  rw [sortU_mem, List.mem_append]
theorem uni_asc (a b : Chs) : (uni a b).Pairwise (· < ·) := sortU_asc _
theorem uni_swap (a b : Chs) : uni a b = uni b a := asc_uniq (fun k => by rw [uni_mem, uni_mem]; exact Or.comm) (uni_asc a b) (uni_asc b a)
theorem sortSet_uni {R S : Nat} {a b : Chs} (h : Pr R S a b) : sortSetD [.lst ((a.map fun c => D.int c.1) ++ (b.map fun c => D.int c.1))] = some (.lst ((uni a b).map D.int)) := by
  have e : ((a.map fun c => D.int c.1) ++ (b.map fun c => D.int c.1)) = (a.map Prod.fst ++ b.map Prod.fst).map D.int := by
    rw [List.map_append, List.map_map, List.map_map]; rfl
  rw [e]
  show (D.ints ((a.map Prod.fst ++ b.map Prod.fst).map D.int)).bind (fun ns => if Nat.ble ns.length 4000 && Nat.blt (sortU ns).length 64 then some (D.lst ((sortU ns).map D.int)) else none) = _
  rw [ints_map]
  show (if (Nat.ble (a.map Prod.fst ++ b.map Prod.fst).length 4000 && Nat.blt (uni a b).length 64) = true then some (D.lst ((uni a b).map D.int)) else none) = _
  have h1 := uni_len h
  have h2 := h.len
  rw [if_pos]
  rw [Bool.and_eq_true]
  exact ⟨Nat.ble_eq.mpr (by rw [List.length_append, List.length_map, List.length_map]; omega), Nat.ble_eq.mpr (by omega)⟩
theorem values_spec {R S : Nat} {a b : Chs} (h : Pr R S a b) (μ : Store) : g_values_in [chT a, chT b] μ = .ok (.lst (trs a b)) μ := by
  have e1 := dict_ch h.oa
  have e2 := dict_ch h.ob
  have k : ∀ c : Chs, listKD [dkC c] = some (.lst (c.map fun c => D.int c.1)) := fun c => by
    show (if (c.map fun c => (Sum.inl c.1 : L2.Key)).all keyOk = true then some (D.lst ((c.map fun c => (Sum.inl c.1 : L2.Key)).map keyD)) else none) = _
    rw [if_pos (by rw [List.all_map]; exact List.all_eq_true.mpr fun x _ => rfl), List.map_map]
    rfl
  have ks : (iSeq (xCb sortSetD (lCons (xBin addD (xCb listKD (lCons (xVar 2) lNil)) (xCb listKD (lCons (xVar 3) lNil))) lNil))) [.fz (chT a), .fz (chT b), .fz (dkC a), .fz (dkC b), .no] μ = .ok ((uni a b).map D.int) μ := by
    have hl := h.len
    simp [k, addL_ok (xs := a.map fun c => D.int c.1) (ys := b.map fun c => D.int c.1) (by simp; omega), sortSet_uni h]
  have hc : C_values_in_1 [.fz (chT a), .fz (chT b), .fz (dkC a), .fz (dkC b), .no] μ = .ok (.lst (((uni a b).map D.int).map fun d => match d with | .int v => tr v (gt a v) (gt b v) | _ => .non)) μ :=
    ev_lcT _ ks rfl (by rw [List.length_map]; have := uni_len h; omega) fun d hd => by
      obtain ⟨v, _, rfl⟩ := List.mem_map.mp hd
      refine ⟨_, rfl, ?_⟩
      have g1 : xGet2K (xVar 2) (xVar 4) (xC (.tup [(.int 0), (.int 1)])) [.fz (chT a), .fz (chT b), .fz (dkC a), .fz (dkC b), .fz (.int v)] μ = .ok (fr (gt a v)) μ := by
        show Res.ofO (get2K (dkC a) (.int v) (fr 0)) μ = _
        rw [get2_ch]; rfl
      have g2 : xGet2K (xVar 3) (xVar 4) (xC (.tup [(.int 0), (.int 1)])) [.fz (chT a), .fz (chT b), .fz (dkC a), .fz (dkC b), .fz (.int v)] μ = .ok (fr (gt b v)) μ := by
        show Res.ofO (get2K (dkC b) (.int v) (fr 0)) μ = _
        rw [get2_ch]; rfl
      have ew : (wipeE [.fz (chT a), .fz (chT b), .fz (dkC a), .fz (dkC b), .no] [4]).set 4 (.fz (.int v)) = [.fz (chT a), .fz (chT b), .fz (dkC a), .fz (dkC b), .fz (.int v)] := rfl
      rw [ew]
      simp [g1, g2, tr]
  unfold g_values_in F_values_in
  simp only [ev_body, ev_entry]
  show ((sSeq (sPar [2, 3] (mVal (xCb dictTD (lCons (xVar 0) lNil)) (mVal (xCb dictTD (lCons (xVar 1) lNil)) mNil))) (sRet C_values_in_1)) [.fz (chT a), .fz (chT b), .no, .no, .no] μ).fin = _
  simp [e1, e2, hc, trs]
theorem lvalues_spec {R S : Nat} {a b : Chs} (h : Pr R S a b) (μ : Store) : g__law_values [chT a, chT b] μ = .ok (.lst (trs a b)) μ := by
  have e1 := dict_ch h.oa
  have e2 := dict_ch h.ob
  have hl := h.len
  have hadd : addD (chT a) (chT b) = some (.tup (a.map chD ++ b.map chD)) := addT_ok (by simp; omega)
  have hc1 : C__law_values_1 [.fz (chT a), .fz (chT b), .fz (dkC a), .fz (dkC b), .no, .no, .no] μ = .ok (.lst ((a.map chD ++ b.map chD).map fun d => match d with | .tup (k :: _) => k | _ => .non)) μ :=
    ev_lcT _ (by simp [hadd]) rfl (by simp; omega) fun d hd => by
      rw [← List.map_append] at hd
      obtain ⟨c, _, rfl⟩ := List.mem_map.mp hd
      exact ⟨_, rfl, rfl⟩
  have e3 : ((a.map chD ++ b.map chD).map fun d => match d with | .tup (k :: _) => k | _ => .non) = (a.map fun c => D.int c.1) ++ (b.map fun c => D.int c.1) := by
    rw [List.map_append, List.map_map, List.map_map]; rfl
  rw [e3] at hc1
  have hs := sortSet_uni h
  have hc2 : C__law_values_2 [.fz (chT a), .fz (chT b), .fz (dkC a), .fz (dkC b), .fz (.lst ((uni a b).map D.int)), .no, .no] μ = .ok (.lst (((uni a b).map D.int).map fun d => match d with | .int v => tr v (gt a v) (gt b v) | _ => .non)) μ :=
    ev_lcT _ (by simp) rfl (by rw [List.length_map]; have := uni_len h; omega) fun d hd => by
      obtain ⟨v, _, rfl⟩ := List.mem_map.mp hd
      refine ⟨_, rfl, ?_⟩
      have ew : (wipeE [.fz (chT a), .fz (chT b), .fz (dkC a), .fz (dkC b), .fz (.lst ((uni a b).map D.int)), .no, .no] [5]).set 5 (.fz (.int v)) = [.fz (chT a), .fz (chT b), .fz (dkC a), .fz (dkC b), .fz (.lst ((uni a b).map D.int)), .fz (.int v), .no] := rfl
      rw [ew]
      have g1 : xGet2K (xVar 2) (xVar 5) (xTup (lCons (xC (.int 0)) (lCons (xC (.int 1)) lNil))) [.fz (chT a), .fz (chT b), .fz (dkC a), .fz (dkC b), .fz (.lst ((uni a b).map D.int)), .fz (.int v), .no] μ = .ok (fr (gt a v)) μ := by
        show Res.ofO (get2K (dkC a) (.int v) (fr 0)) μ = _
        rw [get2_ch]; rfl
      have g2 : xGet2K (xVar 3) (xVar 5) (xTup (lCons (xC (.int 0)) (lCons (xC (.int 1)) lNil))) [.fz (chT a), .fz (chT b), .fz (dkC a), .fz (dkC b), .fz (.lst ((uni a b).map D.int)), .fz (.int v), .no] μ = .ok (fr (gt b v)) μ := by
        show Res.ofO (get2K (dkC b) (.int v) (fr 0)) μ = _
        rw [get2_ch]; rfl
      simp [g1, g2, tr]
  unfold g__law_values F__law_values
  simp only [ev_body, ev_entry]
  show ((sSeq (sPar [2, 3] (mVal (xCb dictTD (lCons (xVar 0) lNil)) (mVal (xCb dictTD (lCons (xVar 1) lNil)) mNil))) (sSeq (sAsg 4 (xCb sortSetD (lCons C__law_values_1 lNil))) (sRet C__law_values_2))) [.fz (chT a), .fz (chT b), .no, .no, .no, .no, .no] μ).fin = _
  simp [e1, e2, hc1, hs, hc2, trs]
end K80
set_option Elab.async false
set_option linter.all false
set_option maxRecDepth 100000
set_option maxHeartbeats 2000000
namespace K80
open PySem DC
open FR (sumQ fr SzR Dv Few LowOk SumOk)
/-! ### the chances of values -/
theorem gt_mem {v : Int} : ∀ {a : Chs}, v ∈ a.map Prod.fst → ∃ c, c ∈ a ∧ c.1 = v ∧ gt a v = c.2
  | [], h => by simp at h
  | c :: r, h => by
    by_cases e : c.1 = v
    · exact ⟨c, by simp, e, if_pos e⟩
    · have e' : v ≠ c.1 := fun z => e z.symm
      simp only [List.map_cons, List.mem_cons, e', false_or] at h
      obtain ⟨d, h1, h2, h3⟩ := gt_mem h
      exact ⟨d, List.mem_cons_of_mem _ h1, h2, (show gt (c :: r) v = gt r v from if_neg e).trans h3⟩
structure GtOk (R : Nat) (x : Rat) : Prop where
  nn : 0 ≤ x
  le : x ≤ 1
  dv : Dv R x
theorem gt_ok {R : Nat} {a : Chs} (h : ChOk R a) (v : Int) : GtOk R (gt a v) := by
  by_cases hv : v ∈ a.map Prod.fst
  · obtain ⟨c, h1, _, h3⟩ := gt_mem hv
    rw [h3]
    obtain ⟨k1, k2, k3⟩ := h.ch c h1
    exact ⟨Rat.le_of_lt k1, k2, k3⟩
  · rw [gt_no hv]
    exact ⟨by decide, by decide, Dv.zero R⟩
theorem gt_pos {R : Nat} {a : Chs} (h : ChOk R a) {v : Int} : 0 < gt a v ↔ v ∈ a.map Prod.fst := by
  constructor
  · intro z
    by_cases hv : v ∈ a.map Prod.fst
    · exact hv
    · rw [gt_no hv] at z; exact absurd z (by decide)
  · intro hv
    obtain ⟨c, h1, _, h3⟩ := gt_mem hv
    rw [h3]
    exact (h.ch c h1).1
theorem GtOk.den {R : Nat} {x : Rat} (h : GtOk R x) (hR : 0 < R) : x.den ≤ R := h.dv.den hR
theorem GtOk.num {R : Nat} {x : Rat} (h : GtOk R x) : 0 ≤ x.num ∧ x.num ≤ ((x.den : Nat) : Int) := by
  refine ⟨Rat.num_nonneg.mpr h.nn, ?_⟩
  have h1 : ¬ ((1 : Rat).num * ((x.den : Nat) : Int) < x.num * (((1 : Rat).den : Nat) : Int)) := fun z => Rat.not_lt.mpr h.le ((Rat.lt_iff 1 x).mpr z)
  have e1 : (1 : Rat).num = 1 := rfl
  have e2 : (1 : Rat).den = 1 := rfl
  rw [e1, e2] at h1
  omega
theorem sz12 {i : Int} (h : i.natAbs ≤ 1000000 * 1000000) : FR.Sz 8990 i := FR.lt_pow (m := 60) (by
  have e60 : (2 : Nat) ^ 60 = 1152921504606846976 := by decide
  omega) (by decide)
theorem GtOk.sz {R : Nat} {x : Rat} (h : GtOk R x) (hR : 0 < R) (hR2 : R ≤ 1000000) : SzR 20 x := by
  have h1 := h.den hR
  have h2 := h.num
  exact ⟨by show x.num.natAbs < 2 ^ 20; have : (2 : Nat) ^ 20 = 1048576 := by decide
            omega, by have : (2 : Nat) ^ 20 = 1048576 := by decide
                      omega⟩
/-! ### quotients -/
def qo : Option Rat → D
  | none => .non
  | some r => fr r
def quo (p q : Rat) : Option Rat := if p = 0 then none else some (q / p)
theorem num_pos {p : Rat} (h : 0 < p) : 0 < p.num := by
  have := (Rat.lt_iff 0 p).mp h
  have e0 : (0 : Rat).num = 0 := rfl
  have e1 : (0 : Rat).den = 1 := rfl
  rw [e0, e1] at this
  omega
theorem div_fr {p q : Rat} (h : 0 < p) : Rat.divInt (q.num * ((p.den : Nat) : Int)) (((q.den : Nat) : Int) * p.num) = q / p := by
  have h1 : (p.num : Rat) ≠ 0 := fun z => by
    have := num_pos h
    have z' : p.num = 0 := Rat.intCast_inj.mp z
    omega
  have h2 : ((p.den : Nat) : Rat) ≠ 0 := fun z => by
    have := p.den_pos
    have z' : p.den = 0 := Rat.natCast_inj.mp z
    omega
  have h3 : ((q.den : Nat) : Rat) ≠ 0 := fun z => by
    have := q.den_pos
    have z' : q.den = 0 := Rat.natCast_inj.mp z
    omega
  have hp : p = (p.num : Rat) / ((p.den : Nat) : Rat) := by
    have := Rat.num_divInt_den p
    rw [Rat.divInt_eq_div] at this
    exact this.symm
  have hq : q = (q.num : Rat) / ((q.den : Nat) : Rat) := by
    have := Rat.num_divInt_den q
    rw [Rat.divInt_eq_div] at this
    exact this.symm
  rw [Rat.divInt_eq_div, Rat.intCast_mul, Rat.intCast_mul]
  have c1 : (((p.den : Nat) : Int) : Rat) = ((p.den : Nat) : Rat) := rfl
  have c2 : (((q.den : Nat) : Int) : Rat) = ((q.den : Nat) : Rat) := rfl
  rw [c1, c2]
  generalize (p.num : Rat) = a at *
  generalize ((p.den : Nat) : Rat) = b at *
  generalize (q.num : Rat) = c at *
  generalize ((q.den : Nat) : Rat) = d at *
  rw [hp, hq, Rat.div_def, Rat.div_def, Rat.div_def, Rat.div_def, Rat.inv_mul_rev, Rat.inv_mul_rev, Rat.inv_inv]
  grind
/-- sizes of a quotient -/
theorem quo_sz {R S : Nat} {p q : Rat} (hp : GtOk R p) (hq : GtOk S q) (hR : 0 < R) (hR2 : R ≤ 1000000) (hS : 0 < S) (hS2 : S ≤ 1000000) (h : 0 < p) : SzR 60 (q / p) := by
  have p1 := hp.den hR
  have p2 := hp.num
  have q1 := hq.den hS
  have q2 := hq.num
  have np := num_pos h
  have pp : 0 < ((q.den : Nat) : Int) * p.num := Int.mul_pos (FR.den_pos q) np
  rw [← div_fr h]
  have a1 := FR.num_of (a := q.num * ((p.den : Nat) : Int)) pp
  have a2 := FR.den_of (a := q.num * ((p.den : Nat) : Int)) pp
  have g0 := FR.gcd_pos (a := q.num * ((p.den : Nat) : Int)) pp
  have b1 : (q.num * ((p.den : Nat) : Int)).natAbs ≤ 1000000 * 1000000 := by
    rw [Int.natAbs_mul]
    exact Nat.mul_le_mul (by omega) (by omega)
  have b2 : (((q.den : Nat) : Int) * p.num).natAbs ≤ 1000000 * 1000000 := by
    rw [Int.natAbs_mul]
    exact Nat.mul_le_mul (by omega) (by omega)
  have e60 : (2 : Nat) ^ 60 = 1152921504606846976 := by decide
  refine ⟨?_, ?_⟩
  · show (Rat.divInt (q.num * ((p.den : Nat) : Int)) (((q.den : Nat) : Int) * p.num)).num.natAbs < 2 ^ 60
    rw [a1]
    have : (q.num * ((p.den : Nat) : Int) / (Int.gcd (q.num * ((p.den : Nat) : Int)) (((q.den : Nat) : Int) * p.num) : Int)).natAbs ≤ (q.num * ((p.den : Nat) : Int)).natAbs := Int.natAbs_ediv_le_natAbs _ _
    omega
  · have h3 : ((Rat.divInt (q.num * ((p.den : Nat) : Int)) (((q.den : Nat) : Int) * p.num)).den : Int) ≤ ((q.den : Nat) : Int) * p.num := by
      rw [a2]
      exact Int.ediv_le_self _ (by omega)
    have h4 : ((q.den : Nat) : Int) * p.num = ((((q.den : Nat) : Int) * p.num).natAbs : Int) := by omega
    omega
def SzO (o : Option Rat) : Prop := ∀ r, o = some r → SzR 60 r
theorem quo_szO {R S : Nat} {a b : Chs} (h : Pr R S a b) (v : Int) : SzO (quo (gt a v) (gt b v)) := fun r e => by
  unfold quo at e
  split at e
  · cases e
  · rename_i hz
    cases e
    have k := gt_ok h.oa v
    exact quo_sz k (gt_ok h.ob v) h.oa.pos h.ra h.ob.pos h.sb (Rat.lt_of_le_of_ne k.nn fun z => hz z.symm)
theorem mul_small {i j : Int} (hi : i.natAbs ≤ 1000000) : mulD (.int i) (.int j) = some (.int (i * j)) := small_mul (by omega)
theorem fr_eq0 (p : Rat) : neD (fr p) (.tup [.int 0, .int 1]) = some (.bl (!decide (p = 0))) := ne_fr p 0
theorem quotient_in_spec {R S : Nat} {p q : Rat} (hp : GtOk R p) (hq : GtOk S q) (hR : 0 < R) (hR2 : R ≤ 1000000) (hS : 0 < S) (hS2 : S ≤ 1000000) (μ : Store) : g_quotient_in [fr p, fr q] μ = .ok (qo (quo p q)) μ := by
  have p1 := hp.den hR
  have p2 := hp.num
  have q1 := hq.den hS
  have q2 := hq.num
  unfold g_quotient_in F_quotient_in
  by_cases h0 : p = 0
  · subst h0
    simp [fr_eq0, quo, qo]
  · have h : 0 < p := Rat.lt_of_le_of_ne hp.nn fun z => h0 z.symm
    have np := num_pos h
    have pp : 0 < ((q.den : Nat) : Int) * p.num := Int.mul_pos (FR.den_pos q) np
    have b2 : (((q.den : Nat) : Int) * p.num).natAbs ≤ 1000000 * 1000000 := by
      rw [Int.natAbs_mul]
      exact Nat.mul_le_mul (by omega) (by omega)
    have hz : FR.Sz 8990 (((q.den : Nat) : Int) * p.num) := sz12 b2
    have hpb : g_part_by [fr q, fr p] μ = .ok (fr (q / p)) μ := by
      have e := low_ok (q.num * ((p.den : Nat) : Int)) (((q.den : Nat) : Int) * p.num) μ pp hz
      rw [div_fr h] at e
      have m1 := mul_small (i := q.num) (j := ((p.den : Nat) : Int)) (by omega)
      have m2 := mul_small (i := ((q.den : Nat) : Int)) (j := p.num) (by omega)
      unfold g_part_by F_part_by
      simp [FR.ix0, FR.ix1, m1, m2, e]
    simp [fr_eq0, h0, hpb, quo, qo]
theorem lquo_spec {R S : Nat} {p q : Rat} (hp : GtOk R p) (hq : GtOk S q) (hR : 0 < R) (hR2 : R ≤ 1000000) (hS : 0 < S) (hS2 : S ≤ 1000000) (h : 0 < p) (μ : Store) :
    mulD (.int q.num) (.int ((p.den : Nat) : Int)) = some (.int (q.num * ((p.den : Nat) : Int))) ∧ mulD (.int ((q.den : Nat) : Int)) (.int p.num) = some (.int (((q.den : Nat) : Int) * p.num)) ∧
    g__law_least [.int (q.num * ((p.den : Nat) : Int)), .int (((q.den : Nat) : Int) * p.num)] μ = .ok (fr (q / p)) μ := by
  have p1 := hp.den hR
  have p2 := hp.num
  have q1 := hq.den hS
  have q2 := hq.num
  have np := num_pos h
  have pp : 0 < ((q.den : Nat) : Int) * p.num := Int.mul_pos (FR.den_pos q) np
  have b2 : (((q.den : Nat) : Int) * p.num).natAbs ≤ 1000000 * 1000000 := by
    rw [Int.natAbs_mul]
    exact Nat.mul_le_mul (by omega) (by omega)
  have hz : FR.Sz 8990 (((q.den : Nat) : Int) * p.num) := sz12 b2
  have e := least_ok (q.num * ((p.den : Nat) : Int)) (((q.den : Nat) : Int) * p.num) μ pp hz
  rw [div_fr h] at e
  exact ⟨mul_small (by omega), mul_small (by omega), e⟩
theorem need_both_spec {R S : Nat} {a b : Chs} (h : Pr R S a b) (μ : Store) : g_need_both [chT a, chT b] μ = .ok .non μ := by
  have e1 : g_need_chances [chT a] μ = .ok .non μ := need_ch h.oa μ
  have e2 : g_need_chances [chT b] μ = .ok .non μ := need_ch h.ob μ
  unfold g_need_both F_need_both
  simp [e1, e2]
theorem tr_pd (v : Int) (p q : Rat) (n : Nat) : D.pd (n + 3) (tr v p q) = true := by
  show (true && (D.pd (n + 2) (fr p) && (D.pd (n + 2) (fr q) && true))) = true
  rw [fr_pd, fr_pd]; rfl
theorem filter_one {l : List Int} (hn : l.Nodup) {v : Int} (hv : v ∈ l) : l.filter (fun x => decide (x = v)) = [v] := by
  induction l with
  | nil => cases hv
  | cons x r ih =>
    rw [List.nodup_cons] at hn
    by_cases e : x = v
    · subst e
      rw [List.filter_cons_of_pos (by simp)]
      congr 1
      rw [List.filter_eq_nil_iff]
      intro y hy z
      have : y = x := of_decide_eq_true z
      subst this
      exact hn.1 hy
    · rw [List.filter_cons_of_neg (by simpa using e)]
      rcases List.mem_cons.mp hv with z | z
      · exact absurd z.symm e
      · exact ih hn.2 z
theorem uni_nd (a b : Chs) : (uni a b).Nodup := asc_nodup (uni_asc a b)
def keyB (v : Int) : D → Bool
  | .tup (.int k :: _) => decide (k = v)
  | _ => false
theorem trs_filter {a b : Chs} {v : Int} (hv : v ∈ uni a b) : (trs a b).filter (keyB v) = [tr v (gt a v) (gt b v)] := by
  unfold trs
  rw [List.filter_map]
  have e : (keyB v ∘ fun v => tr v (gt a v) (gt b v)) = fun x => decide (x = v) := rfl
  rw [e, filter_one (uni_nd a b) hv]
  rfl
theorem quotient_of_spec {R S : Nat} {a b : Chs} (h : Pr R S a b) {v : Int} (hv : v ∈ uni a b) (μ : Store) : g_quotient_of [chT a, chT b, .int v] μ = .ok (qo (quo (gt a v) (gt b v))) μ := by
  have e1 := need_both_spec h μ
  have e2 := values_spec h μ
  have ei : g_is_integer [.int v] μ = .ok (.bl true) μ := is_integer_spec (n := 1) (d := .int v) rfl μ
  have hc : C_quotient_of_1 [.fz (chT a), .fz (chT b), .fz (.int v), .no, .no] μ = .ok (.lst (((trs a b).filter (keyB v)).map id)) μ :=
    ev_lc (keyB v) id (by simp [e2]) rfl (by have := uni_len h; unfold trs; rw [List.length_map]; omega) fun d hd => by
      obtain ⟨w, _, rfl⟩ := List.mem_map.mp hd
      refine ⟨_, rfl, ?_, fun _ => rfl⟩
      have ew : (wipeE [.fz (chT a), .fz (chT b), .fz (.int v), .no, .no] [4]).set 4 (.fz (tr w (gt a w) (gt b w))) = [.fz (chT a), .fz (chT b), .fz (.int v), .no, .fz (tr w (gt a w) (gt b w))] := rfl
      rw [ew]
      have ex : ixS μ (tr w (gt a w) (gt b w)) (.int 0) = some (.int w) := rfl
      simp [ei, ex]
      rfl
  rw [trs_filter hv] at hc
  have hl : L2.atI ([tr v (gt a v) (gt b v)]) 0 = some (tr v (gt a v) (gt b v)) := rfl
  have x0 : ixS μ (.lst [tr v (gt a v) (gt b v)]) (.int 0) = some (tr v (gt a v) (gt b v)) := rfl
  have x1 : ixS μ (tr v (gt a v) (gt b v)) (.int 1) = some (fr (gt a v)) := rfl
  have x2 : ixS μ (tr v (gt a v) (gt b v)) (.int 2) = some (fr (gt b v)) := rfl
  have q := quotient_in_spec (gt_ok h.oa v) (gt_ok h.ob v) h.oa.pos h.ra h.ob.pos h.sb μ
  have hne : eqD (.lst [tr v (gt a v) (gt b v)]) (.lst []) = some (.bl false) := by
    unfold eqD
    have hp : D.pd 60 (.lst [tr v (gt a v) (gt b v)]) = true := by
      show (D.pd 59 (tr v (gt a v) (gt b v)) && true) = true
      rw [tr_pd v _ _ 56]; rfl
    rw [hp]
    rfl
  unfold g_quotient_of F_quotient_of
  simp only [ev_body, ev_entry]
  show ((sSeq (sExpr (xCall g_need_both (lCons (xVar 0) (lCons (xVar 1) lNil)))) (sSeq (sAsg 3 C_quotient_of_1) (sSeq (sIf (bVal (xBin eqD (xVar 3) (xLst lNil))) sFail sNext) (sRet (xCall g_quotient_in (lCons (xIx (xIx (xVar 3) (xC (.int 0))) (xC (.int 1))) (lCons (xIx (xIx (xVar 3) (xC (.int 0))) (xC (.int 2))) lNil))))))) [.fz (chT a), .fz (chT b), .fz (.int v), .no, .no] μ).fin = _
  simp [e1, hc, hne, x0, x1, x2, q]
/-! ### rising -/
def lesser : Option Rat → Option Rat → Bool
  | some x, some y => decide (x < y)
  | some _, none => true
  | none, _ => false
theorem qo_isN (o : Option Rat) : isN (qo o) .non = some (.bl o.isNone) := by cases o <;> rfl
theorem qo_notN (o : Option Rat) : notN (qo o) .non = some (.bl o.isSome) := by cases o <;> rfl
theorem lesser_spec {x y : Option Rat} (hx : SzO x) (hy : SzO y) (μ : Store) : g_is_lesser [qo x, qo y] μ = .ok (.bl (lesser x y)) μ := by
  unfold g_is_lesser F_is_lesser
  cases x with
  | none => simp [qo_isN, qo_notN, lesser]
  | some x =>
    cases y with
    | none => simp [qo_isN, qo_notN, lesser]
    | some y =>
      have e := (under_spec ((hx x rfl).mono (by decide)) ((hy y rfl).mono (by decide)) μ).1
      simp [qo_isN, lesser]
      show ((g_is_under [fr x, fr y] μ).st _ _).fin = _
      rw [e]
      rfl
def quos (a b : Chs) : List (Option Rat) := (uni a b).map fun v => quo (gt a v) (gt b v)
def risB (qs : List (Option Rat)) : Bool := !(List.zipWith (fun l h => lesser h l) qs (qs.drop 1)).any id
theorem zip_qo : ∀ (xs ys : List (Option Rat)), List.zipWith pairD (xs.map qo) (ys.map qo) = List.zipWith (fun x y => D.tup [qo x, qo y]) xs ys
  | [], _ => rfl
  | _ :: _, [] => rfl
  | x :: xs, y :: ys => by
    show _ :: _ = _ :: _
    rw [zip_qo xs ys]
    rfl
theorem drop1 {xs : List D} : slT (.lst xs) (some 1) none = some (.lst (xs.drop 1)) := by
  show some (D.lst (cutD xs (some 1) none)) = _
  cases xs with
  | nil => rfl
  | cons x r => rw [show cutD (x :: r) (some 1) none = (x :: r).drop 1 from cutD_from (k := 1) (by simp)]
theorem any_bl (bs : List Bool) : anyD [.lst (bs.map D.bl)] = some (.bl (bs.any id)) := by
  have e := bls_bl (f := fun d => match d with | .bl b => b | _ => false) (bs.map D.bl)
  rw [List.map_map, List.map_map] at e
  have e1 : ((fun d : D => D.bl (match d with | .bl b => b | _ => false)) ∘ D.bl) = D.bl := rfl
  have e2 : ((fun d : D => match d with | .bl b => b | _ => false) ∘ D.bl) = id := rfl
  rw [e1, e2, List.map_id] at e
  show (D.bls (bs.map D.bl)).map (fun ns => D.bl (ns.any id)) = _
  rw [e]
  rfl
/-- a walk over pairs of neighbours -/
theorem zipW_map {α : Type} (f : α → α → D) (g : D → D) : ∀ (xs ys : List α), (List.zipWith f xs ys).map g = List.zipWith (fun x y => g (f x y)) xs ys
  | [], _ => rfl
  | _ :: _, [] => rfl
  | x :: xs, y :: ys => by
    show _ :: _ = _ :: _
    rw [zipW_map f g xs ys]
theorem zipW_mem {α : Type} {f : α → α → D} {d : D} : ∀ {xs ys : List α}, d ∈ List.zipWith f xs ys → ∃ x y, x ∈ xs ∧ y ∈ ys ∧ d = f x y
  | [], _, h => by simp at h
  | _ :: _, [], h => by simp at h
  | x :: xs, y :: ys, h => by
    rcases List.mem_cons.mp (show d ∈ f x y :: List.zipWith f xs ys from h) with e | h
    · exact ⟨x, y, by simp, by simp, e⟩
    · obtain ⟨x', y', h1, h2, h3⟩ := zipW_mem h
      exact ⟨x', y', List.mem_cons_of_mem _ h1, List.mem_cons_of_mem _ h2, h3⟩
def unq (d : D) : Option Rat := match d with
  | .tup [.int a, .int b] => some (Rat.divInt a b)
  | _ => none
theorem unq_qo (o : Option Rat) : unq (qo o) = o := by
  cases o with
  | none => rfl
  | some r => show some (Rat.divInt r.num ((r.den : Nat) : Int)) = _; rw [FR.divInt_fr]
theorem szs {R S : Nat} {a b : Chs} (h : Pr R S a b) : ∀ o, o ∈ quos a b → SzO o := fun o ho => by
  obtain ⟨v, _, rfl⟩ := List.mem_map.mp ho
  exact quo_szO h v
theorem quos_len {R S : Nat} {a b : Chs} (h : Pr R S a b) : (quos a b).length ≤ 60 := by
  unfold quos
  rw [List.length_map]
  exact uni_len h
def lesF : D → D
  | .tup [x, y] => .bl (lesser (unq y) (unq x))
  | _ => .non
theorem are_rising_spec {R S : Nat} {a b : Chs} (h : Pr R S a b) (μ : Store) : g_are_rising [chT a, chT b] μ = .ok (.bl (risB (quos a b))) μ := by
  have e1 := need_both_spec h μ
  have e2 := values_spec h μ
  have hl := quos_len h
  have hc1 : C_are_rising_1 [.fz (chT a), .fz (chT b), .no, .no, .no, .no] μ = .ok (.lst ((trs a b).map fun d => match d with | .tup [_, x, y] => qo (quo ((unq x).getD 0) ((unq y).getD 0)) | _ => .non)) μ :=
    ev_lcT _ (by simp [e2]) rfl (by have := uni_len h; unfold trs; rw [List.length_map]; omega) fun d hd => by
      obtain ⟨w, _, rfl⟩ := List.mem_map.mp hd
      refine ⟨_, rfl, ?_⟩
      have q := quotient_in_spec (gt_ok h.oa w) (gt_ok h.ob w) h.oa.pos h.ra h.ob.pos h.sb μ
      have u1 : unq (fr (gt a w)) = some (gt a w) := unq_qo (some _)
      have u2 : unq (fr (gt b w)) = some (gt b w) := unq_qo (some _)
      show g_quotient_in [fr (gt a w), fr (gt b w)] μ = .ok (qo (quo ((unq (fr (gt a w))).getD 0) ((unq (fr (gt b w))).getD 0))) μ
      rw [u1, u2, q]
      rfl
  have e3 : ((trs a b).map fun d => match d with | .tup [_, x, y] => qo (quo ((unq x).getD 0) ((unq y).getD 0)) | _ => .non) = (quos a b).map qo := by
    unfold trs quos
    rw [List.map_map, List.map_map]
    apply List.map_congr_left
    intro w _
    show qo (quo ((unq (qo (some (gt a w)))).getD 0) ((unq (qo (some (gt b w)))).getD 0)) = _
    rw [unq_qo, unq_qo]
    rfl
  rw [e3] at hc1
  have hz : (wZipA (lCons (xVar 2) (lCons (xSl (xVar 2) (oSome (xC (.int 1))) oNone) lNil))) [.fz (chT a), .fz (chT b), .fz (.lst ((quos a b).map qo)), .no, .no, .no] μ = .ok (List.zipWith (fun x y => D.tup [qo x, qo y]) (quos a b) ((quos a b).drop 1)) μ := by
    unfold wZipA
    simp only [ev_lCons, ev_lNil, ev_var, ev_sl, ev_oSome, ev_C, ev_oNone, List.getElem?_cons_succ, List.getElem?_cons_zero, slV_fz, ev_bind_ok, drop1, ev_ofO_some]
    rw [← List.map_drop, zip_qo]
  have hc2 : C_are_rising_2 [.fz (chT a), .fz (chT b), .fz (.lst ((quos a b).map qo)), .no, .no, .no] μ = .ok (.lst ((List.zipWith (fun x y => D.tup [qo x, qo y]) (quos a b) ((quos a b).drop 1)).map lesF)) μ :=
    ev_lcT lesF hz rfl (by rw [List.length_zipWith]; omega) fun d hd => by
      obtain ⟨x, y, hx, hy, rfl⟩ := zipW_mem hd
      refine ⟨_, rfl, ?_⟩
      have q := lesser_spec (szs h y (List.mem_of_mem_drop hy)) (szs h x hx) μ
      show g_is_lesser [qo y, qo x] μ = .ok (.bl (lesser (unq (qo y)) (unq (qo x)))) μ
      rw [unq_qo, unq_qo, q]
  have e4 : ((List.zipWith (fun x y => D.tup [qo x, qo y]) (quos a b) ((quos a b).drop 1)).map lesF) = (List.zipWith (fun l h => lesser h l) (quos a b) ((quos a b).drop 1)).map D.bl := by
    rw [zipW_map, List.map_zipWith]
    congr 1
    funext x y
    show D.bl (lesser (unq (qo y)) (unq (qo x))) = _
    rw [unq_qo, unq_qo]
  rw [e4] at hc2
  unfold risB
  generalize List.zipWith (fun l h => lesser h l) (quos a b) ((quos a b).drop 1) = L at hc2
  unfold g_are_rising F_are_rising
  simp only [ev_body, ev_entry]
  show ((sSeq (sExpr (xCall g_need_both (lCons (xVar 0) (lCons (xVar 1) lNil)))) (sSeq (sAsg 2 C_are_rising_1) (sRet (xNot (xCb anyD (lCons C_are_rising_2 lNil)))))) [.fz (chT a), .fz (chT b), .no, .no, .no, .no] μ).fin = _
  simp [e1, hc1, hc2, any_bl]
end K80
set_option Elab.async false
set_option linter.all false
set_option maxRecDepth 100000
set_option maxHeartbeats 2000000
namespace K80
open PySem DC
open FR (sumQ fr SzR Dv Few LowOk SumOk)
/-! ### which values are shares, rules -/
def shareB : D → Bool
  | .tup [.int a, .int b] => decide (1 ≤ b) && (decide (0 ≤ a) && (decide (a ≤ b) && decide (Int.gcd a b = 1)))
  | _ => false
theorem eq_nil {n : Nat} {xs : List D} (hn : n < 60) (h : xs.all (D.pd n) = true) : eqD (.lst xs) (.lst []) = some (.bl (decide (xs = []))) := by
  have h1 := ne_nil hn h
  unfold neD at h1
  unfold eqD
  split at h1
  · rename_i hp
    rw [if_pos hp]
    have := Option.some.inj h1
    have h2 : (!D.eqv (.lst xs) (.lst [])) = decide (xs ≠ []) := D.bl.inj this
    congr 2
    by_cases e : xs = []
    · subst e; rfl
    · rw [decide_eq_false e]
      rw [decide_eq_true e] at h2
      simpa using h2
  · cases h1
/-- a tuple of two -/
theorem tupB2 (d : D) : tupB 2 2 d = true ↔ ∃ x y, d = .tup [x, y] := by
  constructor
  · intro h
    cases d with
    | tup xs =>
      rw [tupB_tup, Bool.and_eq_true] at h
      have h1 := of_decide_eq_true h.1
      have h2 := of_decide_eq_true h.2
      match xs, h1, h2 with
      | [x, y], _, _ => exact ⟨x, y, rfl⟩
      | [], h1, _ => simp at h1
      | [_], h1, _ => simp at h1
      | _ :: _ :: _ :: _, _, h2 => simp at h2; omega
    | _ => simp [tupB] at h
  · rintro ⟨x, y, rfl⟩
    rfl
theorem intB {d : D} (h : isIntB d = true) : ∃ i, d = .int i := by
  cases d with
  | int i => exact ⟨i, rfl⟩
  | _ => simp [isIntB] at h
theorem pd_two {n : Nat} {x y : D} (h : D.pd n (.tup [x, y]) = true) : D.pd n x = true ∧ D.pd n y = true := by
  cases n with
  | zero => simp [D.pd] at h
  | succ n =>
    have h' : (D.pd n x && (D.pd n y && true)) = true := h
    simp only [Bool.and_eq_true, Bool.and_true] at h'
    exact ⟨pd_mono n (n + 1) x (by omega) h'.1, pd_mono n (n + 1) y (by omega) h'.2⟩
theorem gcd_one (a b : Int) : eqD (.int (Int.gcd a b : Nat)) (.int 1) = some (.bl (decide (Int.gcd a b = 1))) := by
  rw [ev_eqII]
  congr 2
  by_cases e : Int.gcd a b = 1
  · rw [decide_eq_true e, decide_eq_true (by omega)]
  · rw [decide_eq_false e, decide_eq_false (by omega)]
theorem share_F {a b : Int} : shareB (.tup [.int a, .int b]) = (decide (1 ≤ b) && (decide (0 ≤ a) && (decide (a ≤ b) && decide (Int.gcd a b = 1)))) := rfl
theorem fits_share_spec {n : Nat} {d : D} (h : D.pd n d = true) (μ : Store) : g_fits_share [d] μ = .ok (.bl (shareB d)) μ := by
  have e1 := is_tuple_spec (lo := 2) (hi := 2) h μ
  by_cases ht : tupB 2 2 d = true
  · obtain ⟨x, y, rfl⟩ := (tupB2 d).mp ht
    obtain ⟨hx, hy⟩ := pd_two h
    rw [ht] at e1
    have hc : C_fits_share_1 [.fz (.tup [x, y]), .no] μ = .ok (.lst ([x, y].map fun d => .bl (isIntB d))) μ :=
      ev_lcT _ (by simp) rfl (by simp) fun z hz => by
        refine ⟨_, rfl, ?_⟩
        have hzp : D.pd n z = true := by
          simp only [List.mem_cons, List.not_mem_nil, or_false] at hz
          rcases hz with rfl | rfl <;> assumption
        exact is_integer_spec hzp μ
    unfold g_fits_share F_fits_share
    simp only [ev_body, ev_entry]
    show ((sSeq (sIf (bOr (bNot (bVal (xCall g_is_tuple_of (lCons (xVar 0) (lCons (xC (.int 2)) (lCons (xC (.int 2)) lNil)))))) (bNot (bVal (xCb allD (lCons C_fits_share_1 lNil))))) (sRet (xC (.bl false))) sNext) (sRet (xAnd (xChain leD leD (xC (.int 0)) (xIx (xVar 0) (xC (.int 0))) (xIx (xVar 0) (xC (.int 1)))) (xAnd (xBin geD (xIx (xVar 0) (xC (.int 1))) (xC (.int 1))) (xBin eqD (xCall g_divisor_of (lCons (xIx (xVar 0) (xC (.int 0))) (lCons (xIx (xVar 0) (xC (.int 1))) lNil))) (xC (.int 1))))))) [.fz (.tup [x, y]), .no] μ).fin = _
    by_cases hi : isIntB x = true ∧ isIntB y = true
    · obtain ⟨a, rfl⟩ := intB hi.1
      obtain ⟨b, rfl⟩ := intB hi.2
      have x0 : ixS μ (.tup [.int a, .int b]) (.int 0) = some (.int a) := rfl
      have x1 : ixS μ (.tup [.int a, .int b]) (.int 1) = some (.int b) := rfl
      have hd := div_spec a b μ
      by_cases h1 : 0 ≤ a <;> by_cases h2 : a ≤ b <;> by_cases h3 : 1 ≤ b <;> simp [e1, hc, isIntB, x0, x1, hd, gcd_one, share_F, h1, h2, h3] <;> omega
    · have hb : (isIntB x && isIntB y) = false := by
        cases hx' : isIntB x <;> cases hy' : isIntB y <;> simp_all
      have hs : shareB (.tup [x, y]) = false := by
        cases x <;> cases y <;> simp_all [shareB, isIntB]
      simp [e1, hc, hb, hs]
  · have ht' : tupB 2 2 d = false := by simpa using ht
    rw [ht'] at e1
    have hs : shareB d = false := by
      cases hq : shareB d with
      | false => rfl
      | true =>
        exfalso
        unfold shareB at hq
        split at hq
        · exact ht rfl
        · cases hq
    unfold g_fits_share F_fits_share
    simp [e1, hs]
theorem srt2 {d : D} : srtI d = 2 ↔ isIntB d = true := by
  cases d <;> simp [srtI, isIntB]
theorem lshare_spec {n : Nat} (hn : n < 50) {d : D} (h : D.pd n d = true) (μ : Store) : g__law_is_share [d] μ = .ok (.bl (shareB d)) μ := by
  have hno : (∀ ks vs, d ≠ .dt ks vs) := not_dt h
  by_cases ht : tupB 2 2 d = true
  · obtain ⟨x, y, rfl⟩ := (tupB2 d).mp ht
    obtain ⟨hx, hy⟩ := pd_two h
    have hc : C__law_is_share_1 [.fz (.tup [x, y]), .no] μ = .ok (.lst (([x, y].filter fun d => !isIntB d).map id)) μ :=
      ev_lc (fun d => !isIntB d) id (by simp) rfl (by simp) fun z hz => by
        have hzp : D.pd n z = true := by
          simp only [List.mem_cons, List.not_mem_nil, or_false] at hz
          rcases hz with rfl | rfl <;> assumption
        have e := sort_spec z (pd_mono n 60 z (by omega) hzp) μ
        refine ⟨_, rfl, ?_, fun _ => rfl⟩
        show (((g__law_sort [z] μ).bind fun a μ1 => Res.ofO (neD a (.int 2)) μ1).bind fun a μ1 => Res.ofO (asB a) μ1) = _
        rw [e]
        simp only [ev_bind_ok, ev_neII, ev_ofO_some, ev_asB]
        congr 1
        by_cases hi : isIntB z = true
        · rw [hi, decide_eq_true (srt2.mpr hi)]
        · rw [decide_eq_false fun q => hi (srt2.mp q)]
          simpa using hi
    rw [List.map_id] at hc
    have hfp : ([x, y].filter fun d => !isIntB d).all (D.pd n) = true := List.all_eq_true.mpr fun z hz => by
      have hz := (List.mem_filter.mp hz).1
      simp only [List.mem_cons, List.not_mem_nil, or_false] at hz
      rcases hz with rfl | rfl <;> assumption
    have hne := ne_nil (n := n) (by omega) hfp
    have hlen : lenD [.tup [x, y]] = some (.int 2) := rfl
    have hisi : isiD Ty.tuple (.tup [x, y]) = some (.bl true) := rfl
    unfold g__law_is_share F__law_is_share
    simp only [ev_body, ev_entry]
    show ((sSeq (sIf (bOr (bNot (bVal (xUn (isiD Ty.tuple) (xVar 0)))) (bOr (bVal (xBin neD (xCb lenD (lCons (xVar 0) lNil)) (xC (.int 2)))) (bVal (xBin neD C__law_is_share_1 (xLst lNil))))) (sRet (xC (.bl false))) sNext) (sRet (xAnd (xBin geD (xIx (xVar 0) (xC (.int 1))) (xC (.int 1))) (xAnd (xChain leD leD (xC (.int 0)) (xIx (xVar 0) (xC (.int 0))) (xIx (xVar 0) (xC (.int 1)))) (xBin eqD (xCall g__law_divisor (lCons (xIx (xVar 0) (xC (.int 0))) (lCons (xIx (xVar 0) (xC (.int 1))) lNil))) (xC (.int 1))))))) [.fz (.tup [x, y]), .no] μ).fin = _
    by_cases hi : isIntB x = true ∧ isIntB y = true
    · obtain ⟨a, rfl⟩ := intB hi.1
      obtain ⟨b, rfl⟩ := intB hi.2
      have x0 : ixS μ (.tup [.int a, .int b]) (.int 0) = some (.int a) := rfl
      have x1 : ixS μ (.tup [.int a, .int b]) (.int 1) = some (.int b) := rfl
      have hd := ldiv_spec a b μ
      have hf : ([D.int a, D.int b].filter fun d => !isIntB d) = [] := rfl
      rw [hf] at hc hne
      by_cases h1 : 0 ≤ a <;> by_cases h2 : a ≤ b <;> by_cases h3 : 1 ≤ b <;> simp [hisi, hlen, hc, hne, x0, x1, hd, gcd_one, share_F, h1, h2, h3] <;> omega
    · have hs : shareB (.tup [x, y]) = false := by
        cases x <;> cases y <;> simp_all [shareB, isIntB]
      have hf : ([x, y].filter fun d => !isIntB d) ≠ [] := by
        intro z
        rw [List.filter_eq_nil_iff] at z
        apply hi
        have z1 := z x (by simp)
        have z2 := z y (by simp)
        exact ⟨by simpa using z1, by simpa using z2⟩
      generalize ([x, y].filter fun d => !isIntB d) = L at hc hne hf
      simp [hisi, hlen, hc, hne, hf, hs]
  · have hs : shareB d = false := by
      cases hq : shareB d with
      | false => rfl
      | true =>
        exfalso
        unfold shareB at hq
        split at hq
        · exact ht rfl
        · cases hq
    unfold g__law_is_share F__law_is_share
    cases d with
    | tup xs =>
      have hl : (xs.length : Int) ≠ 2 := fun z => ht (by rw [tupB_tup, z]; rfl)
      have hisi : isiD Ty.tuple (.tup xs) = some (.bl true) := rfl
      have hlen : lenD [.tup xs] = some (.int (xs.length : Nat)) := rfl
      simp [hisi, hlen, hl, hs]
    | dt ks vs => exact absurd rfl (hno ks vs)
    | _ => simp [isiD, Ty.has, hs]
/-! rules -/
def rPair : D → Bool
  | .tup [.int _, s] => shareB s
  | _ => false
def rKey : D → Int
  | .tup (.int k :: _) => k
  | _ => 0
def ruleB (us : List Int) : D → Bool
  | .tup ps => ps.all rPair && decide (ps.map rKey = us)
  | _ => false
theorem pd_mem {n : Nat} {ps : List D} (h : D.pd (n + 1) (.tup ps) = true) {p : D} (hp : p ∈ ps) : D.pd n p = true := List.all_eq_true.mp (show ps.all (D.pd n) = true from h) p hp
theorem eqv_ints : ∀ (a b : List Int), PyData.eqvAll (D.toPyA (a.map D.int)) (D.toPyA (b.map D.int)) = decide (a = b)
  | [], [] => rfl
  | [], _ :: _ => rfl
  | _ :: _, [] => rfl
  | x :: a, y :: b => by
    have ih := eqv_ints a b
    have h1 : D.eqv (.int x) (.int y) = decide (x = y) := by
      have := ev_eqII x y
      unfold eqD at this
      exact D.bl.inj (Option.some.inj this)
    show (PyData.eqv (D.toPy (.int x)) (D.toPy (.int y)) && PyData.eqvAll (D.toPyA (a.map D.int)) (D.toPyA (b.map D.int))) = _
    rw [ih, show PyData.eqv (D.toPy (.int x)) (D.toPy (.int y)) = decide (x = y) from h1]
    by_cases e1 : x = y <;> by_cases e2 : a = b <;> simp [e1, e2]
theorem pd_ints (n : Nat) (a : List Int) : (a.map D.int).all (D.pd (n + 1)) = true := by
  rw [List.all_map]
  exact List.all_eq_true.mpr fun x _ => rfl
theorem eq_ints (a b : List Int) : eqD (.lst (a.map D.int)) (.lst (b.map D.int)) = some (.bl (decide (a = b))) := by
  unfold eqD
  have h1 : D.pd 60 (.lst (a.map D.int)) = true := pd_ints 58 a
  have h2 : D.pd 60 (.lst (b.map D.int)) = true := pd_ints 58 b
  rw [h1, h2]
  show some (D.bl (PyData.eqvAll (D.toPyA (a.map D.int)) (D.toPyA (b.map D.int)))) = _
  rw [eqv_ints]
end K80
set_option Elab.async false
set_option linter.all false
set_option maxRecDepth 100000
set_option maxHeartbeats 4000000
namespace K80
open PySem DC
open FR (sumQ fr SzR Dv Few LowOk SumOk)
/-! ### which values are rules -/
def good2 (p : D) (v : Int) : Bool := match p with
  | .tup [.int k, s] => decide (k = v) && shareB s
  | _ => false
theorem pair_cases {p : D} (h : tupB 2 2 p = true) : (∃ k s, p = .tup [.int k, s]) ∨ ∃ x s, p = .tup [x, s] ∧ isIntB x = false := by
  obtain ⟨x, s, rfl⟩ := (tupB2 p).mp h
  cases hx : isIntB x with
  | true => obtain ⟨k, rfl⟩ := intB hx; exact .inl ⟨k, s, rfl⟩
  | false => exact .inr ⟨x, s, rfl, hx⟩
theorem rPair_no {x s : D} (h : isIntB x = false) : rPair (.tup [x, s]) = false := by
  cases x with
  | int k => cases h
  | _ => rfl
theorem good2_no {x s : D} {v : Int} (h : isIntB x = false) : good2 (.tup [x, s]) v = false := by
  cases x with
  | int k => cases h
  | _ => rfl
theorem good_all : ∀ (ps : List D) (us : List Int), ps.length = us.length → (∀ p, p ∈ ps → tupB 2 2 p = true) → (List.zipWith good2 ps us).all id = (ps.all rPair && decide (ps.map rKey = us))
  | [], [], _, _ => rfl
  | [], _ :: _, h, _ => by cases h
  | _ :: _, [], h, _ => by cases h
  | p :: ps, u :: us, h, ht => by
    have ih := good_all ps us (Nat.succ.inj h) fun q hq => ht q (List.mem_cons_of_mem _ hq)
    show (good2 p u && (List.zipWith good2 ps us).all id) = ((rPair p && ps.all rPair) && decide (rKey p :: ps.map rKey = u :: us))
    rw [ih]
    rcases pair_cases (ht p (by simp)) with ⟨k, s, rfl⟩ | ⟨x, s, rfl, hx⟩
    · have e1 : good2 (.tup [.int k, s]) u = (decide (k = u) && shareB s) := rfl
      have e2 : rPair (.tup [.int k, s]) = shareB s := rfl
      have e3 : rKey (.tup [.int k, s]) = k := rfl
      rw [e1, e2, e3]
      by_cases h1 : k = u <;> by_cases h2 : ps.map rKey = us <;> cases shareB s <;> cases ps.all rPair <;> simp [h1, h2]
    · rw [good2_no hx, rPair_no hx]
      simp
theorem all_ff {ps : List D} (h : ¬ ∀ p, p ∈ ps → tupB 2 2 p = true) : ps.all rPair = false := by
  cases hq : ps.all rPair with
  | false => rfl
  | true =>
    exfalso
    apply h
    intro p hp
    have hr := List.all_eq_true.mp hq p hp
    unfold rPair at hr
    split at hr
    · rfl
    · cases hr
def goodF : D → D
  | .tup [p, .tup (.int v :: _)] => .bl (good2 p v)
  | _ => .non
theorem trs_len (a b : Chs) : (trs a b).length = (uni a b).length := by unfold trs; rw [List.length_map]
theorem zipW_memD {α β : Type} {f : α → β → D} {d : D} : ∀ {xs : List α} {ys : List β}, d ∈ List.zipWith f xs ys → ∃ x y, x ∈ xs ∧ y ∈ ys ∧ d = f x y
  | [], _, h => by simp at h
  | _ :: _, [], h => by simp at h
  | x :: xs, y :: ys, h => by
    rcases List.mem_cons.mp (show d ∈ f x y :: List.zipWith f xs ys from h) with e | h
    · exact ⟨x, y, by simp, by simp, e⟩
    · obtain ⟨x', y', h1, h2, h3⟩ := zipW_memD h
      exact ⟨x', y', List.mem_cons_of_mem _ h1, List.mem_cons_of_mem _ h2, h3⟩
theorem good_map (a b : Chs) : ∀ (ps : List D) (us : List Int), (List.zipWith pairD ps (us.map fun v => tr v (gt a v) (gt b v))).map goodF = (List.zipWith good2 ps us).map D.bl
  | [], _ => rfl
  | _ :: _, [] => rfl
  | p :: ps, u :: us => by
    show _ :: _ = _ :: _
    rw [good_map a b ps us]
    rfl
theorem fits_rule_spec {R S : Nat} {a b : Chs} (h : Pr R S a b) {n : Nat} (hn : n < 50) {d : D} (hd : D.pd n d = true) (μ : Store) : g_fits_rule [chT a, chT b, d] μ = .ok (.bl (ruleB (uni a b) d)) μ := by
  have e1 := values_spec h μ
  have ul := uni_len h
  have hlen : lenD [.lst (trs a b)] = some (.int ((uni a b).length : Nat)) := by
    show some (D.int ((trs a b).length : Nat)) = _
    rw [trs_len]
  have e2 := is_tuple_spec (lo := ((uni a b).length : Nat)) (hi := ((uni a b).length : Nat)) hd μ
  unfold g_fits_rule F_fits_rule
  simp only [ev_body, ev_entry]
  show ((sSeq (sAsg 3 (xCall g_values_in (lCons (xVar 0) (lCons (xVar 1) lNil)))) (sSeq (sIf (bOr (bNot (bVal (xCall g_is_tuple_of (lCons (xVar 2) (lCons (xCb lenD (lCons (xVar 3) lNil)) (lCons (xCb lenD (lCons (xVar 3) lNil)) lNil)))))) (bNot (bVal (xCb allD (lCons C_fits_rule_1 lNil))))) (sRet (xC (.bl false))) sNext) (sSeq (sAsg 4 C_fits_rule_2) (sRet (xCb allD (lCons (xVar 4) lNil)))))) [.fz (chT a), .fz (chT b), .fz d, .no, .no, .no, .no] μ).fin = _
  by_cases ht : tupB ((uni a b).length : Nat) ((uni a b).length : Nat) d = true
  · rw [ht] at e2
    cases d with
    | tup ps =>
      rw [tupB_tup, Bool.and_eq_true] at ht
      have hl : ps.length = (uni a b).length := by
        have h1 := of_decide_eq_true ht.1
        have h2 := of_decide_eq_true ht.2
        omega
      have hn0 : 0 < n := by
        cases n with
        | zero => simp [D.pd] at hd
        | succ n => omega
      obtain ⟨n, rfl⟩ : ∃ m, n = m + 1 := ⟨n - 1, by omega⟩
      have hc1 : C_fits_rule_1 [.fz (chT a), .fz (chT b), .fz (.tup ps), .fz (.lst (trs a b)), .no, .no, .no] μ = .ok (.lst (ps.map fun p => .bl (tupB 2 2 p))) μ :=
        ev_lcT _ (by simp) rfl (by omega) fun p hp => ⟨_, rfl, is_tuple_spec (lo := 2) (hi := 2) (pd_mem hd hp) μ⟩
      by_cases hp2 : ∀ p, p ∈ ps → tupB 2 2 p = true
      · have ha : ps.all (tupB 2 2) = true := List.all_eq_true.mpr hp2
        have hz : (wZipA (lCons (xVar 2) (lCons (xVar 3) lNil))) [.fz (chT a), .fz (chT b), .fz (.tup ps), .fz (.lst (trs a b)), .no, .no, .no] μ = .ok (List.zipWith pairD ps (trs a b)) μ := by
          unfold wZipA
          simp
        have hc2 : C_fits_rule_2 [.fz (chT a), .fz (chT b), .fz (.tup ps), .fz (.lst (trs a b)), .no, .no, .no] μ = .ok (.lst ((List.zipWith pairD ps (trs a b)).map goodF)) μ :=
          ev_lcT goodF hz rfl (by rw [List.length_zipWith]; omega) fun xx hxx => by
            obtain ⟨p, t, hp, ht', rfl⟩ := zipW_memD hxx
            obtain ⟨v, _, rfl⟩ := List.mem_map.mp ht'
            refine ⟨_, rfl, ?_⟩
            have hpp := pd_mem hd hp
            have y0 : ixS μ (tr v (gt a v) (gt b v)) (.int 0) = some (.int v) := rfl
            have ew : ((wipeE [.fz (chT a), .fz (chT b), .fz (.tup ps), .fz (.lst (trs a b)), .no, .no, .no] [5, 6]).set 5 (.fz p)).set 6 (.fz (tr v (gt a v) (gt b v))) = [.fz (chT a), .fz (chT b), .fz (.tup ps), .fz (.lst (trs a b)), .no, .fz p, .fz (tr v (gt a v) (gt b v))] := rfl
            rw [ew]
            rcases pair_cases (hp2 p hp) with ⟨k, s, rfl⟩ | ⟨x, s, rfl, hx⟩
            · have x0 : ixS μ (.tup [.int k, s]) (.int 0) = some (.int k) := rfl
              have x1 : ixS μ (.tup [.int k, s]) (.int 1) = some s := rfl
              have f1 : g_is_integer [.int k] μ = .ok (.bl true) μ := is_integer_spec (n := 1) (d := .int k) rfl μ
              have f2 := fits_share_spec (pd_two hpp).2 μ
              have hg : goodF (pairD (.tup [.int k, s]) (tr v (gt a v) (gt b v))) = .bl (decide (k = v) && shareB s) := rfl
              rw [hg]
              by_cases hk : k = v
              · subst hk
                simp [x0, x1, y0, f1, f2]
              · simp [x0, y0, f1, hk]
            · have x0 : ixS μ (.tup [x, s]) (.int 0) = some x := rfl
              have f1 := is_integer_spec (pd_two hpp).1 μ
              rw [hx] at f1
              have hg : goodF (pairD (.tup [x, s]) (tr v (gt a v) (gt b v))) = .bl false := by
                show D.bl (good2 (.tup [x, s]) v) = _
                rw [good2_no hx]
              rw [hg]
              simp [x0, f1]
        have hgm : (List.zipWith pairD ps (trs a b)).map goodF = (List.zipWith good2 ps (uni a b)).map D.bl := good_map a b ps (uni a b)
        have hga : allD [.lst ((List.zipWith good2 ps (uni a b)).map D.bl)] = some (.bl (ruleB (uni a b) (.tup ps))) := by
          have e := all_bl (f := fun d => match d with | .bl b => b | _ => false) ((List.zipWith good2 ps (uni a b)).map D.bl)
          rw [List.map_map, List.all_map] at e
          have g1 : ((fun d : D => D.bl (match d with | .bl b => b | _ => false)) ∘ D.bl) = D.bl := rfl
          have g2 : ((fun d : D => match d with | .bl b => b | _ => false) ∘ D.bl) = id := rfl
          rw [g1, g2, good_all ps (uni a b) hl hp2] at e
          exact e
        rw [hgm] at hc2
        generalize (List.zipWith good2 ps (uni a b)).map D.bl = L at hc2 hga
        simp [e1, hlen, e2, hc1, all_bl, ha, hc2, hga]
      · have ha : ps.all (tupB 2 2) = false := by
          cases hq : ps.all (tupB 2 2) with
          | false => rfl
          | true => exact absurd (List.all_eq_true.mp hq) hp2
        have hr : ruleB (uni a b) (.tup ps) = false := by
          show (ps.all rPair && decide (ps.map rKey = uni a b)) = false
          rw [all_ff hp2]; rfl
        simp [e1, hlen, e2, hc1, all_bl, ha, hr]
    | _ => simp [tupB] at ht
  · have ht' : tupB ((uni a b).length : Nat) ((uni a b).length : Nat) d = false := by simpa using ht
    rw [ht'] at e2
    have hr : ruleB (uni a b) d = false := by
      cases hq : ruleB (uni a b) d with
      | false => rfl
      | true =>
        exfalso
        cases d with
        | tup ps =>
          have hq' : (ps.all rPair && decide (ps.map rKey = uni a b)) = true := hq
          rw [Bool.and_eq_true] at hq'
          have := congrArg List.length (of_decide_eq_true hq'.2)
          rw [List.length_map] at this
          apply ht
          rw [tupB_tup, this]
          simp
        | _ => cases hq
    simp [e1, hlen, e2, hr]
theorem srt2' {d : D} : decide (srtI d = 2) = isIntB d := by
  cases h : isIntB d with
  | true => exact decide_eq_true (srt2.mpr h)
  | false => exact decide_eq_false fun q => by rw [srt2.mp q] at h; cases h
theorem lis_rule_spec {R S : Nat} {a b : Chs} (h : Pr R S a b) {n : Nat} (hn : n < 50) {d : D} (hd : D.pd n d = true) (μ : Store) : g__law_is_rule [chT a, chT b, d] μ = .ok (.bl (ruleB (uni a b) d)) μ := by
  have e1 := lvalues_spec h μ
  have ul := uni_len h
  have hno : (∀ ks vs, d ≠ .dt ks vs) := not_dt hd
  have hc1 : C__law_is_rule_1 [.fz (chT a), .fz (chT b), .fz d, .no, .no, .no] μ = .ok (.lst ((trs a b).map fun t => match t with | .tup (k :: _) => k | _ => .non)) μ :=
    ev_lcT _ (by simp [e1]) rfl (by rw [trs_len]; omega) fun t ht => by
      obtain ⟨v, _, rfl⟩ := List.mem_map.mp ht
      exact ⟨_, rfl, rfl⟩
  have hk : ((trs a b).map fun t => match t with | .tup (k :: _) => k | _ => .non) = (uni a b).map D.int := by
    unfold trs
    rw [List.map_map]; rfl
  rw [hk] at hc1
  have hlu : lenD [.lst ((uni a b).map D.int)] = some (.int ((uni a b).length : Nat)) := by
    show some (D.int (((uni a b).map D.int).length : Nat)) = _
    rw [List.length_map]
  unfold g__law_is_rule F__law_is_rule
  simp only [ev_body, ev_entry]
  show ((sSeq (sAsg 3 C__law_is_rule_1) (sSeq (sIf (bOr (bNot (bVal (xUn (isiD Ty.tuple) (xVar 2)))) (bOr (bVal (xBin neD (xCb lenD (lCons (xVar 2) lNil)) (xCb lenD (lCons (xVar 3) lNil)))) (bVal (xBin neD C__law_is_rule_2 (xLst lNil))))) (sRet (xC (.bl false))) sNext) (sSeq (sIf (bVal (xBin neD C__law_is_rule_3 (xLst lNil))) (sRet (xC (.bl false))) sNext) (sRet (xBin eqD C__law_is_rule_4 (xVar 3)))))) [.fz (chT a), .fz (chT b), .fz d, .no, .no, .no] μ).fin = _
  cases d with
  | tup ps =>
    have hisi : isiD Ty.tuple (.tup ps) = some (.bl true) := rfl
    have hlp : lenD [.tup ps] = some (.int (ps.length : Nat)) := rfl
    obtain ⟨n, rfl⟩ : ∃ m, n = m + 1 := ⟨n - 1, by
      cases n with
      | zero => simp [D.pd] at hd
      | succ n => omega⟩
    by_cases hl : ps.length = (uni a b).length
    · have hc2 : C__law_is_rule_2 [.fz (chT a), .fz (chT b), .fz (.tup ps), .fz (.lst ((uni a b).map D.int)), .no, .no] μ = .ok (.lst ((ps.filter fun p => !tupB 2 2 p).map id)) μ :=
        ev_lc (fun p => !tupB 2 2 p) id (by simp) rfl (by omega) fun p hp => by
          refine ⟨_, rfl, ?_, fun _ => rfl⟩
          have ew : (wipeE [.fz (chT a), .fz (chT b), .fz (.tup ps), .fz (.lst ((uni a b).map D.int)), .no, .no] [5]).set 5 (.fz p) = [.fz (chT a), .fz (chT b), .fz (.tup ps), .fz (.lst ((uni a b).map D.int)), .no, .fz p] := rfl
          rw [ew]
          have hpn := not_dt (pd_mem hd hp)
          cases p with
          | tup qs =>
            have i1 : isiD Ty.tuple (.tup qs) = some (.bl true) := rfl
            have l1 : lenD [.tup qs] = some (.int (qs.length : Nat)) := rfl
            by_cases h2 : ((qs.length : Nat) : Int) = 2
            · simp [i1, l1, tupB_tup, h2]
            · have : ¬ (2 ≤ ((qs.length : Nat) : Int) ∧ ((qs.length : Nat) : Int) ≤ 2) := by omega
              have h3 : (decide (2 ≤ ((qs.length : Nat) : Int)) && decide (((qs.length : Nat) : Int) ≤ 2)) = false := by
                rw [← Bool.decide_and]; exact decide_eq_false this
              rw [tupB_tup, h3]
              simp [i1, l1, h2]
          | dt ks vs => exact absurd rfl (hpn ks vs)
          | _ => simp [isiD, Ty.has, tupB]
      rw [List.map_id] at hc2
      have hne2 := ne_nil (n := n) (xs := ps.filter fun p => !tupB 2 2 p) (by omega) (List.all_eq_true.mpr fun p hp => pd_mem hd (List.mem_filter.mp hp).1)
      by_cases hp2 : ∀ p, p ∈ ps → tupB 2 2 p = true
      · have hf2 : (ps.filter fun p => !tupB 2 2 p) = [] := by
          rw [List.filter_eq_nil_iff]
          intro p hp
          simp [hp2 p hp]
        rw [hf2] at hc2 hne2
        have hc3 : C__law_is_rule_3 [.fz (chT a), .fz (chT b), .fz (.tup ps), .fz (.lst ((uni a b).map D.int)), .no, .no] μ = .ok (.lst ((ps.filter fun p => !rPair p).map id)) μ :=
          ev_lc (fun p => !rPair p) id (by simp) rfl (by omega) fun p hp => by
            refine ⟨_, rfl, ?_, fun _ => rfl⟩
            have ew : (wipeE [.fz (chT a), .fz (chT b), .fz (.tup ps), .fz (.lst ((uni a b).map D.int)), .no, .no] [5]).set 5 (.fz p) = [.fz (chT a), .fz (chT b), .fz (.tup ps), .fz (.lst ((uni a b).map D.int)), .no, .fz p] := rfl
            rw [ew]
            have hpp := pd_mem hd hp
            rcases pair_cases (hp2 p hp) with ⟨k, s, rfl⟩ | ⟨x, s, rfl, hx⟩
            · have x0 : ixS μ (.tup [.int k, s]) (.int 0) = some (.int k) := rfl
              have x1 : ixS μ (.tup [.int k, s]) (.int 1) = some s := rfl
              have f1 : g__law_sort [.int k] μ = .ok (.int 2) μ := sort_spec (.int k) rfl μ
              have f2 := lshare_spec (n := n) (by omega) (pd_two hpp).2 μ
              simp [x0, x1, f1, f2, rPair]
            · have x0 : ixS μ (.tup [x, s]) (.int 0) = some x := rfl
              have f1 := sort_spec x (pd_mono n 60 x (by omega) (pd_two hpp).1) μ
              have hs : srtI x ≠ 2 := fun z => by rw [srt2.mp z] at hx; cases hx
              simp [x0, f1, hs, rPair_no hx]
        rw [List.map_id] at hc3
        have hne3 := ne_nil (n := n) (xs := ps.filter fun p => !rPair p) (by omega) (List.all_eq_true.mpr fun p hp => pd_mem hd (List.mem_filter.mp hp).1)
        by_cases hr : ps.all rPair = true
        · have hf3 : (ps.filter fun p => !rPair p) = [] := by
            rw [List.filter_eq_nil_iff]
            intro p hp
            simp [List.all_eq_true.mp hr p hp]
          rw [hf3] at hc3 hne3
          have hc4 : C__law_is_rule_4 [.fz (chT a), .fz (chT b), .fz (.tup ps), .fz (.lst ((uni a b).map D.int)), .no, .no] μ = .ok (.lst (ps.map fun p => .int (rKey p))) μ :=
            ev_lcT _ (by simp) rfl (by omega) fun p hp => by
              refine ⟨_, rfl, ?_⟩
              have hq := List.all_eq_true.mp hr p hp
              unfold rPair at hq
              split at hq
              · rfl
              · cases hq
          have hm : (ps.map fun p => D.int (rKey p)) = (ps.map rKey).map D.int := by rw [List.map_map]; rfl
          rw [hm] at hc4
          have he := eq_ints (ps.map rKey) (uni a b)
          have hrb : ruleB (uni a b) (.tup ps) = decide (ps.map rKey = uni a b) := by
            show (ps.all rPair && decide (ps.map rKey = uni a b)) = _
            rw [hr]; rfl
          rw [hrb]
          generalize (ps.map rKey).map D.int = L at hc4 he
          generalize hB : decide (ps.map rKey = uni a b) = B at he
          simp [hc1, hisi, hlp, hlu, hl, hc2, hne2, hc3, hne3, hc4, he]
        · have hrb : ruleB (uni a b) (.tup ps) = false := by
            show (ps.all rPair && decide (ps.map rKey = uni a b)) = _
            rw [show ps.all rPair = false by simpa using hr]; rfl
          have hf3 : (ps.filter fun p => !rPair p) ≠ [] := by
            intro z
            rw [List.filter_eq_nil_iff] at z
            apply hr
            exact List.all_eq_true.mpr fun p hp => by simpa using z p hp
          generalize (ps.filter fun p => !rPair p) = L at hc3 hne3 hf3
          simp [hc1, hisi, hlp, hlu, hl, hc2, hne2, hc3, hne3, hf3, hrb]
      · have hrb : ruleB (uni a b) (.tup ps) = false := by
          show (ps.all rPair && decide (ps.map rKey = uni a b)) = false
          rw [all_ff hp2]; rfl
        have hf2 : (ps.filter fun p => !tupB 2 2 p) ≠ [] := by
          intro z
          rw [List.filter_eq_nil_iff] at z
          apply hp2
          intro p hp
          simpa using z p hp
        generalize (ps.filter fun p => !tupB 2 2 p) = L at hc2 hne2 hf2
        simp [hc1, hisi, hlp, hlu, hl, hc2, hne2, hf2, hrb]
    · have hrb : ruleB (uni a b) (.tup ps) = false := by
        show (ps.all rPair && decide (ps.map rKey = uni a b)) = false
        rw [decide_eq_false fun z => hl (by have := congrArg List.length z; rwa [List.length_map] at this), Bool.and_false]
      have hl' : ((ps.length : Nat) : Int) ≠ ((uni a b).length : Nat) := fun z => hl (by omega)
      simp [hc1, hisi, hlp, hlu, hl', hrb]
  | dt ks vs => exact absurd rfl (hno ks vs)
  | _ => simp [hc1, isiD, Ty.has, ruleB]
end K80
set_option Elab.async false
set_option linter.all false
set_option maxRecDepth 100000
set_option maxHeartbeats 4000000
namespace K80
open PySem DC
open FR (sumQ fr SzR Dv Few LowOk SumOk)
/-! ### the shares of rules -/
structure RuOk (N : Nat) (us : List Int) (ru : Chs) : Prop where
  keys : ru.map Prod.fst = us
  sh : ∀ c, c ∈ ru → 0 ≤ c.2 ∧ c.2 ≤ 1 ∧ Dv N c.2
  pos : 0 < N
  le : N ≤ 1000000000000
theorem share_fr {q : Rat} (h0 : 0 ≤ q) (h1 : q ≤ 1) : shareB (fr q) = true := by
  have h := (GtOk.num (R := q.den) ⟨h0, h1, ⟨q.num, (FR.divInt_fr q).symm⟩⟩)
  have hd := q.den_pos
  have hg : Int.gcd q.num ((q.den : Nat) : Int) = 1 := by
    have := q.reduced
    show Nat.gcd q.num.natAbs (((q.den : Nat) : Int)).natAbs = 1
    rw [Int.natAbs_natCast]
    exact this
  show (decide (1 ≤ ((q.den : Nat) : Int)) && (decide (0 ≤ q.num) && (decide (q.num ≤ ((q.den : Nat) : Int)) && decide (Int.gcd q.num ((q.den : Nat) : Int) = 1)))) = true
  rw [decide_eq_true (by omega), decide_eq_true h.1, decide_eq_true h.2, decide_eq_true hg]
  rfl
theorem ru_rule {N : Nat} {us : List Int} {ru : Chs} (h : RuOk N us ru) : ruleB us (chT ru) = true := by
  show ((ru.map chD).all rPair && decide ((ru.map chD).map rKey = us)) = true
  rw [List.map_map, List.all_map, Bool.and_eq_true]
  refine ⟨List.all_eq_true.mpr fun c hc => ?_, decide_eq_true h.keys⟩
  exact share_fr (h.sh c hc).1 (h.sh c hc).2.1
theorem chT_pd (c : Chs) : D.pd 4 (chT c) = true := by
  show (c.map chD).all (D.pd 3) = true
  rw [List.all_map]
  exact List.all_eq_true.mpr fun x _ => chD_pd x 0
theorem need_rule_spec {R S N : Nat} {a b ru : Chs} (h : Pr R S a b) (hr : RuOk N (uni a b) ru) (μ : Store) : g_need_rule [chT a, chT b, chT ru] μ = .ok .non μ := by
  have e1 := need_both_spec h μ
  have e2 := fits_rule_spec h (n := 4) (by decide) (chT_pd ru) μ
  rw [ru_rule hr] at e2
  unfold g_need_rule F_need_rule
  simp [e1, e2]
theorem is_rule_spec {R S : Nat} {a b : Chs} (h : Pr R S a b) {n : Nat} (hn : n < 50) {d : D} (hd : D.pd n d = true) (μ : Store) : g_is_rule [chT a, chT b, d] μ = .ok (.bl (ruleB (uni a b) d)) μ := by
  have e1 := need_both_spec h μ
  have e2 := fits_rule_spec h hn hd μ
  unfold g_is_rule F_is_rule
  simp [e1, e2]
theorem Dv.mul' {R S : Nat} (hR : 0 < R) (hS : 0 < S) {p q : Rat} (h1 : Dv R p) (h2 : Dv S q) : Dv (R * S) (p * q) := by
  obtain ⟨i, rfl⟩ := h1
  obtain ⟨j, rfl⟩ := h2
  refine ⟨i * j, ?_⟩
  rw [Rat.divInt_mul_divInt]
  congr 1
def fq (a ru : Chs) : Rat := sumQ (ru.map fun c => c.2 * gt a c.1)
theorem mul_le1 {p q : Rat} (h0 : 0 ≤ p) (h1 : p ≤ 1) (g0 : 0 ≤ q) (g1 : q ≤ 1) : 0 ≤ p * q ∧ p * q ≤ 1 := by
  refine ⟨Rat.mul_nonneg h0 g0, ?_⟩
  have := Rat.mul_le_mul_of_nonneg_left g1 h0
  grind
theorem few_fq {R N : Nat} {a ru : Chs} {us : List Int} (ha : ChOk R a) (hR : R ≤ 1000000) (hr : RuOk N us ru) : Few (N * R) 201 6 (ru.map fun c => c.2 * gt a c.1) where
  pos := Nat.mul_pos hr.pos ha.pos
  lt := by
    have h1 : N * R ≤ 1000000000000 * 1000000 := Nat.mul_le_mul hr.le hR
    have h2 : (1000000000000 * 1000000 : Nat) < 2 ^ 201 := by decide
    omega
  le := by decide
  dv := fun x hx => by
    obtain ⟨c, hc, rfl⟩ := List.mem_map.mp hx
    exact Dv.mul' hr.pos ha.pos (hr.sh c hc).2.2 (gt_ok ha c.1).dv
  nn := fun x hx => by
    obtain ⟨c, hc, rfl⟩ := List.mem_map.mp hx
    exact Rat.mul_nonneg (hr.sh c hc).1 (gt_ok ha c.1).nn
theorem fq_bd {R N : Nat} {a ru : Chs} {us : List Int} (ha : ChOk R a) (hr : RuOk N us ru) (hl : ru.length ≤ 60) : fq a ru ≤ ((2 ^ 6 : Nat) : Rat) := by
  have h1 := FR.sumQ_le_len (c := 1) (by decide) (a := ru.map fun c => c.2 * gt a c.1) fun x hx => by
    obtain ⟨c, hc, rfl⟩ := List.mem_map.mp hx
    have k := gt_ok ha c.1
    exact (mul_le1 (hr.sh c hc).1 (hr.sh c hc).2.1 k.nn k.le).2
  rw [List.length_map] at h1
  have h2 : ((ru.length : Nat) : Rat) ≤ ((60 : Nat) : Rat) := Rat.natCast_le_natCast.mpr hl
  have e2 : ((60 : Nat) : Rat) = 60 := rfl
  have e3 : ((2 ^ 6 : Nat) : Rat) = 64 := rfl
  rw [e2] at h2
  rw [e3]
  unfold fq
  grind
theorem ru_len {N : Nat} {us : List Int} {ru : Chs} (h : RuOk N us ru) : ru.length = us.length := by
  have := congrArg List.length h.keys
  rwa [List.length_map] at this
/-- the rows of a rule -/
def rowsD (a b ru : Chs) : List D := ru.map fun c => D.tup [chD c, tr c.1 (gt a c.1) (gt b c.1)]
theorem rows_zip (a b : Chs) : ∀ (ru : Chs), List.zipWith pairD (ru.map chD) ((ru.map Prod.fst).map fun v => tr v (gt a v) (gt b v)) = rowsD a b ru
  | [] => rfl
  | c :: ru => by
    show _ :: _ = _ :: _
    rw [rows_zip a b ru]
    rfl
theorem prod_spec {R N : Nat} {p q : Rat} (hp : 0 ≤ p ∧ p ≤ 1 ∧ Dv N p) (hN : 0 < N) (hN2 : N ≤ 1000000000000) (hq : GtOk R q) (hR : 0 < R) (hR2 : R ≤ 1000000) (μ : Store) :
    g_product_in [fr p, fr q] μ = .ok (fr (p * q)) μ ∧ g__law_times [fr p, fr q] μ = .ok (fr (p * q)) μ := by
  have h1 : SzR 4000 p := by
    have k := (GtOk.num (R := N) ⟨hp.1, hp.2.1, hp.2.2⟩)
    have d := hp.2.2.den hN
    have e : (2 : Nat) ^ 60 = 1152921504606846976 := by decide
    exact SzR.mono (m := 60) ⟨by show p.num.natAbs < 2 ^ 60; omega, by omega⟩ (by decide)
  have h2 : SzR 4000 q := (hq.sz hR hR2).mono (by decide)
  exact ⟨FR.mul_spec low_ok h1 h2 μ, FR.mul_spec least_ok h1 h2 μ⟩
def prF (j : Nat) : D → D
  | .tup [.tup [_, p], .tup [_, q1, q2]] => fr ((unq p).getD 0 * (unq (if j = 1 then q1 else q2)).getD 0)
  | _ => .non
theorem prF1 (a b : Chs) (c : Int × Rat) : prF 1 (D.tup [chD c, tr c.1 (gt a c.1) (gt b c.1)]) = fr (c.2 * gt a c.1) := by
  show fr ((unq (qo (some c.2))).getD 0 * (unq (qo (some (gt a c.1)))).getD 0) = _
  rw [unq_qo, unq_qo]; rfl
theorem prF2 (a b : Chs) (c : Int × Rat) : prF 2 (D.tup [chD c, tr c.1 (gt a c.1) (gt b c.1)]) = fr (c.2 * gt b c.1) := by
  show fr ((unq (qo (some c.2))).getD 0 * (unq (qo (some (gt b c.1)))).getD 0) = _
  rw [unq_qo, unq_qo]; rfl
theorem both_spec {R S N : Nat} {a b ru : Chs} (h : Pr R S a b) (hr : RuOk N (uni a b) ru) (μ : Store) : g_both_shares [chT a, chT b, chT ru] μ = .ok (.tup [fr (fq a ru), fr (fq b ru)]) μ := by
  have e1 := values_spec h μ
  have ul := uni_len h
  have hl := ru_len hr
  have hz : zipD [chT ru, .lst (trs a b)] = some (rowsD a b ru) := by
    show some (List.zipWith pairD (ru.map chD) ((uni a b).map fun v => tr v (gt a v) (gt b v))) = _
    rw [← hr.keys, rows_zip]
  have hrl : (rowsD a b ru).length = ru.length := by unfold rowsD; rw [List.length_map]
  have hc1 : C_both_shares_1 [.fz (chT a), .fz (chT b), .fz (chT ru), .fz (.lst (rowsD a b ru)), .no, .no, .no] μ = .ok (.lst ((rowsD a b ru).map (prF 1))) μ :=
    ev_lcT (prF 1) (by simp) rfl (by omega) fun x hx => by
      obtain ⟨c, hc, rfl⟩ := List.mem_map.mp hx
      refine ⟨_, rfl, ?_⟩
      rw [prF1]
      exact (prod_spec (hr.sh c hc) hr.pos hr.le (gt_ok h.oa c.1) h.oa.pos h.ra μ).1
  have hm1 : (rowsD a b ru).map (prF 1) = (ru.map fun c => c.2 * gt a c.1).map fr := by
    unfold rowsD
    rw [List.map_map, List.map_map]
    apply List.map_congr_left
    intro c _
    exact prF1 a b c
  rw [hm1] at hc1
  have s1 := over_spec (few_fq h.oa h.ra hr) (fq_bd h.oa hr (by omega)) μ
  have hc2 : C_both_shares_2 [.fz (chT a), .fz (chT b), .fz (chT ru), .fz (.lst (rowsD a b ru)), .fz (fr (fq a ru)), .no, .no] μ = .ok (.lst ((rowsD a b ru).map (prF 2))) μ :=
    ev_lcT (prF 2) (by simp) rfl (by omega) fun x hx => by
      obtain ⟨c, hc, rfl⟩ := List.mem_map.mp hx
      refine ⟨_, rfl, ?_⟩
      rw [prF2]
      exact (prod_spec (hr.sh c hc) hr.pos hr.le (gt_ok h.ob c.1) h.ob.pos h.sb μ).1
  have hm2 : (rowsD a b ru).map (prF 2) = (ru.map fun c => c.2 * gt b c.1).map fr := by
    unfold rowsD
    rw [List.map_map, List.map_map]
    apply List.map_congr_left
    intro c _
    exact prF2 a b c
  rw [hm2] at hc2
  have s2 := over_spec (few_fq h.ob h.sb hr) (fq_bd h.ob hr (by omega)) μ
  have s1' : g_sum_over [.lst ((ru.map fun c => c.2 * gt a c.1).map fr)] μ = .ok (fr (fq a ru)) μ := s1
  have s2' : g_sum_over [.lst ((ru.map fun c => c.2 * gt b c.1).map fr)] μ = .ok (fr (fq b ru)) μ := s2
  generalize (ru.map fun c => c.2 * gt a c.1).map fr = L1 at hc1 s1'
  generalize (ru.map fun c => c.2 * gt b c.1).map fr = L2 at hc2 s2'
  have hlz : xListZip (lCons (xVar 2) (lCons (xCall g_values_in (lCons (xVar 0) (lCons (xVar 1) lNil))) lNil)) [.fz (chT a), .fz (chT b), .fz (chT ru), .no, .no, .no, .no] μ = .ok (.lst (rowsD a b ru)) μ := by
    unfold xListZip
    simp [e1, hz]
  unfold g_both_shares F_both_shares
  simp only [ev_body, ev_entry]
  show ((sSeq (sAsg 3 (xListZip (lCons (xVar 2) (lCons (xCall g_values_in (lCons (xVar 0) (lCons (xVar 1) lNil))) lNil)))) (sSeq (sAsg 4 (xCall g_sum_over (lCons C_both_shares_1 lNil))) (sRet (xTup (lCons (xVar 4) (lCons (xCall g_sum_over (lCons C_both_shares_2 lNil)) lNil)))))) [.fz (chT a), .fz (chT b), .fz (chT ru), .no, .no, .no, .no] μ).fin = _
  simp [hlz, hc1, s1', hc2, s2']
theorem false_share_spec {R S N : Nat} {a b ru : Chs} (h : Pr R S a b) (hr : RuOk N (uni a b) ru) (μ : Store) : g_false_share [chT a, chT b, chT ru] μ = .ok (fr (fq a ru)) μ := by
  have e1 := need_rule_spec h hr μ
  have e2 := both_spec h hr μ
  have x0 : ixS μ (.tup [fr (fq a ru), fr (fq b ru)]) (.int 0) = some (fr (fq a ru)) := rfl
  unfold g_false_share F_false_share
  simp [e1, e2, x0]
theorem power_spec {R S N : Nat} {a b ru : Chs} (h : Pr R S a b) (hr : RuOk N (uni a b) ru) (μ : Store) : g_power_of_rule [chT a, chT b, chT ru] μ = .ok (fr (fq b ru)) μ := by
  have e1 := need_rule_spec h hr μ
  have e2 := both_spec h hr μ
  have x1 : ixS μ (.tup [fr (fq a ru), fr (fq b ru)]) (.int 1) = some (fr (fq b ru)) := rfl
  unfold g_power_of_rule F_power_of_rule
  simp [e1, e2, x1]
/-! the law's own -/
theorem part_sz {M : Nat} (hM : 0 < M) (hM2 : M ≤ 1000000000000 * 1000000) {x : Rat} (h : Dv M x) (h0 : 0 ≤ x) (h1 : x ≤ ((2 ^ 6 : Nat) : Rat)) : SzR 4000 x :=
  (Dv.sz (n := 201) (m := 6) hM (by have h2 : (1000000000000 * 1000000 : Nat) < 2 ^ 201 := by decide
                                    omega) h h0 h1).mono (by decide)
theorem shares_loop {R S N : Nat} {a b : Chs} (h : Pr R S a b) {us : List Int} {s0 s1 s2 : Sl} {μ : Store} : ∀ (ru : Chs) (x y : Rat) (s5 s6 s7 s8 s9 : Sl), RuOk N us ru →
    Dv (N * R) x → 0 ≤ x → x + fq a ru ≤ ((2 ^ 6 : Nat) : Rat) → Dv (N * S) y → 0 ≤ y → y + fq b ru ≤ ((2 ^ 6 : Nat) : Rat) →
    ∃ t5 t6 t7 t8 t9, sForL (gT (gC (gT (gC (gN 5) (gC (gN 6) gE))) (gC (gT (gC (gN 7) (gC (gN 8) (gC (gN 9) gE)))) gE))) L__law_shares_1 (rowsD a b ru) [s0, s1, s2, .fz (fr x), .fz (fr y), s5, s6, s7, s8, s9] μ =
      .nx [s0, s1, s2, .fz (fr (x + fq a ru)), .fz (fr (y + fq b ru)), t5, t6, t7, t8, t9] μ
  | [], x, y, s5, s6, s7, s8, s9, _, _, _, _, _, _, _ => by
    refine ⟨s5, s6, s7, s8, s9, ?_⟩
    have e1 : x + fq a [] = x := Rat.add_zero x
    have e2 : y + fq b [] = y := Rat.add_zero y
    rw [e1, e2]
    rfl
  | c :: ru, x, y, s5, s6, s7, s8, s9, hr, dx, x0, x1, dy, y0, y1 => by
    have hr' : RuOk N (us.drop 1) ru := ⟨by rw [← hr.keys]; rfl, fun c' hc' => hr.sh c' (List.mem_cons_of_mem _ hc'), hr.pos, hr.le⟩
    have hc := hr.sh c (by simp)
    have ea : fq a (c :: ru) = c.2 * gt a c.1 + fq a ru := rfl
    have eb : fq b (c :: ru) = c.2 * gt b c.1 + fq b ru := rfl
    have ga := gt_ok h.oa c.1
    have gb := gt_ok h.ob c.1
    have pa := mul_le1 hc.1 hc.2.1 ga.nn ga.le
    have pb := mul_le1 hc.1 hc.2.1 gb.nn gb.le
    have na : 0 ≤ fq a ru := FR.sumQ_nn fun q hq => by
      obtain ⟨c', hc', rfl⟩ := List.mem_map.mp hq
      exact Rat.mul_nonneg (hr'.sh c' hc').1 (gt_ok h.oa c'.1).nn
    have nb : 0 ≤ fq b ru := FR.sumQ_nn fun q hq => by
      obtain ⟨c', hc', rfl⟩ := List.mem_map.mp hq
      exact Rat.mul_nonneg (hr'.sh c' hc').1 (gt_ok h.ob c'.1).nn
    rw [ea] at x1
    rw [eb] at y1
    have d1 : Dv (N * R) (c.2 * gt a c.1) := Dv.mul' hr.pos h.oa.pos hc.2.2 ga.dv
    have d2 : Dv (N * S) (c.2 * gt b c.1) := Dv.mul' hr.pos h.ob.pos hc.2.2 gb.dv
    have mr : 0 < N * R := Nat.mul_pos hr.pos h.oa.pos
    have ms : 0 < N * S := Nat.mul_pos hr.pos h.ob.pos
    have lr : N * R ≤ 1000000000000 * 1000000 := Nat.mul_le_mul hr.le h.ra
    have ls : N * S ≤ 1000000000000 * 1000000 := Nat.mul_le_mul hr.le h.sb
    have t1 := (prod_spec hc hr.pos hr.le ga h.oa.pos h.ra μ).2
    have t2 := (prod_spec hc hr.pos hr.le gb h.ob.pos h.sb μ).2
    have p1 := plus_ok x (c.2 * gt a c.1) μ (part_sz mr lr dx x0 (by grind)) (part_sz mr lr d1 pa.1 (by grind))
    have p2 := plus_ok y (c.2 * gt b c.1) μ (part_sz ms ls dy y0 (by grind)) (part_sz ms ls d2 pb.1 (by grind))
    obtain ⟨t5, t6, t7, t8, t9, e⟩ := shares_loop h ru (x + c.2 * gt a c.1) (y + c.2 * gt b c.1) (.fz (.int c.1)) (.fz (fr c.2)) (.fz (.int c.1)) (.fz (fr (gt a c.1))) (.fz (fr (gt b c.1))) hr' (Dv.add mr dx d1) (by grind) (by grind) (Dv.add ms dy d2) (by grind) (by grind)
    refine ⟨t5, t6, t7, t8, t9, ?_⟩
    have er : rowsD a b (c :: ru) = D.tup [chD c, tr c.1 (gt a c.1) (gt b c.1)] :: rowsD a b ru := rfl
    rw [er, forL_cons (ρ1 := [s0, s1, s2, .fz (fr x), .fz (fr y), .fz (.int c.1), .fz (fr c.2), .fz (.int c.1), .fz (fr (gt a c.1)), .fz (fr (gt b c.1))]) (ρ2 := [s0, s1, s2, .fz (fr (x + c.2 * gt a c.1)), .fz (fr (y + c.2 * gt b c.1)), .fz (.int c.1), .fz (fr c.2), .fz (.int c.1), .fz (fr (gt a c.1)), .fz (fr (gt b c.1))]) (μ2 := μ) rfl (by simp [t1, t2, p1, p2]), e, ea, eb]
    rw [show x + c.2 * gt a c.1 + fq a ru = x + (c.2 * gt a c.1 + fq a ru) by grind, show y + c.2 * gt b c.1 + fq b ru = y + (c.2 * gt b c.1 + fq b ru) by grind]
theorem lshares_spec {R S N : Nat} {a b ru : Chs} (h : Pr R S a b) (hr : RuOk N (uni a b) ru) (μ : Store) : g__law_shares [chT a, chT b, chT ru] μ = .ok (.tup [fr (fq a ru), fr (fq b ru)]) μ := by
  have e1 := lvalues_spec h μ
  have ul := uni_len h
  have hl := ru_len hr
  have hz : (wZipA (lCons (xVar 2) (lCons (xCall g__law_values (lCons (xVar 0) (lCons (xVar 1) lNil))) lNil))) [.fz (chT a), .fz (chT b), .fz (chT ru), .fz (fr 0), .fz (fr 0), .no, .no, .no, .no, .no] μ = .ok (rowsD a b ru) μ := by
    have hz' : List.zipWith pairD (ru.map chD) (trs a b) = rowsD a b ru := by
      unfold trs
      rw [← hr.keys, rows_zip]
    unfold wZipA
    simp [e1]
    show Res.ok (List.zipWith pairD (ru.map chD) (trs a b)) μ = _
    rw [hz']
  have f1 := fq_bd h.oa hr (by omega)
  have f2 := fq_bd h.ob hr (by omega)
  obtain ⟨t5, t6, t7, t8, t9, e⟩ := shares_loop (s0 := .fz (chT a)) (s1 := .fz (chT b)) (s2 := .fz (chT ru)) (μ := μ) h ru 0 0 .no .no .no .no .no hr (Dv.zero _) (by decide) (by rw [Rat.zero_add]; exact f1) (Dv.zero _) (by decide) (by rw [Rat.zero_add]; exact f2)
  rw [Rat.zero_add, Rat.zero_add] at e
  unfold g__law_shares F__law_shares
  simp only [ev_body, ev_entry]
  show ((sSeq (sPar [3, 4] (mVal (xTup (lCons (xC (.int 0)) (lCons (xC (.int 1)) lNil))) (mVal (xTup (lCons (xC (.int 0)) (lCons (xC (.int 1)) lNil))) mNil))) (sSeq (sFor (wZipA (lCons (xVar 2) (lCons (xCall g__law_values (lCons (xVar 0) (lCons (xVar 1) lNil))) lNil))) (gT (gC (gT (gC (gN 5) (gC (gN 6) gE))) (gC (gT (gC (gN 7) (gC (gN 8) (gC (gN 9) gE)))) gE))) L__law_shares_1) (sRet (xTup (lCons (xVar 3) (lCons (xVar 4) lNil)))))) [.fz (chT a), .fz (chT b), .fz (chT ru), .no, .no, .no, .no, .no, .no, .no] μ).fin = _
  have st1 : (sPar [3, 4] (mVal (xTup (lCons (xC (.int 0)) (lCons (xC (.int 1)) lNil))) (mVal (xTup (lCons (xC (.int 0)) (lCons (xC (.int 1)) lNil))) mNil))) [.fz (chT a), .fz (chT b), .fz (chT ru), .no, .no, .no, .no, .no, .no, .no] μ = .nx [.fz (chT a), .fz (chT b), .fz (chT ru), .fz (fr 0), .fz (fr 0), .no, .no, .no, .no, .no] μ := rfl
  rw [ev_seq, st1, seq_nx, ev_seq, ev_for, hz, ev_st_ok, e, seq_nx]
  simp
end K80
set_option Elab.async false
set_option linter.all false
set_option maxRecDepth 100000
set_option maxHeartbeats 4000000
namespace K80
open PySem DC
open FR (sumQ fr SzR Dv Few LowOk SumOk)
/-! ### random chances -/
theorem roll_n {μ : Store} {k : Int} (hc : CupOk μ) (h0 : 0 < k) (h1 : k < 1000000) : ∃ v μ', g__law_roll [.own 0, .int k] μ = .ok (.int v) μ' ∧ CupOk μ' ∧ 0 ≤ v ∧ v < k := roll_spec hc h0 h1
theorem dvI_pos {a b : Int} (ha : 0 < a) (hb : 0 < b) : 0 < Rat.divInt a b := by
  have h0 : (0 : Rat) < (b : Rat) := Rat.intCast_pos.mpr hb
  rw [Rat.divInt_eq_div]
  exact (Rat.lt_div_iff h0).mpr (by rw [Rat.zero_mul]; exact Rat.intCast_pos.mpr ha)
theorem dvI_le1 {a b : Int} (hb : 0 < b) (h : a ≤ b) : Rat.divInt a b ≤ 1 := by
  have h0 : (0 : Rat) < (b : Rat) := Rat.intCast_pos.mpr hb
  rw [Rat.divInt_eq_div]
  refine Rat.not_lt.mp fun z => ?_
  have := (Rat.lt_div_iff h0).mp z
  rw [Rat.one_mul] at this
  have := Rat.intCast_lt_intCast.mp this
  omega
theorem chance_spec {μ : Store} (hc : CupOk μ) : ∃ q μ', g__law_chance [.own 0] μ = .ok (fr q) μ' ∧ CupOk μ' ∧ 0 ≤ q ∧ q ≤ 1 ∧ Dv 5354228880 q := by
  obtain ⟨v, μ1, e1, c1, v0, v1⟩ := roll_n (k := 24) hc (by decide) (by decide)
  obtain ⟨w, μ2, e2, c2, w0, w1⟩ := roll_n (k := 1 + v + 1) c1 (by omega) (by omega)
  have hb : 0 < 1 + v := by omega
  have e3 := least_of (a := w) (b := 1 + v) hb (by omega) μ2
  refine ⟨Rat.divInt w (1 + v), μ2, ?_, c2, ?_, ?_, ?_⟩
  · unfold g__law_chance F__law_chance
    simp [e1, e2, e3]
  · exact Rat.divInt_nonneg w0 (by omega)
  · exact dvI_le1 hb (by omega)
  · have hd : ∃ m : Int, (5354228880 : Int) = (1 + v) * m := by
      have hv : v = 0 ∨ v = 1 ∨ v = 2 ∨ v = 3 ∨ v = 4 ∨ v = 5 ∨ v = 6 ∨ v = 7 ∨ v = 8 ∨ v = 9 ∨ v = 10 ∨ v = 11 ∨ v = 12 ∨ v = 13 ∨ v = 14 ∨ v = 15 ∨ v = 16 ∨ v = 17 ∨ v = 18 ∨ v = 19 ∨ v = 20 ∨ v = 21 ∨ v = 22 ∨ v = 23 := by omega
      refine ⟨5354228880 / (1 + v), ?_⟩
      rcases hv with h | h | h | h | h | h | h | h | h | h | h | h | h | h | h | h | h | h | h | h | h | h | h | h <;> subst h <;> decide
    obtain ⟨m, hm⟩ := hd
    refine ⟨w * m, ?_⟩
    rw [show ((5354228880 : Nat) : Int) = (1 + v) * m from hm]
    have hm0 : m ≠ 0 := fun z => by subst z; simp at hm
    exact (Rat.divInt_mul_right hm0).symm
/-- a sum of parts of one whole -/
theorem sumQ_parts (w : Int) : ∀ l : List Int, sumQ (l.map fun s => Rat.divInt s w) = Rat.divInt l.sum w
  | [] => by rw [List.map_nil, List.sum_nil, Rat.zero_divInt]; rfl
  | s :: l => by
    show Rat.divInt s w + sumQ (l.map fun s => Rat.divInt s w) = _
    rw [sumQ_parts w l, List.sum_cons]
    rw [Rat.divInt_eq_div, Rat.divInt_eq_div, Rat.divInt_eq_div, Rat.intCast_add, Rat.div_def, Rat.div_def, Rat.div_def]
    grind
theorem sum_pos : ∀ {l : List Int}, (∀ s, s ∈ l → 1 ≤ s) → (l.length : Int) ≤ l.sum
  | [], _ => by simp
  | s :: l, h => by
    have := sum_pos (l := l) fun x hx => h x (List.mem_cons_of_mem _ hx)
    have := h s (by simp)
    rw [List.sum_cons, List.length_cons]
    omega
theorem sum_nn : ∀ {l : List Int}, (∀ s, s ∈ l → 0 ≤ s) → 0 ≤ l.sum
  | [], _ => by simp
  | s :: l, h => by
    have := sum_nn (l := l) fun x hx => h x (List.mem_cons_of_mem _ hx)
    have := h s (by simp)
    rw [List.sum_cons]
    omega
theorem sum_le : ∀ {l : List Int} {k : Int}, (∀ s, s ∈ l → s ≤ k) → l.sum ≤ k * (l.length : Int)
  | [], _, _ => by simp
  | s :: l, k, h => by
    have := sum_le (l := l) (k := k) fun x hx => h x (List.mem_cons_of_mem _ hx)
    have := h s (by simp)
    rw [List.sum_cons, List.length_cons]
    have e : k * ((l.length + 1 : Nat) : Int) = k * (l.length : Int) + k := by rw [Int.natCast_add, Int.mul_add]; simp
    omega
theorem mem_le_sum : ∀ {l : List Int}, (∀ s, s ∈ l → 0 ≤ s) → ∀ s, s ∈ l → s ≤ l.sum
  | [], _, s, hs => by cases hs
  | x :: l, h, s, hs => by
    have h' := fun y (hy : y ∈ l) => h y (List.mem_cons_of_mem _ hy)
    rw [List.sum_cons]
    rcases List.mem_cons.mp hs with rfl | hs
    · have := sum_nn h'; omega
    · have := mem_le_sum h' s hs
      have := h x (by simp)
      omega
/-- pairs of values that rise and of parts of a whole are chances -/
theorem parts_ok {c : Chs} {shs : List Int} {w : Int} (hw : w = shs.sum) (h0 : 0 < w) (hw2 : w ≤ 1000000) (hs : c.map Prod.snd = shs.map fun s => Rat.divInt s w) (h1 : ∀ s, s ∈ shs → 1 ≤ s) (ha : (c.map Prod.fst).Pairwise (· < ·))
    (hk : ∀ x, x ∈ c → -1000000 ≤ x.1 ∧ x.1 ≤ 1000000) (hl : c.length ≤ 40) : ChOk w.toNat c where
  pos := by omega
  lt := by omega
  len0 := by
    cases c with
    | nil =>
      exfalso
      cases shs with
      | nil => subst hw; simp at h0
      | cons s l => simp at hs
    | cons x r => simp
  len := hl
  asc := ha
  key := hk
  ch := fun x hx => by
    have hm : x.2 ∈ c.map Prod.snd := List.mem_map_of_mem hx
    rw [hs] at hm
    obtain ⟨s, hs', e⟩ := List.mem_map.mp hm
    have s1 := h1 s hs'
    have s2 := mem_le_sum (fun y hy => by have := h1 y hy; omega) s hs'
    rw [← hw] at s2
    have hp : (0 : Rat) < (w : Rat) := Rat.intCast_pos.mpr h0
    rw [← e]
    refine ⟨?_, ?_, ⟨s, ?_⟩⟩
    · exact dvI_pos (by omega) h0
    · exact dvI_le1 h0 s2
    · rw [Int.toNat_of_nonneg (by omega)]
  one := by
    rw [hs, sumQ_parts, ← hw, Rat.divInt_self' (by omega)]
theorem frzE_ow {ρ : DC.Env} {i : Nat} {d : D} (h : ρ[i]? = some (.ow d)) : frzE ρ i = ρ.set i (.fz d) := by unfold frzE; rw [h]
theorem chances_spec {μ : Store} {most : Nat} (hc : CupOk μ) (h0 : 1 ≤ most) (h1 : most ≤ 20) : ∃ (c : Chs) (R : Nat) (μ' : Store), g__law_chances [.own 0, .int (most : Nat)] μ = .ok (chT c) μ' ∧ CupOk μ' ∧ ChOk R c ∧ R ≤ 120 ∧ c.length ≤ most ∧ (∀ x, x ∈ c → -3 < x.1 ∧ x.1 ≤ 60) := by
  obtain ⟨m, μ1, e1, c1, m0, m1⟩ := roll_n (k := (most : Nat)) hc (by omega) (by omega)
  obtain ⟨n, hn⟩ : ∃ n : Nat, 1 + m = (n : Int) := ⟨(1 + m).toNat, by omega⟩
  have hn1 : 1 ≤ n := by omega
  have hn2 : n ≤ most := by omega
  have g1 : (iRg1 (lCons (xVar 2) lNil)) [.fz (.own 0), .fz (.int (most : Nat)), .fz (.int (n : Nat)), .ow (.lst []), .fz (.int (-3)), .ow (.lst []), .no, .no, .no] μ1 = .ok (rangeD 0 n) μ1 := by
    unfold iRg1
    simp [rgOk_int (i := (n : Nat)) (by omega) (by omega)]
  -- the shares
  obtain ⟨ρ2, μ2, l1, ⟨shs, s6, er, hsl, hss, c2⟩⟩ := forL_rel (ds := rangeD 0 n) (tg := gN 6) (F := L__law_chances_1) (ρ := [.fz (.own 0), .fz (.int (most : Nat)), .fz (.int (n : Nat)), .ow (.lst []), .fz (.int (-3)), .ow (.lst []), .no, .no, .no]) (μ := μ1)
    (fun i ρ μ => ∃ (shs : List Int) (s6 : Sl), ρ = [.fz (.own 0), .fz (.int (most : Nat)), .fz (.int (n : Nat)), .ow (.lst (shs.map D.int)), .fz (.int (-3)), .ow (.lst []), s6, .no, .no] ∧ shs.length = i ∧ (∀ s, s ∈ shs → 1 ≤ s ∧ s ≤ 6) ∧ CupOk μ)
    ⟨[], .no, rfl, rfl, (fun s hs => by cases hs), c1⟩ (by
      rintro i d ρ μ hd ⟨shs, s6, rfl, hl, hs, hc⟩
      obtain ⟨hi, _⟩ := rangeD_at hd
      obtain ⟨v, μ', e, c', v0, v1⟩ := roll_n (k := 6) hc (by decide) (by decide)
      refine ⟨[.fz (.own 0), .fz (.int (most : Nat)), .fz (.int (n : Nat)), .ow (.lst (shs.map D.int)), .fz (.int (-3)), .ow (.lst []), .fz d, .no, .no], [.fz (.own 0), .fz (.int (most : Nat)), .fz (.int (n : Nat)), .ow (.lst ((shs ++ [1 + v]).map D.int)), .fz (.int (-3)), .ow (.lst []), .fz d, .no, .no], μ', rfl, ?_, shs ++ [1 + v], .fz d, rfl, by simp [hl], fun s hs' => ?_, c'⟩
      · show sApp 3 _ _ _ = _
        rw [ev_app (ds := shs.map D.int) (d := .int (1 + v)) (μ' := μ') rfl (by simp [e]) (by simp; omega)]
        simp
      · rcases List.mem_append.mp hs' with h | h
        · exact hs s h
        · simp at h; omega)
  rw [rangeD_len] at hsl
  subst er
  -- the pairs
  have hw1 := sum_pos fun s hs => (hss s hs).1
  have hw2 := sum_le (k := 6) fun s hs => (hss s hs).2
  rw [hsl] at hw1 hw2
  have hw3 : shs.sum ≤ 120 := by
    have : (6 : Int) * (n : Int) ≤ 120 := by omega
    omega
  obtain ⟨ρ3, μ3, l2, ⟨c, v, s8, er3, hcs, hca, hck, hv1, hv2, c3⟩⟩ := forL_rel (ds := shs.map D.int) (tg := gN 8) (F := L__law_chances_2) (ρ := [.fz (.own 0), .fz (.int (most : Nat)), .fz (.int (n : Nat)), .fz (.lst (shs.map D.int)), .fz (.int (-3)), .ow (.lst []), s6, .fz (.int shs.sum), .no]) (μ := μ2)
    (fun i ρ μ => ∃ (c : Chs) (v : Int) (s8 : Sl), ρ = [.fz (.own 0), .fz (.int (most : Nat)), .fz (.int (n : Nat)), .fz (.lst (shs.map D.int)), .fz (.int v), .ow (.lst (c.map chD)), s6, .fz (.int shs.sum), s8] ∧ c.map Prod.snd = (shs.take i).map (fun s => Rat.divInt s shs.sum) ∧
      (c.map Prod.fst).Pairwise (· < ·) ∧ (∀ x, x ∈ c → -3 < x.1 ∧ x.1 ≤ v) ∧ -3 ≤ v ∧ v ≤ -3 + 3 * (i : Int) ∧ CupOk μ)
    ⟨[], -3, .no, rfl, rfl, List.Pairwise.nil, (fun x hx => by cases hx), by decide, by simp, c2⟩ (by
      rintro i d ρ μ hd ⟨c, v, s8, rfl, hs, ha, hk, hv, hv2, hc⟩
      rw [List.getElem?_map] at hd
      obtain ⟨s, hs1, rfl⟩ := Option.map_eq_some_iff.mp hd
      have hi : i < shs.length := (List.getElem?_eq_some_iff.mp hs1).1
      have hcl : c.length = i := by
        have := congrArg List.length hs
        rw [List.length_map, List.length_map, List.length_take] at this
        omega
      obtain ⟨r, μ', e, c', r0, r1⟩ := roll_n (k := 3) hc (by decide) (by decide)
      have el := least_of (a := s) (b := shs.sum) (by omega) (by omega) μ'
      have ht : (shs.take (i + 1)) = shs.take i ++ [s] := by rw [List.take_add_one, hs1]; rfl
      refine ⟨[.fz (.own 0), .fz (.int (most : Nat)), .fz (.int (n : Nat)), .fz (.lst (shs.map D.int)), .fz (.int v), .ow (.lst (c.map chD)), s6, .fz (.int shs.sum), .fz (.int s)], [.fz (.own 0), .fz (.int (most : Nat)), .fz (.int (n : Nat)), .fz (.lst (shs.map D.int)), .fz (.int (v + 1 + r)), .ow (.lst ((c ++ [(v + 1 + r, Rat.divInt s shs.sum)]).map chD)), s6, .fz (.int shs.sum), .fz (.int s)], μ', rfl, ?_, c ++ [(v + 1 + r, Rat.divInt s shs.sum)], v + 1 + r, .fz (.int s), rfl, ?_, ?_, ?_, by omega, by omega, c'⟩
      · show sSeq _ _ _ _ = _
        rw [ev_seq]
        have st : (sAsg 4 (xBin addD (xBin addD (xVar 4) (xC (.int 1))) (xCall g__law_roll (lCons (xVar 0) (lCons (xC (.int 3)) lNil))))) [.fz (.own 0), .fz (.int (most : Nat)), .fz (.int (n : Nat)), .fz (.lst (shs.map D.int)), .fz (.int v), .ow (.lst (c.map chD)), s6, .fz (.int shs.sum), .fz (.int s)] μ = .nx [.fz (.own 0), .fz (.int (most : Nat)), .fz (.int (n : Nat)), .fz (.lst (shs.map D.int)), .fz (.int (v + 1 + r)), .ow (.lst (c.map chD)), s6, .fz (.int shs.sum), .fz (.int s)] μ' := by simp [e]
        rw [st, seq_nx, ev_app (ds := c.map chD) (d := chD (v + 1 + r, Rat.divInt s shs.sum)) (μ' := μ') rfl (by simp [el]; rfl) (by simp; omega)]
        simp
      · rw [List.map_append, hs, ht, List.map_append]; rfl
      · rw [List.map_append, List.pairwise_append]
        refine ⟨ha, List.pairwise_singleton _ _, fun x hx y hy => ?_⟩
        simp at hy
        obtain ⟨z, hz, rfl⟩ := List.mem_map.mp hx
        have := (hk z hz).2
        omega
      · intro x hx
        rcases List.mem_append.mp hx with h | h
        · have := hk x h; omega
        · simp at h; subst h; show -3 < v + 1 + r ∧ v + 1 + r ≤ v + 1 + r; omega)
  subst er3
  rw [List.length_map, hsl] at hcs hv2
  rw [List.take_of_length_le (by omega)] at hcs
  have hcl : c.length = n := by
    have := congrArg List.length hcs
    rw [List.length_map, List.length_map] at this
    omega
  have hok : ChOk shs.sum.toNat c := parts_ok rfl (by omega) (by omega) hcs (fun s hs => (hss s hs).1) hca (fun x hx => by have := hck x hx; omega) (by omega)
  refine ⟨c, shs.sum.toNat, μ3, ?_, c3, hok, by omega, by omega, fun x hx => by have := hck x hx; omega⟩
  unfold g__law_chances F__law_chances
  simp only [ev_body, ev_entry]
  show ((sSeq (sPar [2, 3, 4, 5] (mVal (xBin addD (xC (.int 1)) (xCall g__law_roll (lCons (xVar 0) (lCons (xVar 1) lNil)))) (mNew (xLst lNil) (mVal (xUn negD (xC (.int 3))) (mNew (xLst lNil) mNil)))))
    (sSeq (sFor (iRg1 (lCons (xVar 2) lNil)) (gN 6) L__law_chances_1)
    (sSeq (sFrz 3 (sAsg 7 (xCb sumA (lCons (xVar 3) lNil))))
    (sSeq (sFrz 3 (sFor (iSeq (xVar 3)) (gN 8) L__law_chances_2))
    (sFrz 5 (sRet (xCb tupleD (lCons (xVar 5) lNil)))))))) [.fz (.own 0), .fz (.int (most : Nat)), .no, .no, .no, .no, .no, .no, .no] μ).fin = _
  have st1 : (sPar [2, 3, 4, 5] (mVal (xBin addD (xC (.int 1)) (xCall g__law_roll (lCons (xVar 0) (lCons (xVar 1) lNil)))) (mNew (xLst lNil) (mVal (xUn negD (xC (.int 3))) (mNew (xLst lNil) mNil))))) [.fz (.own 0), .fz (.int (most : Nat)), .no, .no, .no, .no, .no, .no, .no] μ = .nx [.fz (.own 0), .fz (.int (most : Nat)), .fz (.int (n : Nat)), .ow (.lst []), .fz (.int (-3)), .ow (.lst []), .no, .no, .no] μ1 := by
    simp [e1, hn]
  rw [ev_seq, st1, seq_nx, ev_seq, ev_for, g1, ev_st_ok, l1, seq_nx, ev_seq, ev_frz]
  have st3 : (sAsg 7 (xCb sumA (lCons (xVar 3) lNil))) (frzE [.fz (.own 0), .fz (.int (most : Nat)), .fz (.int (n : Nat)), .ow (.lst (shs.map D.int)), .fz (.int (-3)), .ow (.lst []), s6, .no, .no] 3) μ2 = .nx [.fz (.own 0), .fz (.int (most : Nat)), .fz (.int (n : Nat)), .fz (.lst (shs.map D.int)), .fz (.int (-3)), .ow (.lst []), s6, .fz (.int shs.sum), .no] μ2 := by
    rw [frzE_ow (d := .lst (shs.map D.int)) rfl]
    simp [sumA_lst]
  rw [st3, seq_nx, ev_seq, ev_frz]
  have fz4 : frzE [.fz (.own 0), .fz (.int (most : Nat)), .fz (.int (n : Nat)), .fz (.lst (shs.map D.int)), .fz (.int (-3)), .ow (.lst []), s6, .fz (.int shs.sum), .no] 3 = [.fz (.own 0), .fz (.int (most : Nat)), .fz (.int (n : Nat)), .fz (.lst (shs.map D.int)), .fz (.int (-3)), .ow (.lst []), s6, .fz (.int shs.sum), .no] := rfl
  rw [fz4, ev_for]
  have it4 : (iSeq (xVar 3)) [.fz (.own 0), .fz (.int (most : Nat)), .fz (.int (n : Nat)), .fz (.lst (shs.map D.int)), .fz (.int (-3)), .ow (.lst []), s6, .fz (.int shs.sum), .no] μ2 = .ok (shs.map D.int) μ2 := rfl
  rw [it4, ev_st_ok, l2, seq_nx, ev_frz, frzE_ow (d := .lst (c.map chD)) rfl]
  rfl
end K80
set_option Elab.async false
set_option linter.all false
set_option maxRecDepth 100000
set_option maxHeartbeats 4000000
namespace K80
open PySem DC
open FR (sumQ fr SzR Dv Few LowOk SumOk)
/-! ### two random chances -/
theorem ev_bBor {ρ : DC.Env} {μ : Store} {i : Nat} {d : D} {f : XB} (h : ρ[i]? = some (.ow d)) : bBor i f ρ μ = f (ρ.set i (.fz d)) μ := by unfold bBor; rw [h]
theorem ev_ixO {ρ : DC.Env} {μ : Store} {i : Nat} {xs : List D} {f : XD} {k : Int} {x : D} (h : ρ[i]? = some (.ow (.lst xs))) (hf : f ρ μ = .ok (.int k) μ) (hx : L2.atI xs k = some x) : xIxO i f ρ μ = .ok x μ := by
  unfold xIxO
  rw [h]
  show (f ρ μ).bind _ = _
  rw [hf]
  show Res.ofO (L2.atI xs k) μ = _
  rw [hx]; rfl
theorem at_last (xs : List D) (x : D) : L2.atI (xs ++ [x]) (-1) = some x := by rw [L2.atI_last]
/-- weights below many -/
structure WtOk (n : Nat) (ws : List Int) : Prop where
  len : ws.length = n
  bd : ∀ w, w ∈ ws → 0 ≤ w ∧ w ≤ 43
theorem zip_wt : ∀ (a : Chs) (ws : List Int), List.zipWith pairD (a.map chD) (ws.map D.int) = (List.zip a ws).map fun x => D.tup [chD x.1, .int x.2]
  | [], _ => rfl
  | _ :: _, [] => rfl
  | c :: a, w :: ws => by
    show _ :: _ = _ :: _
    rw [zip_wt a ws]
    rfl
theorem zip_fst : ∀ (a : Chs) (ws : List Int), a.length = ws.length → (List.zip a ws).map (fun x => x.1.1) = a.map Prod.fst
  | [], [], _ => rfl
  | [], _ :: _, h => by cases h
  | _ :: _, [], h => by cases h
  | c :: a, w :: ws, h => by
    exact congrArg (c.1 :: ·) (zip_fst a ws (Nat.succ.inj h))
theorem zip_snd : ∀ (a : Chs) (ws : List Int), a.length = ws.length → (List.zip a ws).map (fun x => x.2) = ws
  | [], [], _ => rfl
  | [], _ :: _, h => by cases h
  | _ :: _, [], h => by cases h
  | c :: a, w :: ws, h => by
    exact congrArg (w :: ·) (zip_snd a ws (Nat.succ.inj h))
theorem sum_filter_pos : ∀ ws : List Int, (∀ w, w ∈ ws → 0 ≤ w) → (ws.filter fun w => decide (0 < w)).sum = ws.sum
  | [], _ => rfl
  | w :: ws, h => by
    have ih := sum_filter_pos ws fun x hx => h x (List.mem_cons_of_mem _ hx)
    have h0 := h w (by simp)
    by_cases hw : 0 < w
    · rw [List.filter_cons_of_pos (by simpa using hw), List.sum_cons, List.sum_cons, ih]
    · rw [List.filter_cons_of_neg (by simpa using hw), List.sum_cons, ih]
      omega
def wtCh (a : Chs) (ws : List Int) : Chs := ((List.zip a ws).filter fun x => decide (0 < x.2)).map fun x => (x.1.1, Rat.divInt x.2 ws.sum)
theorem wtCh_ok {R : Nat} {a : Chs} {ws : List Int} (ha : ChOk R a) (hk : ∀ x, x ∈ a → -3 < x.1 ∧ x.1 ≤ 60) (hl : a.length ≤ 20) (hw : WtOk a.length ws) (h0 : 0 < ws.sum) : ChOk ws.sum.toNat (wtCh a ws) ∧ ws.sum ≤ 900 ∧ (wtCh a ws).length ≤ a.length ∧ ∀ x, x ∈ wtCh a ws → -3 < x.1 ∧ x.1 ≤ 60 := by
  have hs := sum_le (k := 43) fun w hw' => (hw.bd w hw').2
  rw [hw.len] at hs
  have hs2 : ws.sum ≤ 900 := by have : (43 : Int) * ((a.length : Nat) : Int) ≤ 860 := by omega
                                omega
  have hkey : ∀ x, x ∈ wtCh a ws → -3 < x.1 ∧ x.1 ≤ 60 := fun x hx => by
    obtain ⟨y, hy, rfl⟩ := List.mem_map.mp hx
    exact hk y.1 (List.of_mem_zip (List.mem_filter.mp hy).1).1
  have hlen : (wtCh a ws).length ≤ a.length := by
    unfold wtCh
    rw [List.length_map]
    have h1 := List.length_filter_le (fun x : (Int × Rat) × Int => decide (0 < x.2)) (List.zip a ws)
    rw [List.length_zip] at h1
    omega
  refine ⟨parts_ok (shs := ws.filter fun w => decide (0 < w)) (sum_filter_pos ws fun w hw' => (hw.bd w hw').1).symm h0 (by omega) ?_ (fun s hs => by have := (List.mem_filter.mp hs).2; simp at this; omega) ?_ (fun x hx => by have := hkey x hx; omega) (by omega), hs2, hlen, hkey⟩
  · unfold wtCh
    have e : (ws.filter fun w => decide (0 < w)) = ((List.zip a ws).filter fun x => decide (0 < x.2)).map fun x => x.2 := by
      rw [← zip_snd a ws hw.len.symm, List.filter_map, zip_snd a ws hw.len.symm]
      rfl
    rw [e, List.map_map, List.map_map]
    rfl
  · unfold wtCh
    rw [List.map_map]
    have hsub : (((List.zip a ws).filter fun x => decide (0 < x.2)).map (Prod.fst ∘ fun x : (Int × Rat) × Int => (x.1.1, Rat.divInt x.2 ws.sum))).Sublist (a.map Prod.fst) := by
      have h1 : (((List.zip a ws).filter fun x => decide (0 < x.2)).map (Prod.fst ∘ fun x : (Int × Rat) × Int => (x.1.1, Rat.divInt x.2 ws.sum))).Sublist ((List.zip a ws).map fun x => x.1.1) := List.Sublist.map _ List.filter_sublist
      rw [zip_fst a ws hw.len.symm] at h1
      exact h1
    exact List.Pairwise.sublist hsub ha.asc
def wtF (w : Int) : D → D
  | .tup [.tup [v, _], .int k] => .tup [v, fr (Rat.divInt k w)]
  | _ => .non
def wtP : D → Bool
  | .tup [_, .int k] => decide (0 < k)
  | _ => false
/-- two chances, and how they stand -/
structure TwoOk (most : Nat) (a b : Chs) : Prop where
  pr : ∃ R S, Pr R S a b ∧ R ≤ 900 ∧ S ≤ 900
  la : a.length ≤ most
  lb : b.length ≤ most
  ka : ∀ x, x ∈ a → -3 < x.1 ∧ x.1 ≤ 60
  kb : ∀ x, x ∈ b → -3 < x.1 ∧ x.1 ≤ 60
theorem TwoOk.symm {most : Nat} {a b : Chs} (h : TwoOk most a b) : TwoOk most b a := by
  obtain ⟨R, S, p, r, s⟩ := h.pr
  exact ⟨⟨S, R, p.symm, s, r⟩, h.lb, h.la, h.kb, h.ka⟩
theorem two_spec {μ : Store} {most : Nat} (hc : CupOk μ) (h0 : 1 ≤ most) (h1 : most ≤ 20) : ∃ (a b : Chs) (μ' : Store), g__law_two [.own 0, .int (most : Nat)] μ = .ok (.tup [chT a, chT b]) μ' ∧ CupOk μ' ∧ TwoOk most a b := by
  obtain ⟨a, R, μ1, e1, c1, oa, ra, la, ka⟩ := chances_spec hc h0 h1
  obtain ⟨w, μ2, e2, c2, w0, w1⟩ := roll_n (k := 4) c1 (by decide) (by decide)
  obtain ⟨b, S, μ3, e3, c3, ob, sb, lb, kb⟩ := chances_spec c2 h0 h1
  -- the end
  have fin : ∀ (b : Chs) (S : Nat) (μ4 : Store) (s5 s6 s7 s8 s9 s10 : Sl), CupOk μ4 → ChOk S b → S ≤ 900 → b.length ≤ most → (∀ x, x ∈ b → -3 < x.1 ∧ x.1 ≤ 60) →
      ∃ (x y : Chs) (μ' : Store), ((sRet (xIf (bOr (bVal (xBin eqD (xCall g__law_roll (lCons (xVar 0) (lCons (xC (.int 2)) lNil))) (xC (.int 0)))) (bVal (xBin eqD (xVar 3) (xC (.int 3))))) (xTup (lCons (xVar 2) (lCons (xVar 4) lNil))) (xTup (lCons (xVar 4) (lCons (xVar 2) lNil))))) [.fz (.own 0), .fz (.int (most : Nat)), .fz (chT a), .fz (.int w), .fz (chT b), s5, s6, s7, s8, s9, s10] μ4).fin = .ok (.tup [chT x, chT y]) μ' ∧ CupOk μ' ∧ TwoOk most x y := by
    intro b S μ4 s5 s6 s7 s8 s9 s10 c4 ob sb lb kb
    obtain ⟨v, μ5, e5, c5, v0, v1⟩ := roll_n (k := 2) c4 (by decide) (by decide)
    have ok : TwoOk most a b := ⟨⟨R, S, ⟨oa, ob, by omega, by omega, by omega⟩, by omega, sb⟩, la, lb, ka, kb⟩
    by_cases hv : v = 0
    · exact ⟨a, b, μ5, by simp [e5, hv], c5, ok⟩
    · by_cases hw : w = 3
      · exact ⟨a, b, μ5, by simp [e5, hv, hw], c5, ok⟩
      · exact ⟨b, a, μ5, by simp [e5, hv, hw], c5, ok.symm⟩
  unfold g__law_two F__law_two
  simp only [ev_body, ev_entry]
  show ∃ (x y : Chs) (μ' : Store), ((sSeq (sPar [2, 3] (mVal (xCall g__law_chances (lCons (xVar 0) (lCons (xVar 1) lNil))) (mVal (xCall g__law_roll (lCons (xVar 0) (lCons (xC (.int 4)) lNil))) mNil)))
    (sSeq (sAsg 4 (xCall g__law_chances (lCons (xVar 0) (lCons (xVar 1) lNil))))
    (sSeq (sIf (bVal (xBin gtD (xVar 3) (xC (.int 1)))) (sSeq (sAsgF 5 (xLst lNil))
    (sSeq (sFor (iRg1 (lCons (xCb lenD (lCons (xVar 2) lNil)) lNil)) (gN 6) L__law_two_1)
    (sSeq (sFrz 5 (sAsg 5 (xIf (bVal (xBin gtD (xCb sumA (lCons (xVar 5) lNil)) (xC (.int 0)))) (xVar 5) (xBin repL (xLst (lCons (xC (.int 1)) lNil)) (xCb lenD (lCons (xVar 2) lNil))))))
    (sSeq (sFrz 5 (sAsg 7 (xCb sumA (lCons (xVar 5) lNil))))
    (sFrz 5 (sAsg 4 (xCb tupleD (lCons C__law_two_2 lNil)))))))) sNext)
    (sRet (xIf (bOr (bVal (xBin eqD (xCall g__law_roll (lCons (xVar 0) (lCons (xC (.int 2)) lNil))) (xC (.int 0)))) (bVal (xBin eqD (xVar 3) (xC (.int 3))))) (xTup (lCons (xVar 2) (lCons (xVar 4) lNil))) (xTup (lCons (xVar 4) (lCons (xVar 2) lNil)))))))) [.fz (.own 0), .fz (.int (most : Nat)), .no, .no, .no, .no, .no, .no, .no, .no, .no] μ).fin = .ok (.tup [chT x, chT y]) μ' ∧ CupOk μ' ∧ TwoOk most x y
  have st1 : (sPar [2, 3] (mVal (xCall g__law_chances (lCons (xVar 0) (lCons (xVar 1) lNil))) (mVal (xCall g__law_roll (lCons (xVar 0) (lCons (xC (.int 4)) lNil))) mNil))) [.fz (.own 0), .fz (.int (most : Nat)), .no, .no, .no, .no, .no, .no, .no, .no, .no] μ = .nx [.fz (.own 0), .fz (.int (most : Nat)), .fz (chT a), .fz (.int w), .no, .no, .no, .no, .no, .no, .no] μ2 := by
    simp [e1, e2]
  have st2 : (sAsg 4 (xCall g__law_chances (lCons (xVar 0) (lCons (xVar 1) lNil)))) [.fz (.own 0), .fz (.int (most : Nat)), .fz (chT a), .fz (.int w), .no, .no, .no, .no, .no, .no, .no] μ2 = .nx [.fz (.own 0), .fz (.int (most : Nat)), .fz (chT a), .fz (.int w), .fz (chT b), .no, .no, .no, .no, .no, .no] μ3 := by
    simp [e3]
  rw [ev_seq, st1, seq_nx, ev_seq, st2, seq_nx, ev_seq]
  by_cases hw : 1 < w
  · have hcond : (bVal (xBin gtD (xVar 3) (xC (.int 1)))) [.fz (.own 0), .fz (.int (most : Nat)), .fz (chT a), .fz (.int w), .fz (chT b), .no, .no, .no, .no, .no, .no] μ3 = .ok true μ3 := by simp [hw]
    rw [ev_sIf, hcond, ev_st_ok, if_pos rfl, ev_seq]
    have st3 : (sAsgF 5 (xLst lNil)) [.fz (.own 0), .fz (.int (most : Nat)), .fz (chT a), .fz (.int w), .fz (chT b), .no, .no, .no, .no, .no, .no] μ3 = .nx [.fz (.own 0), .fz (.int (most : Nat)), .fz (chT a), .fz (.int w), .fz (chT b), .ow (.lst []), .no, .no, .no, .no, .no] μ3 := rfl
    rw [st3, seq_nx, ev_seq, ev_for]
    have hla : lenD [chT a] = some (.int (a.length : Nat)) := by
      show some (D.int ((a.map chD).length : Nat)) = _
      rw [List.length_map]
    have g4 : (iRg1 (lCons (xCb lenD (lCons (xVar 2) lNil)) lNil)) [.fz (.own 0), .fz (.int (most : Nat)), .fz (chT a), .fz (.int w), .fz (chT b), .ow (.lst []), .no, .no, .no, .no, .no] μ3 = .ok (rangeD 0 a.length) μ3 := by
      unfold iRg1
      simp [hla, rgOk_int (i := (a.length : Nat)) (by omega) (by omega)]
    rw [g4, ev_st_ok]
    obtain ⟨ρ5, μ5, l5, ⟨ws, s6, er, hwl, hwb, c5⟩⟩ := forL_rel (ds := rangeD 0 a.length) (tg := gN 6) (F := L__law_two_1) (ρ := [.fz (.own 0), .fz (.int (most : Nat)), .fz (chT a), .fz (.int w), .fz (chT b), .ow (.lst []), .no, .no, .no, .no, .no]) (μ := μ3)
      (fun i ρ μ => ∃ (ws : List Int) (s6 : Sl), ρ = [.fz (.own 0), .fz (.int (most : Nat)), .fz (chT a), .fz (.int w), .fz (chT b), .ow (.lst (ws.map D.int)), s6, .no, .no, .no, .no] ∧ ws.length = i ∧ (∀ x, x ∈ ws → 0 ≤ x ∧ x ≤ 2 * (i : Int) + 3) ∧ CupOk μ)
      ⟨[], .no, rfl, rfl, (fun x hx => by cases hx), c3⟩ (by
        rintro i d ρ μ hd ⟨ws, s6, rfl, hl, hb, hc⟩
        obtain ⟨hi, _⟩ := rangeD_at hd
        by_cases h2 : w = 2
        · obtain ⟨v, μ', e, c', v0, v1⟩ := roll_n (k := 4) hc (by decide) (by decide)
          refine ⟨[.fz (.own 0), .fz (.int (most : Nat)), .fz (chT a), .fz (.int w), .fz (chT b), .ow (.lst (ws.map D.int)), .fz d, .no, .no, .no, .no], [.fz (.own 0), .fz (.int (most : Nat)), .fz (chT a), .fz (.int w), .fz (chT b), .ow (.lst ((ws ++ [v]).map D.int)), .fz d, .no, .no, .no, .no], μ', rfl, ?_, ws ++ [v], .fz d, rfl, by simp [hl], fun x hx => ?_, c'⟩
          · show sApp 5 _ _ _ = _
            rw [ev_app (ds := ws.map D.int) (d := .int v) (μ' := μ') rfl (by simp [h2, e]) (by simp; omega)]
            simp
          · rcases List.mem_append.mp hx with h | h
            · have := hb x h; omega
            · simp at h; subst h; omega
        · obtain ⟨v, μ', e, c', v0, v1⟩ := roll_n (k := 2) hc (by decide) (by decide)
          have hne := ne_nil (n := 1) (xs := ws.map D.int) (by decide) (pd_ints 0 ws)
          obtain ⟨p, hp, hpb⟩ : ∃ p : Int, xIf (bBor 5 (bVal (xBin neD (xVar 5) (xLst lNil)))) (xIxO 5 (xUn negD (xC (.int 1)))) (xC (.int 0)) [.fz (.own 0), .fz (.int (most : Nat)), .fz (chT a), .fz (.int w), .fz (chT b), .ow (.lst (ws.map D.int)), .fz d, .no, .no, .no, .no] μ = .ok (.int p) μ ∧ 0 ≤ p ∧ p ≤ 2 * (i : Int) + 3 := by
            have hbor : bBor 5 (bVal (xBin neD (xVar 5) (xLst lNil))) [.fz (.own 0), .fz (.int (most : Nat)), .fz (chT a), .fz (.int w), .fz (chT b), .ow (.lst (ws.map D.int)), .fz d, .no, .no, .no, .no] μ = .ok (decide (ws.map D.int ≠ [])) μ := by
              rw [ev_bBor (d := .lst (ws.map D.int)) rfl]
              generalize ws.map D.int = L at hne
              simp [hne]
            rcases List.eq_nil_or_concat ws with rfl | ⟨ws', x, rfl⟩
            · refine ⟨0, ?_, by omega, by omega⟩
              rw [ev_if, hbor]
              rfl
            · have hx := hb x (by simp)
              refine ⟨x, ?_, hx.1, hx.2⟩
              rw [ev_if, hbor]
              have : decide ((ws' ++ [x]).map D.int ≠ []) = true := by simp
              rw [List.concat_eq_append, this, ev_bind_ok, if_pos rfl]
              exact ev_ixO (xs := (ws' ++ [x]).map D.int) rfl rfl (by rw [List.map_append]; exact at_last _ _)
          refine ⟨[.fz (.own 0), .fz (.int (most : Nat)), .fz (chT a), .fz (.int w), .fz (chT b), .ow (.lst (ws.map D.int)), .fz d, .no, .no, .no, .no], [.fz (.own 0), .fz (.int (most : Nat)), .fz (chT a), .fz (.int w), .fz (chT b), .ow (.lst ((ws ++ [1 + p + v]).map D.int)), .fz d, .no, .no, .no, .no], μ', rfl, ?_, ws ++ [1 + p + v], .fz d, rfl, by simp [hl], fun x hx => ?_, c'⟩
          · show sApp 5 _ _ _ = _
            rw [ev_app (ds := ws.map D.int) (d := .int (1 + p + v)) (μ' := μ') rfl ?_ (by simp; omega)]
            · simp
            · generalize xIf (bBor 5 (bVal (xBin neD (xVar 5) (xLst lNil)))) (xIxO 5 (xUn negD (xC (.int 1)))) (xC (.int 0)) = P at hp
              simp [h2, hp, e]
          · rcases List.mem_append.mp hx with h | h
            · have := hb x h; omega
            · simp at h; subst h; omega)
    rw [rangeD_len] at hwl hwb
    subst er
    have fz5 : frzE [.fz (.own 0), .fz (.int (most : Nat)), .fz (chT a), .fz (.int w), .fz (chT b), .ow (.lst (ws.map D.int)), s6, .no, .no, .no, .no] 5 = [.fz (.own 0), .fz (.int (most : Nat)), .fz (chT a), .fz (.int w), .fz (chT b), .fz (.lst (ws.map D.int)), s6, .no, .no, .no, .no] := rfl
    rw [l5, seq_nx, ev_seq, ev_frz, fz5]
    have hw40 : WtOk a.length ws := ⟨hwl, fun x hx => by have := hwb x hx; omega⟩
    -- the weights that stand
    obtain ⟨vs, hv, hvs, st5⟩ : ∃ vs : List Int, WtOk a.length vs ∧ 0 < vs.sum ∧ (sAsg 5 (xIf (bVal (xBin gtD (xCb sumA (lCons (xVar 5) lNil)) (xC (.int 0)))) (xVar 5) (xBin repL (xLst (lCons (xC (.int 1)) lNil)) (xCb lenD (lCons (xVar 2) lNil))))) [.fz (.own 0), .fz (.int (most : Nat)), .fz (chT a), .fz (.int w), .fz (chT b), .fz (.lst (ws.map D.int)), s6, .no, .no, .no, .no] μ5 = .nx [.fz (.own 0), .fz (.int (most : Nat)), .fz (chT a), .fz (.int w), .fz (chT b), .fz (.lst (vs.map D.int)), s6, .no, .no, .no, .no] μ5 := by
      by_cases hs : 0 < ws.sum
      · exact ⟨ws, hw40, hs, by simp [sumA_lst, hs]⟩
      · have hrep : repL (.lst [.int 1]) (.int (a.length : Nat)) = some (.lst ((List.replicate a.length (1 : Int)).map D.int)) := by
          show (if Nat.blt ((a.length : Nat) : Int).natAbs 4611686018427387904 && Nat.ble ([D.int 1].length * ((a.length : Nat) : Int).toNat) 1000000 then some (D.lst (List.replicate ((a.length : Nat) : Int).toNat [D.int 1]).flatten) else none) = _
          rw [if_pos (by rw [Bool.and_eq_true]; exact ⟨Nat.ble_eq.mpr (by omega), Nat.ble_eq.mpr (by simp; omega)⟩)]
          rw [Int.toNat_natCast]
          simp
        have hsum : (List.replicate a.length (1 : Int)).sum = (a.length : Int) := by
          induction a.length with
          | zero => rfl
          | succ n ih => rw [List.replicate_succ, List.sum_cons, ih]; omega
        have h1a := oa.len0
        refine ⟨List.replicate a.length 1, ⟨by simp, fun x hx => by have := List.eq_of_mem_replicate hx; omega⟩, by omega, ?_⟩
        simp only [ev_asg, ev_if, ev_bVal, ev_bin, ev_cb, ev_lCons, ev_lNil, ev_var, ev_C, List.getElem?_cons_succ, List.getElem?_cons_zero, slV_fz, ev_bind_ok, sumA_lst, ev_ofO_some, ev_cmpI, hs, decide_false, ev_asB, Bool.false_eq_true, if_false, ev_lst, hla]
        show (Res.ofO (repL (.lst [.int 1]) (.int (a.length : Nat))) μ5).st _ _ = _
        rw [hrep]
        rfl
    rw [st5, seq_nx, ev_seq, ev_frz]
    have fz6 : frzE [.fz (.own 0), .fz (.int (most : Nat)), .fz (chT a), .fz (.int w), .fz (chT b), .fz (.lst (vs.map D.int)), s6, .no, .no, .no, .no] 5 = [.fz (.own 0), .fz (.int (most : Nat)), .fz (chT a), .fz (.int w), .fz (chT b), .fz (.lst (vs.map D.int)), s6, .no, .no, .no, .no] := rfl
    have st6 : (sAsg 7 (xCb sumA (lCons (xVar 5) lNil))) [.fz (.own 0), .fz (.int (most : Nat)), .fz (chT a), .fz (.int w), .fz (chT b), .fz (.lst (vs.map D.int)), s6, .no, .no, .no, .no] μ5 = .nx [.fz (.own 0), .fz (.int (most : Nat)), .fz (chT a), .fz (.int w), .fz (chT b), .fz (.lst (vs.map D.int)), s6, .fz (.int vs.sum), .no, .no, .no] μ5 := by simp [sumA_lst]
    rw [fz6, st6, seq_nx, ev_frz]
    have fz7 : frzE [.fz (.own 0), .fz (.int (most : Nat)), .fz (chT a), .fz (.int w), .fz (chT b), .fz (.lst (vs.map D.int)), s6, .fz (.int vs.sum), .no, .no, .no] 5 = [.fz (.own 0), .fz (.int (most : Nat)), .fz (chT a), .fz (.int w), .fz (chT b), .fz (.lst (vs.map D.int)), s6, .fz (.int vs.sum), .no, .no, .no] := rfl
    rw [fz7]
    obtain ⟨okB, ls, lW, kW⟩ := wtCh_ok oa ka (by omega) hv hvs
    have hz : (wZipA (lCons (xVar 2) (lCons (xVar 5) lNil))) [.fz (.own 0), .fz (.int (most : Nat)), .fz (chT a), .fz (.int w), .fz (chT b), .fz (.lst (vs.map D.int)), s6, .fz (.int vs.sum), .no, .no, .no] μ5 = .ok ((List.zip a vs).map fun x => D.tup [chD x.1, .int x.2]) μ5 := by
      unfold wZipA
      simp only [ev_lCons, ev_lNil, ev_var, List.getElem?_cons_succ, List.getElem?_cons_zero, slV_fz, ev_bind_ok]
      show Res.ok (List.zipWith pairD (a.map chD) (vs.map D.int)) μ5 = _
      rw [zip_wt]
    have hc : C__law_two_2 [.fz (.own 0), .fz (.int (most : Nat)), .fz (chT a), .fz (.int w), .fz (chT b), .fz (.lst (vs.map D.int)), s6, .fz (.int vs.sum), .no, .no, .no] μ5 = .ok (.lst ((((List.zip a vs).map fun x => D.tup [chD x.1, .int x.2]).filter wtP).map (wtF vs.sum))) μ5 :=
      ev_lc wtP (wtF vs.sum) hz rfl (by rw [List.length_map, List.length_zip]; omega) fun d hd => by
        obtain ⟨x, hx, rfl⟩ := List.mem_map.mp hd
        refine ⟨_, rfl, ?_, fun hp => ?_⟩
        · show Res.ok (decide (0 < x.2)) μ5 = _
          rfl
        · have el := least_of (a := x.2) (b := vs.sum) hvs (by omega) μ5
          have ew : (((wipeE [.fz (.own 0), .fz (.int (most : Nat)), .fz (chT a), .fz (.int w), .fz (chT b), .fz (.lst (vs.map D.int)), s6, .fz (.int vs.sum), .no, .no, .no] [8, 9, 10]).set 8 (.fz (.int x.1.1))).set 9 (.fz (fr x.1.2))).set 10 (.fz (.int x.2)) = [.fz (.own 0), .fz (.int (most : Nat)), .fz (chT a), .fz (.int w), .fz (chT b), .fz (.lst (vs.map D.int)), s6, .fz (.int vs.sum), .fz (.int x.1.1), .fz (fr x.1.2), .fz (.int x.2)] := rfl
          rw [ew]
          have hwt : wtF vs.sum (D.tup [chD x.1, .int x.2]) = .tup [.int x.1.1, fr (Rat.divInt x.2 vs.sum)] := rfl
          rw [hwt]
          simp [el]
    have hm : (((List.zip a vs).map fun x => D.tup [chD x.1, .int x.2]).filter wtP).map (wtF vs.sum) = (wtCh a vs).map chD := by
      unfold wtCh
      rw [List.filter_map, List.map_map, List.map_map]
      rfl
    rw [hm] at hc
    have st7 : (sAsg 4 (xCb tupleD (lCons C__law_two_2 lNil))) [.fz (.own 0), .fz (.int (most : Nat)), .fz (chT a), .fz (.int w), .fz (chT b), .fz (.lst (vs.map D.int)), s6, .fz (.int vs.sum), .no, .no, .no] μ5 = .nx [.fz (.own 0), .fz (.int (most : Nat)), .fz (chT a), .fz (.int w), .fz (chT (wtCh a vs)), .fz (.lst (vs.map D.int)), s6, .fz (.int vs.sum), .no, .no, .no] μ5 := by
      have ht : tupleD [.lst ((wtCh a vs).map chD)] = some (chT (wtCh a vs)) := rfl
      generalize (wtCh a vs).map chD = L at hc ht
      simp [hc, ht]
    rw [st7, seq_nx]
    exact fin (wtCh a vs) vs.sum.toNat μ5 _ _ _ _ _ _ c5 okB (by omega) (by omega) kW
  · have hcond : (bVal (xBin gtD (xVar 3) (xC (.int 1)))) [.fz (.own 0), .fz (.int (most : Nat)), .fz (chT a), .fz (.int w), .fz (chT b), .no, .no, .no, .no, .no, .no] μ3 = .ok false μ3 := by simp [hw]
    rw [ev_sIf, hcond, ev_st_ok, if_neg Bool.false_ne_true, ev_next, seq_nx]
    exact fin b S μ3 _ _ _ _ _ _ c3 ob (by omega) lb kb
end K80
set_option Elab.async false
set_option linter.all false
set_option maxRecDepth 100000
set_option maxHeartbeats 4000000
namespace K80
open PySem DC
open FR (sumQ fr SzR Dv Few LowOk SumOk)
/-! ### the parts of the law's look -/
theorem like_list {xs : List D} (hl : xs.length ≤ 1000000) (h : ∀ d, d ∈ xs → D.pd 11 d = true ∧ lenB 11 d = true) (μ : Store) : g__law_like 12 [.lst xs, .lst xs] μ = .ok (.bl true) μ :=
  like12 μ (List.all_eq_true.mpr fun d hd => (h d hd).1) (by
    show (decide (xs.length ≤ 1000000) && xs.all (lenB 11)) = true
    rw [decide_eq_true hl, List.all_eq_true.mpr fun d hd => (h d hd).2]; rfl)
theorem like_bl (b : Bool) (μ : Store) : g__law_like 12 [.bl b, .bl b] μ = .ok (.bl true) μ := like12 μ rfl rfl
theorem fr_both (q : Rat) : D.pd 11 (fr q) = true ∧ lenB 11 (fr q) = true := ⟨fr_pd q 9, fr_lb q 11⟩
theorem qo_both (o : Option Rat) : D.pd 11 (qo o) = true ∧ lenB 11 (qo o) = true := by
  cases o with
  | none => exact ⟨rfl, rfl⟩
  | some r => exact fr_both r
/-- a comprehension that draws -/
theorem lcL_cup {tg : Tg} {e : XD} {ρw : DC.Env} (Rel : D → D → Prop) : ∀ {ds : List D} {μ : Store}, CupOk μ → (∀ d, d ∈ ds → ∀ μ, CupOk μ → ∃ ρ2 r μ2, tg d ρw = some ρ2 ∧ e ρ2 μ = .ok r μ2 ∧ CupOk μ2 ∧ Rel d r) →
    ∃ rs μ', lcL tg bTrue e ρw ds μ = .ok rs μ' ∧ CupOk μ' ∧ All2 Rel ds rs
  | [], μ, hc, _ => ⟨[], μ, rfl, hc, .nil⟩
  | d :: ds, μ, hc, h => by
    obtain ⟨ρ2, r, μ2, e1, e2, c2, hr⟩ := h d (by simp) μ hc
    obtain ⟨rs, μ', e3, c3, hrs⟩ := lcL_cup Rel (ds := ds) c2 fun x hx => h x (List.mem_cons_of_mem _ hx)
    refine ⟨r :: rs, μ', ?_, c3, .cons hr hrs⟩
    unfold lcL
    rw [e1]
    show (match bTrue ρ2 μ with
      | .ok true μ1 => (match e ρ2 μ1 with
        | .ok y μ2 => (match lcL tg bTrue e ρw ds μ2 with
          | .ok ys μ3 => Res.ok (y :: ys) μ3
          | _ => Res.fail)
        | _ => Res.fail)
      | .ok false μ1 => lcL tg bTrue e ρw ds μ1
      | _ => Res.fail) = _
    rw [ev_bTrue]
    show (match e ρ2 μ with
        | .ok y μ2 => (match lcL tg bTrue e ρw ds μ2 with
          | .ok ys μ3 => Res.ok (y :: ys) μ3
          | _ => Res.fail)
        | _ => Res.fail) = _
    rw [e2]
    show (match lcL tg bTrue e ρw ds μ2 with
          | .ok ys μ3 => Res.ok (r :: ys) μ3
          | _ => Res.fail) = _
    rw [e3]
theorem lc_cup {src : XL} {tg : Tg} {e : XD} {vs : List Nat} {ρ : DC.Env} {μ μ' : Store} {ds : List D} (Rel : D → D → Prop) (hs : src ρ μ = .ok ds μ') (hv : vsOk ρ vs = true) (hl : ds.length ≤ 1000000) (hc : CupOk μ')
    (hh : ∀ d, d ∈ ds → ∀ μ, CupOk μ → ∃ ρ2 r μ2, tg d (wipeE ρ vs) = some ρ2 ∧ e ρ2 μ = .ok r μ2 ∧ CupOk μ2 ∧ Rel d r) : ∃ rs μ2, xLc src tg bTrue e vs ρ μ = .ok (.lst rs) μ2 ∧ CupOk μ2 ∧ All2 Rel ds rs := by
  obtain ⟨rs, μ2, e1, c2, h⟩ := lcL_cup (tg := tg) (e := e) (ρw := wipeE ρ vs) Rel hc hh
  refine ⟨rs, μ2, ?_, c2, h⟩
  unfold xLc
  rw [hs]
  show (if (vsOk ρ vs && lenOk ds) = true then (match lcL tg bTrue e (wipeE ρ vs) ds μ' with
    | .ok ys μ2 => Res.ok (D.lst ys) μ2
    | _ => Res.fail) else Res.fail) = _
  rw [if_pos (by rw [hv, Bool.true_and]; exact Nat.ble_eq.mpr hl), e1]
/-- a drawn rule -/
def RelR (N : Nat) (d r : D) : Prop := ∃ (v : Int) (x y : D) (q : Rat), d = .tup [.int v, x, y] ∧ r = chD (v, q) ∧ 0 ≤ q ∧ q ≤ 1 ∧ Dv N q
theorem ru_of {N : Nat} (hN : 0 < N) (hN2 : N ≤ 1000000000000) (f g : Int → Rat) : ∀ {us : List Int} {rs : List D}, All2 (RelR N) (us.map fun v => tr v (f v) (g v)) rs → ∃ ru : Chs, rs = ru.map chD ∧ RuOk N us ru
  | [], _, h => by cases h; exact ⟨[], rfl, ⟨rfl, (fun c hc => by cases hc), hN, hN2⟩⟩
  | u :: us, _, h => by
    cases h with
    | cons h1 h2 =>
      obtain ⟨v, x, y, q, e1, rfl, q0, q1, qd⟩ := h1
      cases e1
      obtain ⟨ru, rfl, ok⟩ := ru_of hN hN2 f g h2
      refine ⟨(u, q) :: ru, rfl, ⟨by rw [List.map_cons, ok.keys], fun c hc => ?_, hN, hN2⟩⟩
      rcases List.mem_cons.mp hc with rfl | hc
      · exact ⟨q0, q1, qd⟩
      · exact ok.sh c hc
/-- the chances of all values are those of the chances -/
theorem gt_filter {k : Int} : ∀ {a : Chs}, (a.map Prod.fst).Nodup → sumQ ((a.filter fun c => decide (c.1 = k)).map Prod.snd) = gt a k
  | [], _ => rfl
  | c :: r, h => by
    rw [List.map_cons, List.nodup_cons] at h
    by_cases e : c.1 = k
    · subst e
      rw [List.filter_cons_of_pos (by simp)]
      have hn : (r.filter fun x => decide (x.1 = c.1)) = [] := by
        rw [List.filter_eq_nil_iff]
        intro x hx z
        exact h.1 (List.mem_map.mpr ⟨x, hx, of_decide_eq_true z⟩)
      rw [hn]
      show c.2 + 0 = if c.1 = c.1 then c.2 else gt r c.1
      rw [if_pos rfl, Rat.add_zero]
    · rw [List.filter_cons_of_neg (by simpa using e), gt_filter h.2]
      exact (if_neg e).symm
theorem sum_gt {R S : Nat} {a b : Chs} (h : Pr R S a b) : sumQ ((uni a b).map (gt a)) = 1 := by
  have e := FR.group_sum (κ := Prod.fst) (f := Prod.snd) (uni_nd a b) a fun x hx => uni_mem.mpr (.inl (List.mem_map_of_mem hx))
  rw [h.oa.one] at e
  rw [← e]
  congr 1
  apply List.map_congr_left
  intro k _
  exact (gt_filter (asc_nodup h.oa.asc)).symm
def onesR (us : List Int) : Chs := us.map fun v => (v, 1)
def zerosR (us : List Int) : Chs := us.map fun v => (v, 0)
theorem ones_ok (us : List Int) : RuOk 1 us (onesR us) := ⟨by unfold onesR; rw [List.map_map]; exact List.map_id us, fun c hc => by
  obtain ⟨v, _, rfl⟩ := List.mem_map.mp hc
  exact ⟨(by decide : (0 : Rat) ≤ 1), Rat.le_refl, ⟨1, (by decide +kernel : (1 : Rat) = Rat.divInt 1 ((1 : Nat) : Int))⟩⟩, by decide, by decide⟩
theorem zeros_ok (us : List Int) : RuOk 1 us (zerosR us) := ⟨by unfold zerosR; rw [List.map_map]; exact List.map_id us, fun c hc => by
  obtain ⟨v, _, rfl⟩ := List.mem_map.mp hc
  exact ⟨Rat.le_refl, (by decide : (0 : Rat) ≤ 1), Dv.zero _⟩, by decide, by decide⟩
theorem fq_ones {R S : Nat} {a b : Chs} (h : Pr R S a b) : fq a (onesR (uni a b)) = 1 := by
  refine Eq.trans ?_ (sum_gt h)
  unfold fq onesR
  rw [List.map_map]
  congr 1
  apply List.map_congr_left
  intro v _
  exact Rat.one_mul _
theorem fq_zeros (a : Chs) (us : List Int) : fq a (zerosR us) = 0 := FR.sumQ_zero fun q hq => by
  unfold zerosR at hq
  rw [List.map_map] at hq
  obtain ⟨v, _, rfl⟩ := List.mem_map.mp hq
  exact Rat.zero_mul _
theorem fq_range {R N : Nat} {S : Nat} {a b ru : Chs} (h : Pr R S a b) (hr : RuOk N (uni a b) ru) : 0 ≤ fq a ru ∧ fq a ru ≤ 1 := by
  refine ⟨FR.sumQ_nn fun q hq => ?_, ?_⟩
  · obtain ⟨c, hc, rfl⟩ := List.mem_map.mp hq
    exact Rat.mul_nonneg (hr.sh c hc).1 (gt_ok h.oa c.1).nn
  · have e : sumQ (ru.map fun c => gt a c.1) = 1 := by
      rw [← sum_gt h, ← hr.keys, List.map_map]
      rfl
    rw [← e]
    unfold fq
    have : ∀ l : Chs, (∀ c, c ∈ l → c.2 ≤ 1) → sumQ (l.map fun c => c.2 * gt a c.1) ≤ sumQ (l.map fun c => gt a c.1) := by
      intro l
      induction l with
      | nil => intro _; exact Rat.le_refl
      | cons c l ih =>
        intro hl
        have h1 := ih fun x hx => hl x (List.mem_cons_of_mem _ hx)
        have h2 := Rat.mul_le_mul_of_nonneg_right (hl c (by simp)) (gt_ok h.oa c.1).nn
        show c.2 * gt a c.1 + sumQ _ ≤ gt a c.1 + sumQ _
        grind
    exact this ru fun c hc => (hr.sh c hc).2.1
theorem chance_fq {R N S : Nat} {a b ru : Chs} (h : Pr R S a b) (hr : RuOk N (uni a b) ru) (μ : Store) : g_is_chance [fr (fq a ru)] μ = .ok (.bl true) μ := by
  have hb := fq_range h hr
  have hf := few_fq h.oa h.ra hr
  have hd := (Dv.sum hf.pos hf.dv).den hf.pos
  have hl : N * R ≤ 1000000000000 * 1000000 := Nat.mul_le_mul hr.le h.ra
  have e := fits_chance_spec hb.1 hb.2 (by unfold fq; omega) μ
  unfold g_is_chance F_is_chance
  simp [e]
/-- the quotients, as the law makes them -/
def lqF : D → D
  | .tup [_, x, y] => qo (quo ((unq x).getD 0) ((unq y).getD 0))
  | _ => .non
theorem lqF_tr (v : Int) (p q : Rat) : lqF (tr v p q) = qo (quo p q) := by
  show qo (quo ((unq (qo (some p))).getD 0) ((unq (qo (some q))).getD 0)) = _
  rw [unq_qo, unq_qo]; rfl
theorem lqF_map (a b : Chs) : (trs a b).map lqF = (quos a b).map qo := by
  unfold trs quos
  rw [List.map_map, List.map_map]
  apply List.map_congr_left
  intro v _
  exact lqF_tr v _ _
theorem lq_item {R S : Nat} {a b : Chs} (h : Pr R S a b) (v : Int) {ρ : DC.Env} {μ : Store} (h16 : ρ[16]? = some (.fz (fr (gt a v)))) (h17 : ρ[17]? = some (.fz (fr (gt b v)))) :
    (xIf (bVal (xBin gtD (xIx (xVar 16) (xC (.int 0))) (xC (.int 0)))) (xCall g__law_least (lCons (xBin mulD (xIx (xVar 17) (xC (.int 0))) (xIx (xVar 16) (xC (.int 1)))) (lCons (xBin mulD (xIx (xVar 17) (xC (.int 1))) (xIx (xVar 16) (xC (.int 0)))) lNil))) (xC .non)) ρ μ = .ok (qo (quo (gt a v) (gt b v))) μ := by
  have ga := gt_ok h.oa v
  have gb := gt_ok h.ob v
  by_cases hz : gt a v = 0
  · have : (gt a v).num = 0 := by rw [hz]; rfl
    simp [h16, FR.ix0, this, quo, hz, qo]
  · have hp : 0 < gt a v := Rat.lt_of_le_of_ne ga.nn fun z => hz z.symm
    have np := num_pos hp
    obtain ⟨m1, m2, e⟩ := lquo_spec ga gb h.oa.pos h.ra h.ob.pos h.sb hp μ
    simp [h16, h17, FR.ix0, FR.ix1, np, m1, m2, e, quo, hz, qo]
/-- the law's walk over neighbours -/
def badL : List (Option Rat) → List (Option Rat) → Bool
  | l :: ls, h :: hs => lesser h l || badL ls hs
  | _, _ => false
theorem bad_any : ∀ (ls hs : List (Option Rat)), badL ls hs = (List.zipWith (fun l h => lesser h l) ls hs).any id
  | [], _ => by simp [badL]
  | _ :: _, [] => by simp [badL]
  | l :: ls, h :: hs => by
    show (lesser h l || badL ls hs) = (lesser h l || (List.zipWith (fun l h => lesser h l) ls hs).any id)
    rw [bad_any ls hs]
theorem ris_loop {s0 s1 s2 s3 s4 s8 s9 s10 s11 s12 s13 s14 s15 s16 s17 : Sl} {μ : Store} : ∀ (ls hs : List (Option Rat)) (r : Bool) (s6 s7 : Sl), (∀ o, o ∈ ls → SzO o) → (∀ o, o ∈ hs → SzO o) →
    ∃ t6 t7, sForL (gT (gC (gN 6) (gC (gN 7) gE))) L__law_right_3 (List.zipWith (fun x y => D.tup [qo x, qo y]) ls hs) [s0, s1, s2, s3, s4, .fz (.bl r), s6, s7, s8, s9, s10, s11, s12, s13, s14, s15, s16, s17] μ =
      .nx [s0, s1, s2, s3, s4, .fz (.bl (r && !badL ls hs)), t6, t7, s8, s9, s10, s11, s12, s13, s14, s15, s16, s17] μ
  | [], _, r, s6, s7, _, _ => ⟨s6, s7, by
    have : badL [] ‹_› = false := by simp [badL]
    rw [this]; simp⟩
  | _ :: _, [], r, s6, s7, _, _ => ⟨s6, s7, by simp [badL]⟩
  | l :: ls, h :: hs, r, s6, s7, h1, h2 => by
    have hl := h1 l (by simp)
    have hh := h2 h (by simp)
    have step : L__law_right_3 [s0, s1, s2, s3, s4, .fz (.bl r), .fz (qo l), .fz (qo h), s8, s9, s10, s11, s12, s13, s14, s15, s16, s17] μ = .nx [s0, s1, s2, s3, s4, .fz (.bl (r && !lesser h l)), .fz (qo l), .fz (qo h), s8, s9, s10, s11, s12, s13, s14, s15, s16, s17] μ := by
      cases l with
      | none =>
        cases h with
        | none => simp [qo_isN, qo_notN, lesser]
        | some y => simp [qo_isN, qo_notN, lesser]
      | some x =>
        cases h with
        | none => simp [qo_isN, qo_notN, lesser]
        | some y =>
          have e := (under_spec ((hh y rfl).mono (by decide)) ((hl x rfl).mono (by decide)) μ).2
          have e' : g__law_under [qo (some y), qo (some x)] μ = .ok (.bl (decide (y < x))) μ := e
          have hles : lesser (some y) (some x) = decide (y < x) := rfl
          rw [hles]
          by_cases hc : y < x
          · simp [qo_isN, qo_notN, e', hc]
          · simp [qo_isN, qo_notN, e', hc]
    obtain ⟨t6, t7, e⟩ := ris_loop (s0 := s0) (s1 := s1) (s2 := s2) (s3 := s3) (s4 := s4) (s8 := s8) (s9 := s9) (s10 := s10) (s11 := s11) (s12 := s12) (s13 := s13) (s14 := s14) (s15 := s15) (s16 := s16) (s17 := s17) (μ := μ) ls hs (r && !lesser h l) (.fz (qo l)) (.fz (qo h)) (fun o ho => h1 o (List.mem_cons_of_mem _ ho)) (fun o ho => h2 o (List.mem_cons_of_mem _ ho))
    refine ⟨t6, t7, ?_⟩
    show sForL _ _ (D.tup [qo l, qo h] :: List.zipWith (fun x y => D.tup [qo x, qo y]) ls hs) _ _ = _
    rw [forL_cons (ρ1 := [s0, s1, s2, s3, s4, .fz (.bl r), .fz (qo l), .fz (qo h), s8, s9, s10, s11, s12, s13, s14, s15, s16, s17]) rfl step, e]
    have : (r && !lesser h l && !badL ls hs) = (r && !badL (l :: ls) (h :: hs)) := by
      show _ = (r && !(lesser h l || badL ls hs))
      cases r <;> cases lesser h l <;> rfl
    rw [this]
end K80
set_option Elab.async false
set_option linter.all false
set_option maxRecDepth 100000
set_option maxHeartbeats 4000000
namespace K80
open PySem DC
open FR (sumQ fr SzR Dv Few LowOk SumOk)
/-! ### the law's look at two chances -/
theorem fin_seq {F G : SD} {ρ ρ' : DC.Env} {μ μ' : Store} {r : Res D} (h : F ρ μ = .nx ρ' μ') (h2 : (G ρ' μ').fin = r) : (sSeq F G ρ μ).fin = r := by rw [ev_seq, h]; exact h2
theorem asg_ok {i : Nat} {f : XD} {ρ : DC.Env} {μ μ' : Store} {d : D} (h : f ρ μ = .ok d μ') : sAsg i f ρ μ = .nx (ρ.set i (.fz d)) μ' := by rw [ev_asg, h]; rfl
theorem nil_ok {ρ : DC.Env} {μ : Store} : lNil ρ μ = .ok [] μ := rfl
theorem cons_ok {f : XD} {fs : XL} {ρ : DC.Env} {μ μ1 μ2 : Store} {d : D} {ds : List D} (h : f ρ μ = .ok d μ1) (h2 : fs ρ μ1 = .ok ds μ2) : lCons f fs ρ μ = .ok (d :: ds) μ2 := by rw [ev_lCons, h, ev_bind_ok, h2]; rfl
theorem call_ok {g : List D → Store → Res D} {fs : XL} {ρ : DC.Env} {μ μ1 μ2 : Store} {d : D} {ds : List D} (h : fs ρ μ = .ok ds μ1) (h2 : g ds μ1 = .ok d μ2) : xCall g fs ρ μ = .ok d μ2 := by rw [ev_call, h, ev_bind_ok, h2]
theorem cb_ok {g : List D → Option D} {fs : XL} {ρ : DC.Env} {μ μ1 : Store} {d : D} {ds : List D} (h : fs ρ μ = .ok ds μ1) (h2 : g ds = some d) : xCb g fs ρ μ = .ok d μ1 := by rw [ev_cb, h, ev_bind_ok, h2]; rfl
theorem val_ok {f : XD} {ρ : DC.Env} {μ μ' : Store} {b : Bool} (h : f ρ μ = .ok (.bl b) μ') : bVal f ρ μ = .ok b μ' := by rw [ev_bVal, h]; rfl
theorem not_ok {t : XB} {ρ : DC.Env} {μ μ' : Store} {b : Bool} (h : t ρ μ = .ok b μ') : bNot t ρ μ = .ok (!b) μ' := by rw [ev_bNot, h]; rfl
theorem if_no {t : XB} {F : SD} {ρ : DC.Env} {μ μ' : Store} (h : t ρ μ = .ok false μ') : sIf t F sNext ρ μ = .nx ρ μ' := by rw [ev_sIf, h]; rfl
theorem for_ok {f : XL} {g : Tg} {F : SD} {ρ ρ' : DC.Env} {μ μ1 μ2 : Store} {ds : List D} (h : f ρ μ = .ok ds μ1) (h2 : sForL g F ds ρ μ1 = .nx ρ' μ2) : sFor f g F ρ μ = .nx ρ' μ2 := by rw [ev_for, h]; exact h2
theorem par2_ok {i j : Nat} {f g : XD} {ρ : DC.Env} {μ μ1 μ2 : Store} {d e : D} (h : f ρ μ = .ok d μ1) (h2 : g ρ μ1 = .ok e μ2) : sPar [i, j] (mVal f (mVal g mNil)) ρ μ = .nx ((ρ.set i (.fz d)).set j (.fz e)) μ2 := by
  rw [ev_par, ev_mVal, h, ev_bind_ok, ev_mVal, h2]; rfl
theorem atI_ok {xs : List D} {i : Int} (h0 : 0 ≤ i) (h1 : i < (xs.length : Int)) : ∃ x, L2.atI xs i = some x ∧ x ∈ xs := by
  have e : L2.ixN xs.length i = some i.toNat := by
    unfold L2.ixN
    rw [if_pos h0, if_pos h1]
  have hl : i.toNat < xs.length := by omega
  refine ⟨xs[i.toNat], ?_, List.getElem_mem hl⟩
  unfold L2.atI
  rw [e]
  show xs[i.toNat]? = _
  exact List.getElem?_eq_getElem hl
theorem slT_tup (xs : List D) (l h : Option Int) : slT (.tup xs) l h = some (.tup (cutD xs l h)) := rfl
theorem pd_tup {n : Nat} {xs : List D} (h : ∀ x, x ∈ xs → D.pd n x = true) : D.pd (n + 1) (.tup xs) = true := List.all_eq_true.mpr h
theorem pd_lst {n : Nat} {xs : List D} (h : ∀ x, x ∈ xs → D.pd n x = true) : D.pd (n + 1) (.lst xs) = true := List.all_eq_true.mpr h
theorem isru_eq {R S : Nat} {a b : Chs} (h : Pr R S a b) {d : D} (hd : D.pd 20 d = true) (μ : Store) : ((xCall (g__law_like 12) (lCons (xCall g_is_rule (lCons (xVar 1) (lCons (xVar 2) (lCons (xVar 15) lNil)))) (lCons (xCall g__law_is_rule (lCons (xVar 1) (lCons (xVar 2) (lCons (xVar 15) lNil)))) lNil))) [.no, .fz (chT a), .fz (chT b), .no, .no, .no, .no, .no, .no, .no, .no, .no, .no, .no, .no, .fz d] μ) = .ok (.bl true) μ := by
  have e1 := is_rule_spec h (n := 20) (by decide) hd μ
  have e2 := lis_rule_spec h (n := 20) (by decide) hd μ
  have e3 := like_bl (ruleB (uni a b) d) μ
  simp [e1, e2, e3]
abbrev QD : D → Prop := fun d => D.pd 20 d = true
theorem right_spec {a b : Chs} {most : Nat} (h2 : TwoOk most a b) {μ : Store} (hc : CupOk μ) : ∃ μ', g__law_right [.own 0, chT a, chT b] μ = .ok (.bl true) μ' ∧ CupOk μ' := by
  obtain ⟨R, S, h, _, _⟩ := h2.pr
  have ul := uni_len h
  have tl := trs_len a b
  have hq := quos_len h
  have v1 := lvalues_spec h μ
  have ca : g_are_chances [chT a] μ = .ok (.bl true) μ := by
    have e : g_fits_chances [chT a] μ = .ok (.bl true) μ := fits_chances_spec h.oa μ
    unfold g_are_chances F_are_chances
    simp [e]
  have cb : g_are_chances [chT b] μ = .ok (.bl true) μ := by
    have e : g_fits_chances [chT b] μ = .ok (.bl true) μ := fits_chances_spec h.ob μ
    unfold g_are_chances F_are_chances
    simp [e]
  have nb : notBD (.bl true) (.bl true) = some (.bl false) := rfl
  -- quotients
  have c1 : C__law_right_1 [.fz (.own 0), .fz (chT a), .fz (chT b), .fz (.lst (trs a b)), .no, .no, .no, .no, .no, .no, .no, .no, .no, .no, .no, .no, .no, .no] μ = .ok (.lst ((trs a b).map lqF)) μ :=
    ev_lcT lqF (by simp) rfl (by omega) fun d hd => by
      obtain ⟨v, _, rfl⟩ := List.mem_map.mp hd
      refine ⟨_, rfl, ?_⟩
      rw [lqF_tr]
      exact lq_item h v rfl rfl
  rw [lqF_map] at c1
  have c2 : C__law_right_2 [.fz (.own 0), .fz (chT a), .fz (chT b), .fz (.lst (trs a b)), .fz (.lst ((quos a b).map qo)), .no, .no, .no, .no, .no, .no, .no, .no, .no, .no, .no, .no, .no] μ = .ok (.lst ((trs a b).map lqF)) μ :=
    ev_lcT lqF (by simp) rfl (by omega) fun d hd => by
      obtain ⟨v, hv, rfl⟩ := List.mem_map.mp hd
      refine ⟨_, rfl, ?_⟩
      rw [lqF_tr]
      have e := quotient_of_spec h hv μ
      show g_quotient_of [chT a, chT b, .int v] μ = _
      exact e
  rw [lqF_map] at c2
  have k1 : g__law_like 12 [.lst ((quos a b).map qo), .lst ((quos a b).map qo)] μ = .ok (.bl true) μ := like_list (by rw [List.length_map]; omega) (fun d hd => by
    obtain ⟨o, _, rfl⟩ := List.mem_map.mp hd
    exact qo_both o) μ
  -- rising
  have hz : (wZipA (lCons (xVar 4) (lCons (xSl (xVar 4) (oSome (xC (.int 1))) oNone) lNil))) [.fz (.own 0), .fz (chT a), .fz (chT b), .fz (.lst (trs a b)), .fz (.lst ((quos a b).map qo)), .fz (.bl true), .no, .no, .no, .no, .no, .no, .no, .no, .no, .no, .no, .no] μ = .ok (List.zipWith (fun x y => D.tup [qo x, qo y]) (quos a b) ((quos a b).drop 1)) μ := by
    unfold wZipA
    simp only [ev_lCons, ev_lNil, ev_var, ev_sl, ev_oSome, ev_C, ev_oNone, List.getElem?_cons_succ, List.getElem?_cons_zero, slV_fz, ev_bind_ok, drop1, ev_ofO_some]
    rw [← List.map_drop, zip_qo]
  obtain ⟨t6, t7, l1⟩ := ris_loop (s0 := .fz (.own 0)) (s1 := .fz (chT a)) (s2 := .fz (chT b)) (s3 := .fz (.lst (trs a b))) (s4 := .fz (.lst ((quos a b).map qo))) (s8 := .no) (s9 := .no) (s10 := .no) (s11 := .no) (s12 := .no) (s13 := .no) (s14 := .no) (s15 := .no) (s16 := .no) (s17 := .no) (μ := μ) (quos a b) ((quos a b).drop 1) true .no .no (szs h) (fun o ho => szs h o (List.mem_of_mem_drop ho))
  have hris : (true && !badL (quos a b) ((quos a b).drop 1)) = risB (quos a b) := by rw [bad_any]; rfl
  rw [hris] at l1
  have r1 := are_rising_spec h μ
  have k2 := like_bl (risB (quos a b)) μ
  -- a drawn rule
  obtain ⟨rs, μ1, c4, hc1, hrs⟩ := lc_cup (src := iSeq (xVar 3)) (tg := gT (gC (gN 14) (gC (gN 16) (gC (gN 17) gE)))) (e := xTup (lCons (xVar 14) (lCons (xCall g__law_chance (lCons (xVar 0) lNil)) lNil))) (vs := [14, 16, 17]) (ρ := [.fz (.own 0), .fz (chT a), .fz (chT b), .fz (.lst (trs a b)), .fz (.lst ((quos a b).map qo)), .fz (.bl (risB (quos a b))), t6, t7, .no, .no, .no, .no, .no, .no, .no, .no, .no, .no]) (μ := μ) (μ' := μ) (ds := trs a b) (RelR 5354228880) rfl rfl (by omega) hc (fun d hd μ hc => by
    obtain ⟨v, hv, rfl⟩ := List.mem_map.mp hd
    obtain ⟨q, μ2, e, c2, q0, q1, qd⟩ := chance_spec hc
    refine ⟨_, chD (v, q), μ2, rfl, ?_, c2, v, _, _, q, rfl, rfl, q0, q1, qd⟩
    have ew : (((wipeE [.fz (.own 0), .fz (chT a), .fz (chT b), .fz (.lst (trs a b)), .fz (.lst ((quos a b).map qo)), .fz (.bl (risB (quos a b))), t6, t7, .no, .no, .no, .no, .no, .no, .no, .no, .no, .no] [14, 16, 17]).set 14 (.fz (.int v))).set 16 (.fz (fr (gt a v)))).set 17 (.fz (fr (gt b v))) = [.fz (.own 0), .fz (chT a), .fz (chT b), .fz (.lst (trs a b)), .fz (.lst ((quos a b).map qo)), .fz (.bl (risB (quos a b))), t6, t7, .no, .no, .no, .no, .no, .no, .fz (.int v), .no, .fz (fr (gt a v)), .fz (fr (gt b v))] := rfl
    rw [ew]
    simp [e]
    rfl)
  obtain ⟨ru, hru, rok⟩ := ru_of (by decide) (by decide) (gt a) (gt b) hrs
  rw [hru] at c4
  have rlen := ru_len rok
  have p1 := is_rule_spec h (n := 4) (by decide) (chT_pd ru) μ1
  rw [ru_rule rok] at p1
  have p2 := false_share_spec h rok μ1
  have p3 := power_spec h rok μ1
  have p4 := lshares_spec h rok μ1
  have k3 : g__law_like 12 [.lst [.bl true, fr (fq a ru), fr (fq b ru)], .lst [.bl true, fr (fq a ru), fr (fq b ru)]] μ1 = .ok (.bl true) μ1 := like_list (by simp) (fun d hd => by
    simp only [List.mem_cons, List.not_mem_nil, or_false] at hd
    rcases hd with rfl | rfl | rfl
    · exact ⟨rfl, rfl⟩
    · exact fr_both _
    · exact fr_both _) μ1
  have ha1 : addD (.lst [.bl true]) (.lst [fr (fq a ru), fr (fq b ru)]) = some (.lst [.bl true, fr (fq a ru), fr (fq b ru)]) := addL_ok (by simp)
  have hl1 : listD [.tup [fr (fq a ru), fr (fq b ru)]] = some (.lst [fr (fq a ru), fr (fq b ru)]) := rfl
  have x1 : ixS μ1 (.lst [.bl true, fr (fq a ru), fr (fq b ru)]) (.int 1) = some (fr (fq a ru)) := rfl
  have x2 : ixS μ1 (.lst [.bl true, fr (fq a ru), fr (fq b ru)]) (.int 2) = some (fr (fq b ru)) := rfl
  have rok' : RuOk 5354228880 (uni b a) ru := by rw [uni_swap]; exact rok
  have y1 := chance_fq h rok μ1
  have y2 := chance_fq h.symm rok' μ1
  -- all said, nothing said
  have c5 : ∀ s9, C__law_right_5 [.fz (.own 0), .fz (chT a), .fz (chT b), .fz (.lst (trs a b)), .fz (.lst ((quos a b).map qo)), .fz (.bl (risB (quos a b))), t6, t7, .fz (chT ru), s9, .no, .no, .no, .no, .no, .no, .no, .no] μ1 = .ok (.lst ((trs a b).map fun d => match d with | .tup (k :: _) => D.tup [k, fr 1] | _ => .non)) μ1 := fun s9 =>
    ev_lcT _ (by simp) rfl (by omega) fun d hd => by
      obtain ⟨v, _, rfl⟩ := List.mem_map.mp hd
      exact ⟨_, rfl, rfl⟩
  have c6 : ∀ s9, C__law_right_6 [.fz (.own 0), .fz (chT a), .fz (chT b), .fz (.lst (trs a b)), .fz (.lst ((quos a b).map qo)), .fz (.bl (risB (quos a b))), t6, t7, .fz (chT ru), s9, .no, .no, .no, .no, .no, .no, .no, .no] μ1 = .ok (.lst ((trs a b).map fun d => match d with | .tup (k :: _) => D.tup [k, fr 0] | _ => .non)) μ1 := fun s9 =>
    ev_lcT _ (by simp) rfl (by omega) fun d hd => by
      obtain ⟨v, _, rfl⟩ := List.mem_map.mp hd
      exact ⟨_, rfl, rfl⟩
  have m5 : ((trs a b).map fun d => match d with | .tup (k :: _) => D.tup [k, fr 1] | _ => .non) = (onesR (uni a b)).map chD := by
    unfold trs onesR
    rw [List.map_map, List.map_map]; rfl
  have m6 : ((trs a b).map fun d => match d with | .tup (k :: _) => D.tup [k, fr 0] | _ => .non) = (zerosR (uni a b)).map chD := by
    unfold trs zerosR
    rw [List.map_map, List.map_map]; rfl
  rw [m5] at c5
  rw [m6] at c6
  have z1 := false_share_spec h (ones_ok (uni a b)) μ1
  rw [fq_ones h] at z1
  have z2 := power_spec h (zeros_ok (uni a b)) μ1
  rw [fq_zeros] at z2
  have z3 := false_share_spec h.symm rok' μ1
  have k4 : g__law_like 12 [.lst [fr 1, fr 0, fr (fq b ru)], .lst [fr 1, fr 0, fr (fq b ru)]] μ1 = .ok (.bl true) μ1 := like_list (by simp) (fun d hd => by
    simp only [List.mem_cons, List.not_mem_nil, or_false] at hd
    rcases hd with rfl | rfl | rfl
    · exact fr_both _
    · exact fr_both _
    · exact fr_both _) μ1
  -- where something else is put
  have hlr : lenD [chT ru] = some (.int (ru.length : Nat)) := by
    show some (D.int ((ru.map chD).length : Nat)) = _
    rw [List.length_map]
  have hu1 : 1 ≤ (uni a b).length := by
    have hm : ∃ v, v ∈ a.map Prod.fst := by
      cases a with
      | nil => have := h.oa.len0; simp at this
      | cons c r => exact ⟨c.1, by simp⟩
    obtain ⟨v, hv⟩ := hm
    have := List.length_pos_of_mem (uni_mem.mpr (.inl hv) : v ∈ uni a b)
    omega
  obtain ⟨at_, μ2, e2, hc2, a0, a1⟩ := roll_n (k := (ru.length : Nat)) hc1 (by omega) (by omega)
  obtain ⟨x, hx, hxm⟩ := atI_ok (xs := ru.map chD) (i := at_) a0 (by rw [List.length_map]; exact a1)
  obtain ⟨c, hcm, rfl⟩ := List.mem_map.mp hxm
  have ix : ∀ μ, ixS μ (chT ru) (.int at_) = some (chD c) := fun μ => hx
  have ixc : ∀ μ, ixS μ (chD c) (.int 0) = some (.int c.1) := fun μ => rfl
  have hrev : revTD (chT ru) = some (.tup (ru.map chD).reverse) := rfl
  have hlst : listD [chT ru] = some (.lst (ru.map chD)) := rfl
  have hlc : listD [chD c] = some (.lst [.int c.1, fr c.2]) := rfl
  have hpr : ∀ d, d ∈ ru.map chD → D.pd 18 d = true := fun d hd => by
    obtain ⟨c', _, rfl⟩ := List.mem_map.mp hd
    exact chD_pd c' 15
  have hadd : ∀ l : Option Int, addD (chT ru) (.tup (cutD (ru.map chD) l none)) = some (.tup (ru.map chD ++ cutD (ru.map chD) l none)) := fun l => addT_ok (by
    have := cutD_len' (ru.map chD) l none
    rw [List.length_map] at this ⊢
    omega)
  -- one more odd value
  have odd : ∀ (xs : List D) (d : D) (s14 : Sl) (μ : Store), QD d → (∀ x, x ∈ xs → QD x) → xs.length ≤ 1000 → D.pd 19 d = true →
      ∃ y, QD y ∧ (sApp 13 (xBin addD (xBin addD (xSl (xVar 8) oNone (oSome (xVar 12))) (xTup (lCons (xVar 15) lNil))) (xSl (xVar 8) (oSome (xBin addD (xVar 12) (xC (.int 1)))) oNone))) [.fz (.own 0), .fz (chT a), .fz (chT b), .fz (.lst (trs a b)), .fz (.lst ((quos a b).map qo)), .fz (.bl (risB (quos a b))), t6, t7, .fz (chT ru), .fz (.lst [fr 1, fr 0, fr (fq b ru)]), .fz (chT (onesR (uni a b))), .fz (chT (zerosR (uni a b))), .fz (.int at_), .ow (.lst xs), s14, .fz d, .no, .no] μ =
        .nx [.fz (.own 0), .fz (chT a), .fz (chT b), .fz (.lst (trs a b)), .fz (.lst ((quos a b).map qo)), .fz (.bl (risB (quos a b))), t6, t7, .fz (chT ru), .fz (.lst [fr 1, fr 0, fr (fq b ru)]), .fz (chT (onesR (uni a b))), .fz (chT (zerosR (uni a b))), .fz (.int at_), .ow (.lst (xs ++ [y])), s14, .fz d, .no, .no] μ := by
    intro xs d s14 μ hd hxs hl hd19
    have l1 := cutD_len' (ru.map chD) none (some at_)
    have l2 := cutD_len' (ru.map chD) (some (at_ + 1)) none
    rw [List.length_map] at l1 l2
    refine ⟨.tup (cutD (ru.map chD) none (some at_) ++ [d] ++ cutD (ru.map chD) (some (at_ + 1)) none), pd_tup fun x hx => ?_, ?_⟩
    · rcases List.mem_append.mp hx with hx | hx
      · rcases List.mem_append.mp hx with hx | hx
        · exact pd_mono 18 19 x (by decide) (hpr x (cutD_mem hx))
        · simp at hx; subst hx; exact hd19
      · exact pd_mono 18 19 x (by decide) (hpr x (cutD_mem hx))
    · have s1 : slT (chT ru) none (some at_) = some (.tup (cutD (ru.map chD) none (some at_))) := rfl
      have s2 : slT (chT ru) (some (at_ + 1)) none = some (.tup (cutD (ru.map chD) (some (at_ + 1)) none)) := rfl
      have g1 : addD (.tup (cutD (ru.map chD) none (some at_))) (.tup [d]) = some (.tup (cutD (ru.map chD) none (some at_) ++ [d])) := addT_ok (by simp; omega)
      have g2 : addD (.tup (cutD (ru.map chD) none (some at_) ++ [d])) (.tup (cutD (ru.map chD) (some (at_ + 1)) none)) = some (.tup (cutD (ru.map chD) none (some at_) ++ [d] ++ cutD (ru.map chD) (some (at_ + 1)) none)) := addT_ok (by simp; omega)
      rw [ev_app (ds := xs) (d := .tup (cutD (ru.map chD) none (some at_) ++ [d] ++ cutD (ru.map chD) (some (at_ + 1)) none)) (μ' := μ) rfl ?_ (by omega)]
      · rfl
      · generalize cutD (ru.map chD) none (some at_) = P at s1 g1 g2
        generalize cutD (ru.map chD) (some (at_ + 1)) none = Q at s2 g2
        simp [s1, g1, s2, g2]
  have loop : ∀ (ds xs : List D) (s14 s15 : Sl) (μ : Store), (∀ x, x ∈ ds → D.pd 19 x = true) → (∀ x, x ∈ xs → QD x) → xs.length + ds.length ≤ 1000 → ∃ ys t15, (∀ x, x ∈ ys → QD x) ∧ ys.length = xs.length + ds.length ∧ (t15 = s15 ∨ ∃ d, t15 = .fz d) ∧
      sForL (gN 15) (sApp 13 (xBin addD (xBin addD (xSl (xVar 8) oNone (oSome (xVar 12))) (xTup (lCons (xVar 15) lNil))) (xSl (xVar 8) (oSome (xBin addD (xVar 12) (xC (.int 1)))) oNone))) ds [.fz (.own 0), .fz (chT a), .fz (chT b), .fz (.lst (trs a b)), .fz (.lst ((quos a b).map qo)), .fz (.bl (risB (quos a b))), t6, t7, .fz (chT ru), .fz (.lst [fr 1, fr 0, fr (fq b ru)]), .fz (chT (onesR (uni a b))), .fz (chT (zerosR (uni a b))), .fz (.int at_), .ow (.lst xs), s14, s15, .no, .no] μ =
        .nx [.fz (.own 0), .fz (chT a), .fz (chT b), .fz (.lst (trs a b)), .fz (.lst ((quos a b).map qo)), .fz (.bl (risB (quos a b))), t6, t7, .fz (chT ru), .fz (.lst [fr 1, fr 0, fr (fq b ru)]), .fz (chT (onesR (uni a b))), .fz (chT (zerosR (uni a b))), .fz (.int at_), .ow (.lst ys), s14, t15, .no, .no] μ := by
    intro ds
    induction ds with
    | nil => intro xs s14 s15 μ _ hxs _; exact ⟨xs, s15, hxs, by simp, .inl rfl, rfl⟩
    | cons d ds ih =>
      intro xs s14 s15 μ hds hxs hl
      rw [List.length_cons] at hl
      obtain ⟨y, hy, e⟩ := odd xs d s14 μ (pd_mono 19 20 d (by decide) (hds d (by simp))) hxs (by omega) (hds d (by simp))
      obtain ⟨ys, t15, h1, h2, h4, h3⟩ := ih (xs ++ [y]) s14 (.fz d) μ (fun x hx => hds x (List.mem_cons_of_mem _ hx)) (fun x hx => by
        rcases List.mem_append.mp hx with hx | hx
        · exact hxs x hx
        · simp at hx; subst hx; exact hy) (by simp; omega)
      refine ⟨ys, t15, h1, (by rw [h2]; simp; omega), .inr (h4.elim (fun z => ⟨d, z⟩) id), ?_⟩
      rw [forL_cons (ρ1 := [.fz (.own 0), .fz (chT a), .fz (chT b), .fz (.lst (trs a b)), .fz (.lst ((quos a b).map qo)), .fz (.bl (risB (quos a b))), t6, t7, .fz (chT ru), .fz (.lst [fr 1, fr 0, fr (fq b ru)]), .fz (chT (onesR (uni a b))), .fz (chT (zerosR (uni a b))), .fz (.int at_), .ow (.lst xs), s14, .fz d, .no, .no]) rfl e]
      exact h3
  -- the odd values
  let O0 : List D := [chT ru, .tup (ru.map chD).reverse, .lst (ru.map chD), .tup (cutD (ru.map chD) (some 1) none), .tup (ru.map chD ++ cutD (ru.map chD) (some (-1)) none), .non, .tup [], .int 5, chT (onesR (uni a b)), chT (zerosR (uni a b)), chT a, chT b]
  have hO0 : ∀ x, x ∈ O0 → QD x := by
    intro x hx
    have p4 : ∀ y : Chs, QD (chT y) := fun y => pd_mono 4 20 _ (by decide) (chT_pd y)
    simp only [O0, List.mem_cons, List.not_mem_nil, or_false] at hx
    rcases hx with rfl | rfl | rfl | rfl | rfl | rfl | rfl | rfl | rfl | rfl | rfl | rfl
    · exact p4 _
    · exact pd_mono 19 20 _ (by decide) (pd_tup fun y hy => hpr y (List.mem_reverse.mp hy))
    · exact pd_mono 19 20 _ (by decide) (pd_lst hpr)
    · exact pd_mono 19 20 _ (by decide) (pd_tup fun y hy => hpr y (cutD_mem hy))
    · exact pd_mono 19 20 _ (by decide) (pd_tup fun y hy => by
        rcases List.mem_append.mp hy with hy | hy
        · exact hpr y hy
        · exact hpr y (cutD_mem hy))
    · rfl
    · rfl
    · rfl
    · exact p4 _
    · exact p4 _
    · exact p4 _
    · exact p4 _
  let L1 : List D := [.non, .tup [], .tup (cutD [.int c.1, fr c.2] none (some 1)), .lst [.int c.1, fr c.2], .tup [.int c.1, .tup [.int 2, .int 4]], .tup [.int c.1, .tup [.int 3, .int 2]], .tup [.int c.1, .tup [.int (-1), .int 2]], .tup [.int c.1, .non], .tup [.bl true, .tup [.int 1, .int 2]]]
  let L2 : List D := [.tup [.int (c.1 + 1), .tup [.int 1, .int 2]], .tup [.int c.1, .tup [.int 1, .int 0]], .tup [.int c.1, .tup [.bl true, .int 1]], .tup [.str "0", .tup [.int 1, .int 2]]]
  have hL1 : ∀ x, x ∈ L1 → D.pd 19 x = true := by
    intro x hx
    have hf : D.pd 18 (fr c.2) = true := fr_pd c.2 16
    simp only [L1, List.mem_cons, List.not_mem_nil, or_false] at hx
    rcases hx with rfl | rfl | rfl | rfl | rfl | rfl | rfl | rfl | rfl
    · rfl
    · rfl
    · rfl
    · exact pd_lst fun y hy => by
        simp only [List.mem_cons, List.not_mem_nil, or_false] at hy
        rcases hy with rfl | rfl
        · rfl
        · exact hf
    · rfl
    · rfl
    · rfl
    · rfl
    · rfl
  have hL2 : ∀ x, x ∈ L2 → D.pd 19 x = true := by
    intro x hx
    simp only [L2, List.mem_cons, List.not_mem_nil, or_false] at hx
    rcases hx with rfl | rfl | rfl | rfl <;> rfl
  have n0 : O0.length = 12 := rfl
  have n1 : L1.length = 9 := rfl
  have n2 : L2.length = 4 := rfl
  obtain ⟨ys1, t15, g1, g2, w1, f1⟩ := loop L1 O0 (.fz (.int c.1)) .no μ2 hL1 hO0 (by omega)
  obtain ⟨ys2, t15', g3, g4, w2, f2⟩ := loop L2 ys1 (.fz (.int c.1)) t15 μ2 hL2 g1 (by omega)
  have hys2 : ys2.length ≤ 1000 := by omega
  have hvs : ∀ s13, vsOk [.fz (.own 0), .fz (chT a), .fz (chT b), .fz (.lst (trs a b)), .fz (.lst ((quos a b).map qo)), .fz (.bl (risB (quos a b))), t6, t7, .fz (chT ru), .fz (.lst [fr 1, fr 0, fr (fq b ru)]), .fz (chT (onesR (uni a b))), .fz (chT (zerosR (uni a b))), .fz (.int at_), s13, .fz (.int c.1), t15', .no, .no] [15] = true := fun s13 => by
    rcases w2 with w2 | ⟨d2, w2⟩
    · rcases w1 with w1 | ⟨d1, w1⟩
      · rw [w2, w1]; rfl
      · rw [w2, w1]; rfl
    · rw [w2]; rfl
  -- the last look
  have c9 : C__law_right_9 [.fz (.own 0), .fz (chT a), .fz (chT b), .fz (.lst (trs a b)), .fz (.lst ((quos a b).map qo)), .fz (.bl (risB (quos a b))), t6, t7, .fz (chT ru), .fz (.lst [fr 1, fr 0, fr (fq b ru)]), .fz (chT (onesR (uni a b))), .fz (chT (zerosR (uni a b))), .fz (.int at_), .fz (.lst ys2), .fz (.int c.1), t15', .no, .no] μ2 = .ok (.lst ((ys2.filter fun _ => false).map id)) μ2 :=
    ev_lc (fun _ => false) id (by simp) (hvs _) (by omega) fun d hd => by
      refine ⟨_, rfl, ?_, fun q => by cases q⟩
      have e1 := is_rule_spec h (n := 20) (by decide) (g3 d hd) μ2
      have e2 := lis_rule_spec h (n := 20) (by decide) (g3 d hd) μ2
      have e3 := like_bl (ruleB (uni a b) d) μ2
      have ew : (wipeE [.fz (.own 0), .fz (chT a), .fz (chT b), .fz (.lst (trs a b)), .fz (.lst ((quos a b).map qo)), .fz (.bl (risB (quos a b))), t6, t7, .fz (chT ru), .fz (.lst [fr 1, fr 0, fr (fq b ru)]), .fz (chT (onesR (uni a b))), .fz (chT (zerosR (uni a b))), .fz (.int at_), .fz (.lst ys2), .fz (.int c.1), t15', .no, .no] [15]).set 15 (.fz d) = [.fz (.own 0), .fz (chT a), .fz (chT b), .fz (.lst (trs a b)), .fz (.lst ((quos a b).map qo)), .fz (.bl (risB (quos a b))), t6, t7, .fz (chT ru), .fz (.lst [fr 1, fr 0, fr (fq b ru)]), .fz (chT (onesR (uni a b))), .fz (chT (zerosR (uni a b))), .fz (.int at_), .fz (.lst ys2), .fz (.int c.1), .fz d, .no, .no] := rfl
      rw [ew]
      simp [e1, e2, e3]
  rw [filter_ff] at c9
  refine ⟨μ2, ?_, hc2⟩
  have k4f : (D.tup [.int 1, .int 1]) = fr 1 ∧ (D.tup [.int 0, .int 1]) = fr 0 := ⟨rfl, rfl⟩
  have slr1 : slT (chT ru) (some 1) none = some (.tup (cutD (ru.map chD) (some 1) none)) := rfl
  have slr2 : slT (chT ru) (some (-1)) none = some (.tup (cutD (ru.map chD) (some (-1)) none)) := rfl
  have slc : slT (chD c) none (some 1) = some (.tup (cutD [.int c.1, fr c.2] none (some 1))) := rfl
  unfold g__law_right F__law_right
  simp only [ev_body, ev_entry]
  refine fin_seq (ρ' := [.fz (.own 0), .fz (chT a), .fz (chT b), .fz (.lst (trs a b)), .no, .no, .no, .no, .no, .no, .no, .no, .no, .no, .no, .no, .no, .no]) (μ' := μ) (by simp [v1]) ?_
  refine fin_seq (ρ' := [.fz (.own 0), .fz (chT a), .fz (chT b), .fz (.lst (trs a b)), .no, .no, .no, .no, .no, .no, .no, .no, .no, .no, .no, .no, .no, .no]) (μ' := μ) (by simp [ca, cb, nb]) ?_
  refine fin_seq (ρ' := [.fz (.own 0), .fz (chT a), .fz (chT b), .fz (.lst (trs a b)), .fz (.lst ((quos a b).map qo)), .no, .no, .no, .no, .no, .no, .no, .no, .no, .no, .no, .no, .no]) (μ' := μ) (asg_ok c1) ?_
  refine fin_seq (ρ' := [.fz (.own 0), .fz (chT a), .fz (chT b), .fz (.lst (trs a b)), .fz (.lst ((quos a b).map qo)), .no, .no, .no, .no, .no, .no, .no, .no, .no, .no, .no, .no, .no]) (μ' := μ) (if_no (not_ok (val_ok (call_ok (cons_ok c2 (cons_ok rfl nil_ok)) k1)))) ?_
  refine fin_seq (ρ' := [.fz (.own 0), .fz (chT a), .fz (chT b), .fz (.lst (trs a b)), .fz (.lst ((quos a b).map qo)), .fz (.bl true), .no, .no, .no, .no, .no, .no, .no, .no, .no, .no, .no, .no]) (μ' := μ) (rfl) ?_
  refine fin_seq (ρ' := [.fz (.own 0), .fz (chT a), .fz (chT b), .fz (.lst (trs a b)), .fz (.lst ((quos a b).map qo)), .fz (.bl (risB (quos a b))), t6, t7, .no, .no, .no, .no, .no, .no, .no, .no, .no, .no]) (μ' := μ) (for_ok hz l1) ?_
  refine fin_seq (ρ' := [.fz (.own 0), .fz (chT a), .fz (chT b), .fz (.lst (trs a b)), .fz (.lst ((quos a b).map qo)), .fz (.bl (risB (quos a b))), t6, t7, .no, .no, .no, .no, .no, .no, .no, .no, .no, .no]) (μ' := μ) (by simp [r1, k2]) ?_
  refine fin_seq (ρ' := [.fz (.own 0), .fz (chT a), .fz (chT b), .fz (.lst (trs a b)), .fz (.lst ((quos a b).map qo)), .fz (.bl (risB (quos a b))), t6, t7, .fz (chT ru), .no, .no, .no, .no, .no, .no, .no, .no, .no]) (μ' := μ1) (asg_ok (cb_ok (cons_ok c4 nil_ok) rfl)) ?_
  refine fin_seq (ρ' := [.fz (.own 0), .fz (chT a), .fz (chT b), .fz (.lst (trs a b)), .fz (.lst ((quos a b).map qo)), .fz (.bl (risB (quos a b))), t6, t7, .fz (chT ru), .fz (.lst [.bl true, fr (fq a ru), fr (fq b ru)]), .no, .no, .no, .no, .no, .no, .no, .no]) (μ' := μ1) (by simp [p1, p2, p3]) ?_
  refine fin_seq (ρ' := [.fz (.own 0), .fz (chT a), .fz (chT b), .fz (.lst (trs a b)), .fz (.lst ((quos a b).map qo)), .fz (.bl (risB (quos a b))), t6, t7, .fz (chT ru), .fz (.lst [.bl true, fr (fq a ru), fr (fq b ru)]), .no, .no, .no, .no, .no, .no, .no, .no]) (μ' := μ1) (by simp [p4, hl1, ha1, k3, x1, x2, y1, y2, nb]) ?_
  refine fin_seq (ρ' := [.fz (.own 0), .fz (chT a), .fz (chT b), .fz (.lst (trs a b)), .fz (.lst ((quos a b).map qo)), .fz (.bl (risB (quos a b))), t6, t7, .fz (chT ru), .fz (.lst [.bl true, fr (fq a ru), fr (fq b ru)]), .fz (chT (onesR (uni a b))), .fz (chT (zerosR (uni a b))), .no, .no, .no, .no, .no, .no]) (μ' := μ1) (par2_ok (cb_ok (cons_ok (c5 _) nil_ok) rfl) (cb_ok (cons_ok (c6 _) nil_ok) rfl)) ?_
  refine fin_seq (ρ' := [.fz (.own 0), .fz (chT a), .fz (chT b), .fz (.lst (trs a b)), .fz (.lst ((quos a b).map qo)), .fz (.bl (risB (quos a b))), t6, t7, .fz (chT ru), .fz (.lst [fr 1, fr 0, fr (fq b ru)]), .fz (chT (onesR (uni a b))), .fz (chT (zerosR (uni a b))), .no, .no, .no, .no, .no, .no]) (μ' := μ1) (by simp [z1, z2, z3]) ?_
  refine fin_seq (ρ' := [.fz (.own 0), .fz (chT a), .fz (chT b), .fz (.lst (trs a b)), .fz (.lst ((quos a b).map qo)), .fz (.bl (risB (quos a b))), t6, t7, .fz (chT ru), .fz (.lst [fr 1, fr 0, fr (fq b ru)]), .fz (chT (onesR (uni a b))), .fz (chT (zerosR (uni a b))), .no, .no, .no, .no, .no, .no]) (μ' := μ1) (by simp [p3, k4f, k4]) ?_
  refine fin_seq (ρ' := [.fz (.own 0), .fz (chT a), .fz (chT b), .fz (.lst (trs a b)), .fz (.lst ((quos a b).map qo)), .fz (.bl (risB (quos a b))), t6, t7, .fz (chT ru), .fz (.lst [fr 1, fr 0, fr (fq b ru)]), .fz (chT (onesR (uni a b))), .fz (chT (zerosR (uni a b))), .fz (.int at_), .no, .no, .no, .no, .no]) (μ' := μ2) (by simp [hlr, e2]) ?_
  refine fin_seq (ρ' := [.fz (.own 0), .fz (chT a), .fz (chT b), .fz (.lst (trs a b)), .fz (.lst ((quos a b).map qo)), .fz (.bl (risB (quos a b))), t6, t7, .fz (chT ru), .fz (.lst [fr 1, fr 0, fr (fq b ru)]), .fz (chT (onesR (uni a b))), .fz (chT (zerosR (uni a b))), .fz (.int at_), .ow (.lst O0), .no, .no, .no, .no]) (μ' := μ2) (by simp [hrev, hlst, slr1, slr2, hadd, O0]) ?_
  refine fin_seq (ρ' := [.fz (.own 0), .fz (chT a), .fz (chT b), .fz (.lst (trs a b)), .fz (.lst ((quos a b).map qo)), .fz (.bl (risB (quos a b))), t6, t7, .fz (chT ru), .fz (.lst [fr 1, fr 0, fr (fq b ru)]), .fz (chT (onesR (uni a b))), .fz (chT (zerosR (uni a b))), .fz (.int at_), .ow (.lst O0), .fz (.int c.1), .no, .no, .no]) (μ' := μ2) (by simp [ix, ixc]) ?_
  refine fin_seq (ρ' := [.fz (.own 0), .fz (chT a), .fz (chT b), .fz (.lst (trs a b)), .fz (.lst ((quos a b).map qo)), .fz (.bl (risB (quos a b))), t6, t7, .fz (chT ru), .fz (.lst [fr 1, fr 0, fr (fq b ru)]), .fz (chT (onesR (uni a b))), .fz (chT (zerosR (uni a b))), .fz (.int at_), .ow (.lst ys1), .fz (.int c.1), t15, .no, .no]) (μ' := μ2) (for_ok (by simp [ix, slc, hlc, L1]) f1) ?_
  refine fin_seq (ρ' := [.fz (.own 0), .fz (chT a), .fz (chT b), .fz (.lst (trs a b)), .fz (.lst ((quos a b).map qo)), .fz (.bl (risB (quos a b))), t6, t7, .fz (chT ru), .fz (.lst [fr 1, fr 0, fr (fq b ru)]), .fz (chT (onesR (uni a b))), .fz (chT (zerosR (uni a b))), .fz (.int at_), .ow (.lst ys2), .fz (.int c.1), t15', .no, .no]) (μ' := μ2) (for_ok (by simp [L2]) f2) ?_
  rw [ev_frz]
  have fz : frzE [.fz (.own 0), .fz (chT a), .fz (chT b), .fz (.lst (trs a b)), .fz (.lst ((quos a b).map qo)), .fz (.bl (risB (quos a b))), t6, t7, .fz (chT ru), .fz (.lst [fr 1, fr 0, fr (fq b ru)]), .fz (chT (onesR (uni a b))), .fz (chT (zerosR (uni a b))), .fz (.int at_), .ow (.lst ys2), .fz (.int c.1), t15', .no, .no] 13 = [.fz (.own 0), .fz (chT a), .fz (chT b), .fz (.lst (trs a b)), .fz (.lst ((quos a b).map qo)), .fz (.bl (risB (quos a b))), t6, t7, .fz (chT ru), .fz (.lst [fr 1, fr 0, fr (fq b ru)]), .fz (chT (onesR (uni a b))), .fz (chT (zerosR (uni a b))), .fz (.int at_), .fz (.lst ys2), .fz (.int c.1), t15', .no, .no] := rfl
  rw [fz, ev_ret, ev_bin, c9]
  rfl
end K80
set_option Elab.async false
set_option linter.all false
set_option maxRecDepth 100000
set_option maxHeartbeats 4000000
namespace K80
open PySem DC
open FR (sumQ fr SzR Dv Few LowOk SumOk)
/-! ### written chances -/
def dI (a b : Int) : Rat := Rat.divInt a b
theorem frI {a b : Int} (h : 0 < b) (g : Int.gcd a b = 1) : (.tup [.int a, .int b] : D) = fr (dI a b) := by
  unfold dI
  rw [FR.fr_divInt h, g]
  simp
def cThird : Chs := [(0, dI 1 3), (1, dI 1 3), (2, dI 1 3)]
def cFall : Chs := [(0, dI 1 3), (1, dI 1 6), (2, dI 1 2)]
def cOne : Chs := [(0, dI 1 2), (1, dI 1 2)]
def cOther : Chs := [(0, dI 1 4), (1, dI 3 4)]
def cSome : Chs := [(0, dI 0 1), (1, dI 1 2)]
def cAll : Chs := [(0, dI 1 1)]
theorem ckB {c : Chs} {shs : List Int} {w : Int} (h : (decide (w = shs.sum) && (decide (0 < w) && (decide (w ≤ 1000000) && (decide (c.map Prod.snd = shs.map fun s => Rat.divInt s w) && (shs.all (fun s => decide (1 ≤ s)) && (rises (c.map Prod.fst) && (c.all (fun x => decide (-1000000 ≤ x.1) && decide (x.1 ≤ 1000000)) && decide (c.length ≤ 40)))))))) = true) : ChOk w.toNat c := by
  simp only [Bool.and_eq_true, decide_eq_true_eq] at h
  obtain ⟨h1, h2, h3, h4, h5, h6, h7, h8⟩ := h
  have asc : ∀ l : List Int, rises l = true → l.Pairwise (· < ·) := by
    intro l
    induction l with
    | nil => intro _; exact List.Pairwise.nil
    | cons a r ih => intro h; exact List.pairwise_cons.mpr ⟨fun x hx => rises_lt a r h x hx, ih (rises_tl h)⟩
  exact parts_ok h1 h2 h3 h4 (fun s hs => of_decide_eq_true (List.all_eq_true.mp h5 s hs)) (asc _ h6) (fun x hx => by
    have := List.all_eq_true.mp h7 x hx
    simpa using this) h8
theorem oThird : ChOk 3 cThird := ckB (shs := [1, 1, 1]) (w := 3) (by decide +kernel)
theorem oFall : ChOk 6 cFall := ckB (shs := [2, 1, 3]) (w := 6) (by decide +kernel)
theorem oOne : ChOk 2 cOne := ckB (shs := [1, 1]) (w := 2) (by decide +kernel)
theorem oOther : ChOk 4 cOther := ckB (shs := [1, 3]) (w := 4) (by decide +kernel)
theorem oAll : ChOk 1 cAll := ckB (shs := [1]) (w := 1) (by decide +kernel)
theorem p1 : Pr 3 6 cThird cFall := ⟨oThird, oFall, by decide, by decide, by decide⟩
theorem p2 : Pr 2 4 cOne cOther := ⟨oOne, oOther, by decide, by decide, by decide⟩
theorem p3 : Pr 1 2 cAll cOne := ⟨oAll, oOne, by decide, by decide, by decide⟩
theorem sOk : RuOk 2 (uni cOne cOther) cSome := ⟨by decide +kernel, fun c hc => by
  simp only [cSome, List.mem_cons, List.not_mem_nil, or_false] at hc
  rcases hc with rfl | rfl
  · exact ⟨(by decide +kernel : (0 : Rat) ≤ dI 0 1), (by decide +kernel : dI 0 1 ≤ (1 : Rat)), ⟨0, (by decide +kernel : dI 0 1 = Rat.divInt 0 ((2 : Nat) : Int))⟩⟩
  · exact ⟨(by decide +kernel : (0 : Rat) ≤ dI 1 2), (by decide +kernel : dI 1 2 ≤ (1 : Rat)), ⟨1, (by decide +kernel : dI 1 2 = Rat.divInt 1 ((2 : Nat) : Int))⟩⟩, by decide, by decide⟩
theorem dI13 : (.tup [.int 1, .int 3] : D) = fr (dI 1 3) := frI (by decide) (by decide)
theorem dI16 : (.tup [.int 1, .int 6] : D) = fr (dI 1 6) := frI (by decide) (by decide)
theorem dI12 : (.tup [.int 1, .int 2] : D) = fr (dI 1 2) := frI (by decide) (by decide)
theorem dI14 : (.tup [.int 1, .int 4] : D) = fr (dI 1 4) := frI (by decide) (by decide)
theorem dI34 : (.tup [.int 3, .int 4] : D) = fr (dI 3 4) := frI (by decide) (by decide)
theorem dI32 : (.tup [.int 3, .int 2] : D) = fr (dI 3 2) := frI (by decide) (by decide)
theorem dI38 : (.tup [.int 3, .int 8] : D) = fr (dI 3 8) := frI (by decide) (by decide)
theorem dI01 : (.tup [.int 0, .int 1] : D) = fr (dI 0 1) := frI (by decide) (by decide)
theorem dI11 : (.tup [.int 1, .int 1] : D) = fr (dI 1 1) := frI (by decide) (by decide)
def told8 : List D := [fr (dI 3 2), .non, .bl true, .bl false, .bl true, .bl false, fr (dI 1 4), fr (dI 3 8)]
theorem cThird_D : chT cThird = .tup [.tup [.int 0, .tup [.int 1, .int 3]], .tup [.int 1, .tup [.int 1, .int 3]], .tup [.int 2, .tup [.int 1, .int 3]]] := by rw [dI13]; rfl
theorem cFall_D : chT cFall = .tup [.tup [.int 0, .tup [.int 1, .int 3]], .tup [.int 1, .tup [.int 1, .int 6]], .tup [.int 2, .tup [.int 1, .int 2]]] := by rw [dI13, dI16, dI12]; rfl
theorem cOne_D : chT cOne = .tup [.tup [.int 0, .tup [.int 1, .int 2]], .tup [.int 1, .tup [.int 1, .int 2]]] := by rw [dI12]; rfl
theorem cOther_D : chT cOther = .tup [.tup [.int 0, .tup [.int 1, .int 4]], .tup [.int 1, .tup [.int 3, .int 4]]] := by rw [dI14, dI34]; rfl
theorem cSome_D : chT cSome = .tup [.tup [.int 0, .tup [.int 0, .int 1]], .tup [.int 1, .tup [.int 1, .int 2]]] := by rw [dI01, dI12]; rfl
theorem cAll_D : chT cAll = .tup [.tup [.int 0, .tup [.int 1, .int 1]]] := by rw [dI11]; rfl
theorem told8_D : D.lst told8 = .lst [.tup [.int 3, .int 2], .non, .bl true, .bl false, .bl true, .bl false, .tup [.int 1, .int 4], .tup [.int 3, .int 8]] := by rw [dI32, dI14, dI38]; rfl
/-! ### even chances, a rule whose shares rise by equal steps -/
def cEven (m : Nat) : Chs := (List.range (m + 1)).map fun (i : Nat) => ((i : Int), Rat.divInt 1 ((m : Nat) + 1 : Int))
def cLine (m : Nat) : Chs := (List.range (m + 1)).map fun (i : Nat) => ((i : Int), Rat.divInt (i : Int) (m : Int))
def meanE (m : Nat) : Rat := sumQ ((cEven m).map fun c => (c.1 : Rat) * c.2)
theorem rg_asc (n : Nat) : ((List.range n).map fun (i : Nat) => (i : Int)).Pairwise (· < ·) := by
  rw [List.pairwise_map]
  exact List.Pairwise.imp (fun {a b} (h : a < b) => Int.ofNat_lt.mpr h) List.pairwise_lt_range
theorem even_keys (m : Nat) : (cEven m).map Prod.fst = (List.range (m + 1)).map fun (i : Nat) => (i : Int) := by unfold cEven; rw [List.map_map]; rfl
theorem line_keys (m : Nat) : (cLine m).map Prod.fst = (List.range (m + 1)).map fun (i : Nat) => (i : Int) := by unfold cLine; rw [List.map_map]; rfl
theorem sum_ones : ∀ n : Nat, (List.replicate n (1 : Int)).sum = (n : Int)
  | 0 => rfl
  | n + 1 => by rw [List.replicate_succ, List.sum_cons, sum_ones n]; omega
theorem even_ok {m : Nat} (hm : m ≤ 12) : ChOk (m + 1) (cEven m) := by
  have h := parts_ok (c := cEven m) (shs := List.replicate (m + 1) 1) (w := ((m : Nat) + 1 : Int)) (by rw [sum_ones]; omega) (by omega) (by omega) (by
    unfold cEven
    rw [List.map_map, List.map_replicate]
    apply List.ext_getElem?
    intro i
    rw [List.getElem?_map, List.getElem?_replicate]
    by_cases hi : i < m + 1
    · rw [if_pos hi, List.getElem?_range hi]; rfl
    · rw [if_neg hi, List.getElem?_eq_none (by simp; omega)]; rfl) (fun s hs => by have := List.eq_of_mem_replicate hs; omega) (by rw [even_keys]; exact rg_asc _) (fun x hx => by
    obtain ⟨i, hi, rfl⟩ := List.mem_map.mp hx
    have := List.mem_range.mp hi
    show -1000000 ≤ (i : Int) ∧ (i : Int) ≤ 1000000
    omega) (by unfold cEven; simp; omega)
  have e : (((m : Nat) + 1 : Int)).toNat = m + 1 := by omega
  rw [e] at h
  exact h
theorem one_ok {R : Nat} {v : Int} {q : Rat} (h : ChOk R [(v, q)]) : ChOk R [(0, q)] := ⟨h.pos, h.lt, Nat.le_refl 1, (by show 1 ≤ 40; decide), List.pairwise_singleton _ _, fun c hc => by
  simp at hc; subst hc; exact ⟨(by decide : (-1000000 : Int) ≤ 0), (by decide : (0 : Int) ≤ 1000000)⟩, fun c hc => by
  simp at hc; subst hc; exact h.ch (v, q) (by simp), h.one⟩
theorem uni_even {R : Nat} {m : Nat} {q : Rat} (hm : m ≤ 12) (h : ChOk R [(0, q)]) : uni (cEven m) [(0, q)] = (List.range (m + 1)).map fun (i : Nat) => (i : Int) := by
  refine asc_uniq (fun k => ?_) (uni_asc _ _) (rg_asc _)
  rw [uni_mem, even_keys]
  constructor
  · rintro (h | h)
    · exact h
    · simp at h
      subst h
      exact List.mem_map.mpr ⟨0, List.mem_range.mpr (by omega), rfl⟩
  · exact .inl
theorem line_ok {R : Nat} {m : Nat} {q : Rat} (hm : m ≤ 12) (h1 : 1 ≤ m) (h : ChOk R [(0, q)]) : RuOk m (uni (cEven m) [(0, q)]) (cLine m) := ⟨by rw [uni_even hm h, line_keys], fun c hc => by
  obtain ⟨i, hi, rfl⟩ := List.mem_map.mp hc
  have := List.mem_range.mp hi
  refine ⟨Rat.divInt_nonneg (by omega) (by omega), ?_, ⟨(i : Int), rfl⟩⟩
  exact dvI_le1 (by omega) (by omega), by omega, by omega⟩
theorem gt_even {m i : Nat} (hm : m ≤ 12) (hi : i < m + 1) : gt (cEven m) (i : Int) = Rat.divInt 1 ((m : Nat) + 1 : Int) := by
  have hin : (i : Int) ∈ (cEven m).map Prod.fst := by rw [even_keys]; exact List.mem_map.mpr ⟨i, List.mem_range.mpr hi, rfl⟩
  obtain ⟨c, h1, _, h3⟩ := gt_mem hin
  rw [h3]
  obtain ⟨j, _, rfl⟩ := List.mem_map.mp h1
  rfl
theorem fq_line {m : Nat} (hm : m ≤ 12) (h1 : 1 ≤ m) : fq (cEven m) (cLine m) = Rat.divInt (meanE m).num (((meanE m).den : Nat) * (m : Int)) := by
  have hm0 : ((m : Int) : Rat) ≠ 0 := fun z => by
    have z' : (m : Int) = 0 := Rat.intCast_inj.mp z
    omega
  have hd0 : (((meanE m).den : Nat) : Rat) ≠ 0 := fun z => by
    have := (meanE m).den_pos
    have z' : (meanE m).den = 0 := Rat.natCast_inj.mp z
    omega
  have e1 : Rat.divInt (meanE m).num (((meanE m).den : Nat) * (m : Int)) = ((m : Int) : Rat)⁻¹ * meanE m := by
    have em := FR.divInt_fr (meanE m)
    rw [Rat.divInt_eq_div] at em ⊢
    have c1 : ((((meanE m).den : Nat) : Int) : Rat) = (((meanE m).den : Nat) : Rat) := rfl
    rw [Rat.intCast_mul, c1]
    rw [c1] at em
    generalize (((meanE m).den : Nat) : Rat) = d at *
    generalize ((meanE m).num : Rat) = n at *
    rw [← em, Rat.div_def, Rat.div_def, Rat.inv_mul_rev]
    grind
  rw [e1]
  unfold meanE
  rw [← FR.sumQ_mul]
  unfold fq cLine cEven
  rw [List.map_map, List.map_map, List.map_map]
  congr 1
  apply List.map_congr_left
  intro i hi
  have hi' := List.mem_range.mp hi
  show Rat.divInt (i : Int) (m : Int) * gt (cEven m) (i : Int) = ((m : Int) : Rat)⁻¹ * (((i : Int) : Rat) * Rat.divInt 1 ((m : Nat) + 1 : Int))
  rw [gt_even hm hi', Rat.divInt_eq_div, Rat.div_def]
  grind
theorem mean_even {m : Nat} (hm : m ≤ 12) (μ : Store) : g_mean_of [chT (cEven m)] μ = .ok (fr (meanE m)) μ ∧ (meanE m).den ≤ m + 1 := by
  have ok := even_ok hm
  have mo : MeanOk (m + 1) (cEven m) := ⟨ok.pos, Nat.lt_trans ok.lt G60_lt, ok.len, fun c hc => by
    have := (ok.key c hc).2
    refine ⟨?_, this⟩
    obtain ⟨i, _, rfl⟩ := List.mem_map.mp hc
    show 0 ≤ (i : Int)
    omega, fun c hc => ⟨Rat.le_of_lt (ok.ch c hc).1, (ok.ch c hc).2⟩⟩
  have e1 : g_need_chances [chT (cEven m)] μ = .ok .non μ := need_ch ok μ
  have e2 : g_mean_in [chT (cEven m)] μ = .ok (fr (meanE m)) μ := mean_in_spec mo μ
  refine ⟨?_, ?_⟩
  · unfold g_mean_of F_mean_of
    simp [e1, e2]
  · have f := few_mean mo
    exact (Dv.sum f.pos f.dv).den f.pos
theorem fin_seq' {F G : SD} {ρ ρ' : DC.Env} {μ μ' : Store} {r : SRes} (h : F ρ μ = .nx ρ' μ') (h2 : G ρ' μ' = r) : sSeq F G ρ μ = r := by rw [ev_seq, h]; exact h2
theorem law_loop {s0 s2 s3 s4 s5 s6 s7 s11 s12 s13 s14 s15 s16 : Sl} : ∀ (ks : List Nat) (s8 s9 s10 : Sl) (μ : Store), (∀ k, k ∈ ks → 1 ≤ k ∧ k ≤ 12) → CupOk μ → ∃ t8 t9 t10 μ', sForL (gN 8) L_law_1 (ks.map fun (k : Nat) => .int (k : Nat)) [s0, .fz (.own 0), s2, s3, s4, s5, s6, s7, s8, s9, s10, s11, s12, s13, s14, s15, s16] μ = .nx [s0, .fz (.own 0), s2, s3, s4, s5, s6, s7, t8, t9, t10, s11, s12, s13, s14, s15, s16] μ' ∧ CupOk μ'
  | [], s8, s9, s10, μ, _, hc => ⟨s8, s9, s10, μ, rfl, hc⟩
  | k :: ks, s8, s9, s10, μ, h, hc => by
    obtain ⟨k1, k2⟩ := h k (by simp)
    obtain ⟨a, b, μ1, e1, c1, ok⟩ := two_spec (most := k) hc k1 (by omega)
    obtain ⟨μ2, e2, c2⟩ := right_spec ok c1
    obtain ⟨t8, t9, t10, μ', e, c⟩ := law_loop (s0 := s0) (s2 := s2) (s3 := s3) (s4 := s4) (s5 := s5) (s6 := s6) (s7 := s7) (s11 := s11) (s12 := s12) (s13 := s13) (s14 := s14) (s15 := s15) (s16 := s16) ks (.fz (.int (k : Nat))) (.fz (chT a)) (.fz (chT b)) μ2 (fun x hx => h x (List.mem_cons_of_mem _ hx)) c2
    refine ⟨t8, t9, t10, μ', ?_, c⟩
    rw [List.map_cons, forL_cons (ρ1 := [s0, .fz (.own 0), s2, s3, s4, s5, s6, s7, .fz (.int (k : Nat)), s9, s10, s11, s12, s13, s14, s15, s16]) (ρ2 := [s0, .fz (.own 0), s2, s3, s4, s5, s6, s7, .fz (.int (k : Nat)), .fz (chT a), .fz (chT b), s11, s12, s13, s14, s15, s16]) (μ2 := μ2) rfl ?_, e]
    refine fin_seq' (ρ' := [s0, .fz (.own 0), s2, s3, s4, s5, s6, s7, .fz (.int (k : Nat)), .fz (chT a), .fz (chT b), s11, s12, s13, s14, s15, s16]) (μ' := μ1) (by simp [e1]) ?_
    exact if_no (not_ok (val_ok (call_ok (cons_ok rfl (cons_ok rfl (cons_ok rfl nil_ok))) e2)))
theorem law_true (ns : List Int) (hl : ns.length ≤ 63) : g_law [.scr ns] [] = .ok (.bl true) [] := by
  obtain ⟨x, y, e0, x0, y0⟩ := cup_spec ns hl []
  have c0 : CupOk [[x, y]] := ⟨x, y, rfl, x0, y0⟩
  have t1 := are_rising_spec p1 [[x, y]]
  have hr1 : risB (quos cThird cFall) = false := by decide +kernel
  rw [hr1] at t1
  have t2 := is_rule_spec p2 (n := 5) (by decide) (d := .tup [.tup [.int 0, .tup [.int 0, .int 1]], .tup [.int 1, .tup [.int 3, .int 2]]]) (by rfl) [[x, y]]
  have hr2 : ruleB (uni cOne cOther) (.tup [.tup [.int 0, .tup [.int 0, .int 1]], .tup [.int 1, .tup [.int 3, .int 2]]]) = false := by decide +kernel
  rw [hr2] at t2
  have k1 : g__law_like 12 [.lst [.bl false, .bl false], .lst [.bl false, .bl false]] [[x, y]] = .ok (.bl true) [[x, y]] := like12 _ rfl rfl
  have u1 := quotient_of_spec p2 (v := 1) (by decide +kernel) [[x, y]]
  have q1 : quo (gt cOne 1) (gt cOther 1) = some (dI 3 2) := by decide +kernel
  rw [q1] at u1
  have u2 := quotient_of_spec p3 (v := 1) (by decide +kernel) [[x, y]]
  have q2 : quo (gt cAll 1) (gt cOne 1) = none := by decide +kernel
  rw [q2] at u2
  have u3 := are_rising_spec p2 [[x, y]]
  have q3 : risB (quos cOne cOther) = true := by decide +kernel
  rw [q3] at u3
  have u4 := are_rising_spec p2.symm [[x, y]]
  have q4 : risB (quos cOther cOne) = false := by decide +kernel
  rw [q4] at u4
  have u5 := is_rule_spec p2 (n := 4) (by decide) (chT_pd cSome) [[x, y]]
  rw [ru_rule sOk] at u5
  have hsl : slT (chT cSome) (some 1) none = some (.tup (cutD (cSome.map chD) (some 1) none)) := rfl
  have u6 := is_rule_spec p2 (n := 4) (by decide) (d := .tup (cutD (cSome.map chD) (some 1) none)) (by rfl) [[x, y]]
  have q6 : ruleB (uni cOne cOther) (.tup (cutD (cSome.map chD) (some 1) none)) = false := by decide +kernel
  rw [q6] at u6
  have u7 := false_share_spec p2 sOk [[x, y]]
  have q7 : fq cOne cSome = dI 1 4 := by decide +kernel
  rw [q7] at u7
  have u8 := power_spec p2 sOk [[x, y]]
  have q8 : fq cOther cSome = dI 3 8 := by decide +kernel
  rw [q8] at u8
  have hadd : addD (.lst [fr (dI 3 2), .non, .bl true, .bl false]) (.lst [.bl true, .bl false, fr (dI 1 4), fr (dI 3 8)]) = some (.lst told8) := addL_ok (by simp)
  have k2 : g__law_like 12 [.lst told8, .lst told8] [[x, y]] = .ok (.bl true) [[x, y]] := like_list (by simp [told8]) (fun d hd => by
    simp only [told8, List.mem_cons, List.not_mem_nil, or_false] at hd
    rcases hd with rfl | rfl | rfl | rfl | rfl | rfl | rfl | rfl
    · exact fr_both _
    · exact ⟨rfl, rfl⟩
    · exact ⟨rfl, rfl⟩
    · exact ⟨rfl, rfl⟩
    · exact ⟨rfl, rfl⟩
    · exact ⟨rfl, rfl⟩
    · exact fr_both _
    · exact fr_both _) _
  obtain ⟨t8, t9, t10, μ1, l1, c1⟩ := law_loop (s0 := .fz (.scr ns)) (s2 := .fz (chT cThird)) (s3 := .fz (chT cFall)) (s4 := .fz (chT cOne)) (s5 := .fz (chT cOther)) (s6 := .fz (chT cSome)) (s7 := .fz (.lst told8)) (s11 := .no) (s12 := .no) (s13 := .no) (s14 := .no) (s15 := .no) (s16 := .no) [1, 3, 6, 12] .no .no .no [[x, y]] (by decide) c0
  obtain ⟨v, μ2, r1, c2, v0, v1⟩ := roll_n (k := 12) c1 (by decide) (by decide)
  obtain ⟨m, hm⟩ : ∃ m : Nat, 1 + v = (m : Int) := ⟨(1 + v).toNat, by omega⟩
  have m1 : 1 ≤ m := by omega
  have m2 : m ≤ 12 := by omega
  obtain ⟨c, R, μ3, r2, c3', oc, oR, lc, kc⟩ := chances_spec (most := 1) c2 (by decide) (by decide)
  obtain ⟨w, q, rfl⟩ : ∃ w q, c = [(w, q)] := by
    have h1 := oc.len0
    match c, h1, lc with
    | [(w, q)], _, _ => exact ⟨w, q, rfl⟩
    | [], h1, _ => simp at h1
    | _ :: _ :: _, _, h2 => simp at h2
  have oc' := one_ok oc
  have pr : Pr (m + 1) R (cEven m) [(0, q)] := ⟨even_ok m2, oc', by unfold cEven; simp; omega, by omega, by omega⟩
  have ro := line_ok m2 m1 oc'
  have f1 := false_share_spec pr ro μ3
  have me := mean_even m2 μ3
  have fl := fq_line m2 m1
  have el : g__law_least [.int (meanE m).num, .int (((meanE m).den : Nat) * (m : Int))] μ3 = .ok (fr (fq (cEven m) (cLine m))) μ3 := by
    rw [fl]
    have hp : 0 < (((meanE m).den : Nat) : Int) * (m : Int) := Int.mul_pos (FR.den_pos _) (by omega)
    have hb : (((meanE m).den : Nat) : Int) * (m : Int) ≤ 13 * 12 := Int.mul_le_mul (by have := me.2; omega) (by omega) (by omega) (by omega)
    exact least_of hp (by omega) μ3
  have k3 : g__law_like 12 [fr (fq (cEven m) (cLine m)), fr (fq (cEven m) (cLine m))] μ3 = .ok (.bl true) μ3 := like12 _ (fr_pd _ 10) (fr_lb _ 12)
  have rg : ∀ (ρ : DC.Env) (μ : Store), ρ[11]? = some (.fz (.int (m : Nat))) → (iRg1 (lCons (xBin addD (xVar 11) (xC (.int 1))) lNil)) ρ μ = .ok (rangeD 0 (m + 1)) μ := fun ρ μ h => by
    unfold iRg1
    have e : ((m : Int) + 1).toNat = m + 1 := by omega
    simp [h, rgOk_int (i := (m : Nat) + 1) (by omega) (by omega), e]
  have rgm : ∀ {d : D} {n : Nat}, d ∈ rangeD 0 n → ∃ i : Nat, i < n ∧ d = .int (i : Nat) := fun {d n} hd => by
    unfold rangeD at hd
    obtain ⟨i, hi, rfl⟩ := List.mem_map.mp hd
    exact ⟨i, List.mem_range.mp hi, by rw [Int.zero_add]⟩
  have ce : C_law_2 [.fz (.scr ns), .fz (.own 0), .fz (chT cThird), .fz (chT cFall), .fz (chT cOne), .fz (chT cOther), .fz (chT cSome), .fz (.lst told8), t8, t9, t10, .fz (.int (m : Nat)), .no, .no, .no, .no, .no] μ2 = .ok (.lst ((rangeD 0 (m + 1)).map fun d => D.tup [d, fr (Rat.divInt 1 ((m : Nat) + 1 : Int))])) μ2 :=
    ev_lcT _ (rg _ _ rfl) rfl (by rw [rangeD_len]; omega) fun d hd => by
      obtain ⟨i, hi, rfl⟩ := rgm hd
      refine ⟨_, rfl, ?_⟩
      have e := least_of (a := 1) (b := (m : Nat) + 1) (by omega) (by omega) μ2
      have ew : (wipeE [.fz (.scr ns), .fz (.own 0), .fz (chT cThird), .fz (chT cFall), .fz (chT cOne), .fz (chT cOther), .fz (chT cSome), .fz (.lst told8), t8, t9, t10, .fz (.int (m : Nat)), .no, .no, .no, .no, .no] [14]).set 14 (.fz (.int (i : Nat))) = [.fz (.scr ns), .fz (.own 0), .fz (chT cThird), .fz (chT cFall), .fz (chT cOne), .fz (chT cOther), .fz (chT cSome), .fz (.lst told8), t8, t9, t10, .fz (.int (m : Nat)), .no, .no, .fz (.int (i : Nat)), .no, .no] := rfl
      rw [ew]
      simp [e]
  have me2 : (rangeD 0 (m + 1)).map (fun d => D.tup [d, fr (Rat.divInt 1 ((m : Nat) + 1 : Int))]) = (cEven m).map chD := by
    unfold rangeD cEven
    rw [List.map_map, List.map_map]
    apply List.map_congr_left
    intro i _
    show D.tup [.int (0 + (i : Int)), fr (Rat.divInt 1 ((m : Nat) + 1 : Int))] = D.tup [.int (i : Int), fr (Rat.divInt 1 ((m : Nat) + 1 : Int))]
    rw [Int.zero_add]
  rw [me2] at ce
  have c3 : C_law_3 [.fz (.scr ns), .fz (.own 0), .fz (chT cThird), .fz (chT cFall), .fz (chT cOne), .fz (chT cOther), .fz (chT cSome), .fz (.lst told8), t8, .fz (chT (cEven m)), .fz (chT [(w, q)]), .fz (.int (m : Nat)), .no, .no, .no, .no, .no] μ3 = .ok (.lst ([D.tup [.int 0, chD (w, q)]].map fun _ => chD (0, q))) μ3 :=
    ev_lcT _ (by rfl) rfl (by show 1 ≤ 1000000; decide) fun d hd => by
      simp only [List.mem_cons, List.not_mem_nil, or_false] at hd
      subst hd
      exact ⟨_, rfl, rfl⟩
  have c4 : C_law_4 [.fz (.scr ns), .fz (.own 0), .fz (chT cThird), .fz (chT cFall), .fz (chT cOne), .fz (chT cOther), .fz (chT cSome), .fz (.lst told8), t8, .fz (chT (cEven m)), .fz (chT [(0, q)]), .fz (.int (m : Nat)), .no, .no, .no, .no, .no] μ3 = .ok (.lst ((rangeD 0 (m + 1)).map fun d => match d with | .int i => D.tup [.int i, fr (Rat.divInt i (m : Int))] | _ => .non)) μ3 :=
    ev_lcT _ (rg _ _ rfl) rfl (by rw [rangeD_len]; omega) fun d hd => by
      obtain ⟨i, hi, rfl⟩ := rgm hd
      refine ⟨_, rfl, ?_⟩
      have e := least_of (a := (i : Nat)) (b := (m : Nat)) (by omega) (by omega) μ3
      have ew : (wipeE [.fz (.scr ns), .fz (.own 0), .fz (chT cThird), .fz (chT cFall), .fz (chT cOne), .fz (chT cOther), .fz (chT cSome), .fz (.lst told8), t8, .fz (chT (cEven m)), .fz (chT [(0, q)]), .fz (.int (m : Nat)), .no, .no, .no, .no, .no] [14]).set 14 (.fz (.int (i : Nat))) = [.fz (.scr ns), .fz (.own 0), .fz (chT cThird), .fz (chT cFall), .fz (chT cOne), .fz (chT cOther), .fz (chT cSome), .fz (.lst told8), t8, .fz (chT (cEven m)), .fz (chT [(0, q)]), .fz (.int (m : Nat)), .no, .no, .fz (.int (i : Nat)), .no, .no] := rfl
      rw [ew]
      simp [e]
  have me4 : ((rangeD 0 (m + 1)).map fun d => match d with | .int i => D.tup [.int i, fr (Rat.divInt i (m : Int))] | _ => .non) = (cLine m).map chD := by
    unfold rangeD cLine
    rw [List.map_map, List.map_map]
    apply List.map_congr_left
    intro i _
    show D.tup [.int (0 + (i : Int)), fr (Rat.divInt (0 + (i : Int)) (m : Int))] = D.tup [.int (i : Int), fr (Rat.divInt (i : Int) (m : Int))]
    rw [Int.zero_add]
  rw [me4] at c4
  have u0 : qo (some (dI 3 2)) = fr (dI 3 2) := rfl
  have hmul : mulD (.int (((meanE m).den : Nat) : Int)) (.int (m : Int)) = some (.int ((((meanE m).den : Nat) : Int) * (m : Int))) := mul_small (by have := me.2; omega)
  have me := me.1
  unfold g_law F_law
  rw [ev_body]
  have hen : entry 17 [.scr ns] = [.fz (.scr ns), .no, .no, .no, .no, .no, .no, .no, .no, .no, .no, .no, .no, .no, .no, .no, .no] := rfl
  have st0 : (sAsgF 1 (xCall g__law_cup (lCons (xVar 0) lNil))) [.fz (.scr ns), .no, .no, .no, .no, .no, .no, .no, .no, .no, .no, .no, .no, .no, .no, .no, .no] [] = .nx [.fz (.scr ns), .ow (.lst [.int x, .int y]), .no, .no, .no, .no, .no, .no, .no, .no, .no, .no, .no, .no, .no, .no, .no] [] := by
    simp [e0]
  rw [hen, ev_seq, st0, seq_nx, ev_prom (a := x) (b := y) (μ' := μ3) rfl]
  · rfl
  · show _ = SRes.rt (.bl true) μ3
    rw [show ([Sl.fz (.scr ns), .ow (.lst [.int x, .int y]), .no, .no, .no, .no, .no, .no, .no, .no, .no, .no, .no, .no, .no, .no, .no].set 1 (.fz (.own ([] : Store).length))) = [.fz (.scr ns), .fz (.own 0), .no, .no, .no, .no, .no, .no, .no, .no, .no, .no, .no, .no, .no, .no, .no] from rfl, show (([] : Store) ++ [[x, y]]) = [[x, y]] from rfl]
    refine fin_seq' (ρ' := [.fz (.scr ns), .fz (.own 0), .fz (chT cThird), .fz (chT cFall), .no, .no, .no, .no, .no, .no, .no, .no, .no, .no, .no, .no, .no]) (μ' := [[x, y]]) (by simp [cThird_D, cFall_D]) ?_
    refine fin_seq' (ρ' := [.fz (.scr ns), .fz (.own 0), .fz (chT cThird), .fz (chT cFall), .fz (chT cOne), .fz (chT cOther), .no, .no, .no, .no, .no, .no, .no, .no, .no, .no, .no]) (μ' := [[x, y]]) (by simp [cOne_D, cOther_D]) ?_
    refine fin_seq' (ρ' := [.fz (.scr ns), .fz (.own 0), .fz (chT cThird), .fz (chT cFall), .fz (chT cOne), .fz (chT cOther), .no, .no, .no, .no, .no, .no, .no, .no, .no, .no, .no]) (μ' := [[x, y]]) (by simp [t1, t2, k1]) ?_
    refine fin_seq' (ρ' := [.fz (.scr ns), .fz (.own 0), .fz (chT cThird), .fz (chT cFall), .fz (chT cOne), .fz (chT cOther), .no, .no, .no, .no, .no, .no, .no, .no, .no, .no, .no]) (μ' := [[x, y]]) (by simp [cOne_D, cOther_D]) ?_
    refine fin_seq' (ρ' := [.fz (.scr ns), .fz (.own 0), .fz (chT cThird), .fz (chT cFall), .fz (chT cOne), .fz (chT cOther), .fz (chT cSome), .no, .no, .no, .no, .no, .no, .no, .no, .no, .no]) (μ' := [[x, y]]) (by simp [cSome_D]) ?_
    refine fin_seq' (ρ' := [.fz (.scr ns), .fz (.own 0), .fz (chT cThird), .fz (chT cFall), .fz (chT cOne), .fz (chT cOther), .fz (chT cSome), .fz (.lst [fr (dI 3 2), .non, .bl true, .bl false]), .no, .no, .no, .no, .no, .no, .no, .no, .no]) (μ' := [[x, y]]) (by simp [← cAll_D, u0, u1, u2, u3, u4, qo]) ?_
    refine fin_seq' (ρ' := [.fz (.scr ns), .fz (.own 0), .fz (chT cThird), .fz (chT cFall), .fz (chT cOne), .fz (chT cOther), .fz (chT cSome), .fz (.lst told8), .no, .no, .no, .no, .no, .no, .no, .no, .no]) (μ' := [[x, y]]) (by simp [u5, u6, u7, u8, hsl, hadd]) ?_
    refine fin_seq' (ρ' := [.fz (.scr ns), .fz (.own 0), .fz (chT cThird), .fz (chT cFall), .fz (chT cOne), .fz (chT cOther), .fz (chT cSome), .fz (.lst told8), .no, .no, .no, .no, .no, .no, .no, .no, .no]) (μ' := [[x, y]]) (by simp [← told8_D, k2]) ?_
    refine fin_seq' (ρ' := [.fz (.scr ns), .fz (.own 0), .fz (chT cThird), .fz (chT cFall), .fz (chT cOne), .fz (chT cOther), .fz (chT cSome), .fz (.lst told8), t8, t9, t10, .no, .no, .no, .no, .no, .no]) (μ' := μ1) (for_ok rfl l1) ?_
    refine fin_seq' (ρ' := [.fz (.scr ns), .fz (.own 0), .fz (chT cThird), .fz (chT cFall), .fz (chT cOne), .fz (chT cOther), .fz (chT cSome), .fz (.lst told8), t8, t9, t10, .fz (.int (m : Nat)), .no, .no, .no, .no, .no]) (μ' := μ2) (by simp [r1, hm]) ?_
    refine fin_seq' (ρ' := [.fz (.scr ns), .fz (.own 0), .fz (chT cThird), .fz (chT cFall), .fz (chT cOne), .fz (chT cOther), .fz (chT cSome), .fz (.lst told8), t8, .fz (chT (cEven m)), .fz (chT [(w, q)]), .fz (.int (m : Nat)), .no, .no, .no, .no, .no]) (μ' := μ3) (par2_ok (cb_ok (cons_ok ce nil_ok) rfl) (call_ok (cons_ok rfl (cons_ok rfl nil_ok)) r2)) ?_
    refine fin_seq' (ρ' := [.fz (.scr ns), .fz (.own 0), .fz (chT cThird), .fz (chT cFall), .fz (chT cOne), .fz (chT cOther), .fz (chT cSome), .fz (.lst told8), t8, .fz (chT (cEven m)), .fz (chT [(0, q)]), .fz (.int (m : Nat)), .no, .no, .no, .no, .no]) (μ' := μ3) (asg_ok (cb_ok (cons_ok c3 nil_ok) rfl)) ?_
    refine fin_seq' (ρ' := [.fz (.scr ns), .fz (.own 0), .fz (chT cThird), .fz (chT cFall), .fz (chT cOne), .fz (chT cOther), .fz (chT cSome), .fz (.lst told8), t8, .fz (chT (cEven m)), .fz (chT [(0, q)]), .fz (.int (m : Nat)), .fz (chT (cLine m)), .no, .no, .no, .no]) (μ' := μ3) (asg_ok (cb_ok (cons_ok c4 nil_ok) rfl)) ?_
    refine fin_seq' (ρ' := [.fz (.scr ns), .fz (.own 0), .fz (chT cThird), .fz (chT cFall), .fz (chT cOne), .fz (chT cOther), .fz (chT cSome), .fz (.lst told8), t8, .fz (chT (cEven m)), .fz (chT [(0, q)]), .fz (.int (m : Nat)), .fz (chT (cLine m)), .fz (fr (meanE m)), .no, .no, .no]) (μ' := μ3) (asg_ok (call_ok (cons_ok rfl nil_ok) me)) ?_
    simp [f1, FR.ix0, FR.ix1, hmul, el, k3]
end K80
set_option Elab.async false
set_option linter.all false
set_option maxRecDepth 100000
set_option maxHeartbeats 4000000
namespace K80
open PySem PySem.Spec PyProof.Rows L2 DC
def spLaw (K : PySem.W.Frag) : Sp := fun vs H Q _ => ∃ (a : Addr) (ns : List Int), vs = [.ref a] ∧ SqL K H a (ns.map V.int) ∧ ns.length ≤ 63 ∧ ∀ H', Q (.bl true) H'
theorem law_sp {K : PySem.W.Frag} {cl : Nat → Addr} (vs : List V) (H : Hp) (Q : VK) (E : XK) (h : spLaw K vs H Q E) : SpD K cl 1 g_law vs H Q E := by
  obtain ⟨a, ns, rfl, hS, hl, q⟩ := h
  have nv : vw ⟨fun _ => False, [], H⟩ [] H = H := by
    funext b
    unfold vw
    rw [if_neg]
    rintro (z | z | z)
    · exact z
    · cases z
    · cases z
  refine ⟨fun _ => False, [], [], [.scr ns], ⟨rfl, rfl, fun i o s x h => (by simp at h), fun i j a h => (by simp at h), fun a h => (by cases h), fun a h => (by cases h), List.nodup_nil, rfl, fun n a ns h => (by simp at h), fun b o h _ => h, fun b h => h.elim⟩, .cons (.scr (by rw [nv]; exact hS)) .nil, rfl, ?_⟩
  rw [law_true ns hl]
  intro v H' r p
  rw [p.inv_bl]
  exact q H'
theorem all_mk {l : PySem.W.OpenLaw} {w : World} {K : PySem.W.Frag} {h : Heap} {mg : Str → Option Value} {fa : Addr} {f0 f1 f2 f3 f4 f5 f6 f7 f8 f9 f10 f11 f12 f13 f14 f15 f16 f17 f18 f19 f20 f21 f22 f23 f24 f25 f26 f27 f28 f29 f30 f31 f32 f33 f34 f35 f36 f37 f38 f39 f40 f41 f42 f43 f44 f45 f46 f47 f48 f49 f50 : Addr} (X : K.In h) (G : h.Ns mainGlobals mg) (hfa : mg "law" = some (.ref fa))
    {od0 an0 od1 an1 od2 an2 od3 an3 od4 an4 od5 an5 od6 an6 od7 an7 od8 an8 od9 an9 od10 an10 od11 an11 od12 an12 od13 an13 od14 an14 od15 an15 od16 an16 od17 an17 od18 an18 od19 an19 od20 an20 od21 an21 od22 an22 od23 an23 od24 an24 od25 an25 od26 an26 od27 an27 od28 an28 od29 an29 od30 an30 od31 an31 od32 an32 od33 an33 od34 an34 od35 an35 od36 an36 od37 an37 od38 an38 od39 an39 od40 an40 od41 an41 od42 an42 od43 an43 od44 an44 od45 an45 od46 an46 od47 an47 od48 an48 od49 an49 od50 an50 : Option Addr} {sl0 sl1 sl2 sl3 sl4 sl5 sl6 sl7 sl8 sl9 sl10 sl11 sl12 sl13 sl14 sl15 sl16 sl17 sl18 sl19 sl20 sl21 sl22 sl23 sl24 sl25 sl26 sl27 sl28 sl29 sl30 sl31 sl32 sl33 sl34 sl35 sl36 sl37 sl38 sl39 sl40 sl41 sl42 sl43 sl44 sl45 sl46 sl47 sl48 sl49 sl50 : Array (Option Value)} {oc0 kV0 dc0 pm0 cd0 ct0 oc1 kV1 dc1 pm1 cd1 ct1 oc2 kV2 dc2 pm2 cd2 ct2 oc3 kV3 dc3 pm3 cd3 ct3 oc4 kV4 dc4 pm4 cd4 ct4 oc5 kV5 dc5 pm5 cd5 ct5 oc6 kV6 dc6 pm6 cd6 ct6 oc7 kV7 dc7 pm7 cd7 ct7 oc8 kV8 dc8 pm8 cd8 ct8 oc9 kV9 dc9 pm9 cd9 ct9 oc10 kV10 dc10 pm10 cd10 ct10 oc11 kV11 dc11 pm11 cd11 ct11 oc12 kV12 dc12 pm12 cd12 ct12 oc13 kV13 dc13 pm13 cd13 ct13 oc14 kV14 dc14 pm14 cd14 ct14 oc15 kV15 dc15 pm15 cd15 ct15 oc16 kV16 dc16 pm16 cd16 ct16 oc17 kV17 dc17 pm17 cd17 ct17 oc18 kV18 dc18 pm18 cd18 ct18 oc19 kV19 dc19 pm19 cd19 ct19 oc20 kV20 dc20 pm20 cd20 ct20 oc21 kV21 dc21 pm21 cd21 ct21 oc22 kV22 dc22 pm22 cd22 ct22 oc23 kV23 dc23 pm23 cd23 ct23 oc24 kV24 dc24 pm24 cd24 ct24 oc25 kV25 dc25 pm25 cd25 ct25 oc26 kV26 dc26 pm26 cd26 ct26 oc27 kV27 dc27 pm27 cd27 ct27 oc28 kV28 dc28 pm28 cd28 ct28 oc29 kV29 dc29 pm29 cd29 ct29 oc30 kV30 dc30 pm30 cd30 ct30 oc31 kV31 dc31 pm31 cd31 ct31 oc32 kV32 dc32 pm32 cd32 ct32 oc33 kV33 dc33 pm33 cd33 ct33 oc34 kV34 dc34 pm34 cd34 ct34 oc35 kV35 dc35 pm35 cd35 ct35 oc36 kV36 dc36 pm36 cd36 ct36 oc37 kV37 dc37 pm37 cd37 ct37 oc38 kV38 dc38 pm38 cd38 ct38 oc39 kV39 dc39 pm39 cd39 ct39 oc40 kV40 dc40 pm40 cd40 ct40 oc41 kV41 dc41 pm41 cd41 ct41 oc42 kV42 dc42 pm42 cd42 ct42 oc43 kV43 dc43 pm43 cd43 ct43 oc44 kV44 dc44 pm44 cd44 ct44 oc45 kV45 dc45 pm45 cd45 ct45 oc46 kV46 dc46 pm46 cd46 ct46 oc47 kV47 dc47 pm47 cd47 ct47 oc48 kV48 dc48 pm48 cd48 ct48 oc49 kV49 dc49 pm49 cd49 ct49 oc50 kV50 dc50 pm50 cd50 ct50 : Value} {t0 t1 t2 t3 u3 t4 u4 : Tok}{q3 : Addr} {qd3 : Option Addr} {qn3 : Nat} {qs3 : Array (Option Value)} {q4 : Addr} {qd4 : Option Addr} {qn4 : Nat} {qs4 : Array (Option Value)}
    (a0 : PySem.W.nsIn K mainGlobals "_law_cup" = some (some (.ref f0))) (l0 : K.lookup f0 = some ⟨oc0, od0, .func (PySem.W.fnOf "_law_cup" "_law_cup" (defArgs st__law_cup) (defBody st__law_cup) (defScope st__law_cup) .none kV0 dc0 pm0 an0 cd0 ct0), sl0⟩) (c0 : PySem.W.codeIn K cd0 "_law_cup" = true) (k0 : PySem.W.keepIn K (.ref f0) = true)
    (a1 : PySem.W.nsIn K mainGlobals "is_rising" = some (some (.ref f1))) (l1 : K.lookup f1 = some ⟨oc1, od1, .func (PySem.W.fnOf "is_rising" "is_rising" (defArgs st_is_rising) (defBody st_is_rising) (defScope st_is_rising) .none kV1 dc1 pm1 an1 cd1 ct1), sl1⟩) (c1 : PySem.W.codeIn K cd1 "is_rising" = true) (k1 : PySem.W.keepIn K (.ref f1) = true)
    (a2 : PySem.W.nsIn K mainGlobals "is_tuple_of" = some (some (.ref f2))) (l2 : K.lookup f2 = some ⟨oc2, od2, .func (PySem.W.fnOf "is_tuple_of" "is_tuple_of" (defArgs st_is_tuple_of) (defBody st_is_tuple_of) (defScope st_is_tuple_of) .none kV2 dc2 pm2 an2 cd2 ct2), sl2⟩) (c2 : PySem.W.codeIn K cd2 "is_tuple_of" = true) (k2 : PySem.W.keepIn K (.ref f2) = true)
    (a3 : PySem.W.nsIn K mainGlobals "divisor_of" = some (some (.ref f3))) (l3 : K.lookup f3 = some ⟨oc3, od3, .func (PySem.W.fnOf "divisor_of" "divisor_of" (defArgs st_divisor_of) (defBody st_divisor_of) (defScope st_divisor_of) .none kV3 dc3 pm3 an3 cd3 ct3), sl3⟩) (c3 : PySem.W.codeIn K cd3 "divisor_of" = true) (k3 : PySem.W.keepIn K (.ref f3) = true)
    (a4 : PySem.W.nsIn K mainGlobals "lowest" = some (some (.ref f4))) (l4 : K.lookup f4 = some ⟨oc4, od4, .func (PySem.W.fnOf "lowest" "lowest" (defArgs st_lowest) (defBody st_lowest) (defScope st_lowest) .none kV4 dc4 pm4 an4 cd4 ct4), sl4⟩) (c4 : PySem.W.codeIn K cd4 "lowest" = true) (k4 : PySem.W.keepIn K (.ref f4) = true)
    (a5 : PySem.W.nsIn K mainGlobals "sum_in" = some (some (.ref f5))) (l5 : K.lookup f5 = some ⟨oc5, od5, .func (PySem.W.fnOf "sum_in" "sum_in" (defArgs st_sum_in) (defBody st_sum_in) (defScope st_sum_in) .none kV5 dc5 pm5 an5 cd5 ct5), sl5⟩) (c5 : PySem.W.codeIn K cd5 "sum_in" = true) (k5 : PySem.W.keepIn K (.ref f5) = true)
    (a6 : PySem.W.nsIn K mainGlobals "sum_over" = some (some (.ref f6))) (l6 : K.lookup f6 = some ⟨oc6, od6, .func (PySem.W.fnOf "sum_over" "sum_over" (defArgs st_sum_over) (defBody st_sum_over) (defScope st_sum_over) .none kV6 dc6 pm6 an6 cd6 ct6), sl6⟩) (c6 : PySem.W.codeIn K cd6 "sum_over" = true) (k6 : PySem.W.keepIn K (.ref f6) = true)
    (a7 : PySem.W.nsIn K mainGlobals "is_integer" = some (some (.ref f7))) (l7 : K.lookup f7 = some ⟨oc7, od7, .func (PySem.W.fnOf "is_integer" "is_integer" (defArgs st_is_integer) (defBody st_is_integer) (defScope st_is_integer) .none kV7 dc7 pm7 an7 cd7 ct7), sl7⟩) (c7 : PySem.W.codeIn K cd7 "is_integer" = true) (k7 : PySem.W.keepIn K (.ref f7) = true)
    (a8 : PySem.W.nsIn K mainGlobals "fits_fraction" = some (some (.ref f8))) (l8 : K.lookup f8 = some ⟨oc8, od8, .func (PySem.W.fnOf "fits_fraction" "fits_fraction" (defArgs st_fits_fraction) (defBody st_fits_fraction) (defScope st_fits_fraction) .none kV8 dc8 pm8 an8 cd8 ct8), sl8⟩) (c8 : PySem.W.codeIn K cd8 "fits_fraction" = true) (k8 : PySem.W.keepIn K (.ref f8) = true)
    (a9 : PySem.W.nsIn K mainGlobals "fits_chance" = some (some (.ref f9))) (l9 : K.lookup f9 = some ⟨oc9, od9, .func (PySem.W.fnOf "fits_chance" "fits_chance" (defArgs st_fits_chance) (defBody st_fits_chance) (defScope st_fits_chance) .none kV9 dc9 pm9 an9 cd9 ct9), sl9⟩) (c9 : PySem.W.codeIn K cd9 "fits_chance" = true) (k9 : PySem.W.keepIn K (.ref f9) = true)
    (a10 : PySem.W.nsIn K mainGlobals "is_whole" = some (some (.ref f10))) (l10 : K.lookup f10 = some ⟨oc10, od10, .func (PySem.W.fnOf "is_whole" "is_whole" (defArgs st_is_whole) (defBody st_is_whole) (defScope st_is_whole) .none kV10 dc10 pm10 an10 cd10 ct10), sl10⟩) (c10 : PySem.W.codeIn K cd10 "is_whole" = true) (k10 : PySem.W.keepIn K (.ref f10) = true)
    (a11 : PySem.W.nsIn K mainGlobals "is_share" = some (some (.ref f11))) (l11 : K.lookup f11 = some ⟨oc11, od11, .func (PySem.W.fnOf "is_share" "is_share" (defArgs st_is_share) (defBody st_is_share) (defScope st_is_share) .none kV11 dc11 pm11 an11 cd11 ct11), sl11⟩) (c11 : PySem.W.codeIn K cd11 "is_share" = true) (k11 : PySem.W.keepIn K (.ref f11) = true)
    (a12 : PySem.W.nsIn K mainGlobals "fits_chances" = some (some (.ref f12))) (l12 : K.lookup f12 = some ⟨oc12, od12, .func (PySem.W.fnOf "fits_chances" "fits_chances" (defArgs st_fits_chances) (defBody st_fits_chances) (defScope st_fits_chances) .none kV12 dc12 pm12 an12 cd12 ct12), sl12⟩) (c12 : PySem.W.codeIn K cd12 "fits_chances" = true) (k12 : PySem.W.keepIn K (.ref f12) = true)
    (a13 : PySem.W.nsIn K mainGlobals "need_chances" = some (some (.ref f13))) (l13 : K.lookup f13 = some ⟨oc13, od13, .func (PySem.W.fnOf "need_chances" "need_chances" (defArgs st_need_chances) (defBody st_need_chances) (defScope st_need_chances) .none kV13 dc13 pm13 an13 cd13 ct13), sl13⟩) (c13 : PySem.W.codeIn K cd13 "need_chances" = true) (k13 : PySem.W.keepIn K (.ref f13) = true)
    (a14 : PySem.W.nsIn K mainGlobals "mean_in" = some (some (.ref f14))) (l14 : K.lookup f14 = some ⟨oc14, od14, .func (PySem.W.fnOf "mean_in" "mean_in" (defArgs st_mean_in) (defBody st_mean_in) (defScope st_mean_in) .none kV14 dc14 pm14 an14 cd14 ct14), sl14⟩) (c14 : PySem.W.codeIn K cd14 "mean_in" = true) (k14 : PySem.W.keepIn K (.ref f14) = true)
    (a15 : PySem.W.nsIn K mainGlobals "mean_of" = some (some (.ref f15))) (l15 : K.lookup f15 = some ⟨oc15, od15, .func (PySem.W.fnOf "mean_of" "mean_of" (defArgs st_mean_of) (defBody st_mean_of) (defScope st_mean_of) .none kV15 dc15 pm15 an15 cd15 ct15), sl15⟩) (c15 : PySem.W.codeIn K cd15 "mean_of" = true) (k15 : PySem.W.keepIn K (.ref f15) = true)
    (a16 : PySem.W.nsIn K mainGlobals "_law_sort" = some (some (.ref f16))) (l16 : K.lookup f16 = some ⟨oc16, od16, .func (PySem.W.fnOf "_law_sort" "_law_sort" (defArgs st__law_sort) (defBody st__law_sort) (defScope st__law_sort) .none kV16 dc16 pm16 an16 cd16 ct16), sl16⟩) (c16 : PySem.W.codeIn K cd16 "_law_sort" = true) (k16 : PySem.W.keepIn K (.ref f16) = true)
    (a17 : PySem.W.nsIn K mainGlobals "_law_like" = some (some (.ref f17))) (l17 : K.lookup f17 = some ⟨oc17, od17, .func (PySem.W.fnOf "_law_like" "_law_like" (defArgs st__law_like) (defBody st__law_like) (defScope st__law_like) .none kV17 dc17 pm17 an17 cd17 ct17), sl17⟩) (c17 : PySem.W.codeIn K cd17 "_law_like" = true) (k17 : PySem.W.keepIn K (.ref f17) = true)
    (a18 : PySem.W.nsIn K mainGlobals "need_both" = some (some (.ref f18))) (l18 : K.lookup f18 = some ⟨oc18, od18, .func (PySem.W.fnOf "need_both" "need_both" (defArgs st_need_both) (defBody st_need_both) (defScope st_need_both) .none kV18 dc18 pm18 an18 cd18 ct18), sl18⟩) (c18 : PySem.W.codeIn K cd18 "need_both" = true) (k18 : PySem.W.keepIn K (.ref f18) = true)
    (a19 : PySem.W.nsIn K mainGlobals "part_by" = some (some (.ref f19))) (l19 : K.lookup f19 = some ⟨oc19, od19, .func (PySem.W.fnOf "part_by" "part_by" (defArgs st_part_by) (defBody st_part_by) (defScope st_part_by) .none kV19 dc19 pm19 an19 cd19 ct19), sl19⟩) (c19 : PySem.W.codeIn K cd19 "part_by" = true) (k19 : PySem.W.keepIn K (.ref f19) = true)
    (a20 : PySem.W.nsIn K mainGlobals "quotient_in" = some (some (.ref f20))) (l20 : K.lookup f20 = some ⟨oc20, od20, .func (PySem.W.fnOf "quotient_in" "quotient_in" (defArgs st_quotient_in) (defBody st_quotient_in) (defScope st_quotient_in) .none kV20 dc20 pm20 an20 cd20 ct20), sl20⟩) (c20 : PySem.W.codeIn K cd20 "quotient_in" = true) (k20 : PySem.W.keepIn K (.ref f20) = true)
    (a21 : PySem.W.nsIn K mainGlobals "values_in" = some (some (.ref f21))) (l21 : K.lookup f21 = some ⟨oc21, od21, .func (PySem.W.fnOf "values_in" "values_in" (defArgs st_values_in) (defBody st_values_in) (defScope st_values_in) .none kV21 dc21 pm21 an21 cd21 ct21), sl21⟩) (c21 : PySem.W.codeIn K cd21 "values_in" = true) (k21 : PySem.W.keepIn K (.ref f21) = true)
    (a22 : PySem.W.nsIn K mainGlobals "quotient_of" = some (some (.ref f22))) (l22 : K.lookup f22 = some ⟨oc22, od22, .func (PySem.W.fnOf "quotient_of" "quotient_of" (defArgs st_quotient_of) (defBody st_quotient_of) (defScope st_quotient_of) .none kV22 dc22 pm22 an22 cd22 ct22), sl22⟩) (c22 : PySem.W.codeIn K cd22 "quotient_of" = true) (k22 : PySem.W.keepIn K (.ref f22) = true)
    (a23 : PySem.W.nsIn K mainGlobals "is_under" = some (some (.ref f23))) (l23 : K.lookup f23 = some ⟨oc23, od23, .func (PySem.W.fnOf "is_under" "is_under" (defArgs st_is_under) (defBody st_is_under) (defScope st_is_under) .none kV23 dc23 pm23 an23 cd23 ct23), sl23⟩) (c23 : PySem.W.codeIn K cd23 "is_under" = true) (k23 : PySem.W.keepIn K (.ref f23) = true)
    (a24 : PySem.W.nsIn K mainGlobals "is_lesser" = some (some (.ref f24))) (l24 : K.lookup f24 = some ⟨oc24, od24, .func (PySem.W.fnOf "is_lesser" "is_lesser" (defArgs st_is_lesser) (defBody st_is_lesser) (defScope st_is_lesser) .none kV24 dc24 pm24 an24 cd24 ct24), sl24⟩) (c24 : PySem.W.codeIn K cd24 "is_lesser" = true) (k24 : PySem.W.keepIn K (.ref f24) = true)
    (a25 : PySem.W.nsIn K mainGlobals "are_rising" = some (some (.ref f25))) (l25 : K.lookup f25 = some ⟨oc25, od25, .func (PySem.W.fnOf "are_rising" "are_rising" (defArgs st_are_rising) (defBody st_are_rising) (defScope st_are_rising) .none kV25 dc25 pm25 an25 cd25 ct25), sl25⟩) (c25 : PySem.W.codeIn K cd25 "are_rising" = true) (k25 : PySem.W.keepIn K (.ref f25) = true)
    (a26 : PySem.W.nsIn K mainGlobals "_law_roll" = some (some (.ref f26))) (l26 : K.lookup f26 = some ⟨oc26, od26, .func (PySem.W.fnOf "_law_roll" "_law_roll" (defArgs st__law_roll) (defBody st__law_roll) (defScope st__law_roll) .none kV26 dc26 pm26 an26 cd26 ct26), sl26⟩) (c26 : PySem.W.codeIn K cd26 "_law_roll" = true) (k26 : PySem.W.keepIn K (.ref f26) = true)
    (a27 : PySem.W.nsIn K mainGlobals "_law_divisor" = some (some (.ref f27))) (l27 : K.lookup f27 = some ⟨oc27, od27, .func (PySem.W.fnOf "_law_divisor" "_law_divisor" (defArgs st__law_divisor) (defBody st__law_divisor) (defScope st__law_divisor) .none kV27 dc27 pm27 an27 cd27 ct27), sl27⟩) (c27 : PySem.W.codeIn K cd27 "_law_divisor" = true) (k27 : PySem.W.keepIn K (.ref f27) = true)
    (a28 : PySem.W.nsIn K mainGlobals "_law_least" = some (some (.ref f28))) (l28 : K.lookup f28 = some ⟨oc28, od28, .func (PySem.W.fnOf "_law_least" "_law_least" (defArgs st__law_least) (defBody st__law_least) (defScope st__law_least) .none kV28 dc28 pm28 an28 cd28 ct28), sl28⟩) (c28 : PySem.W.codeIn K cd28 "_law_least" = true) (k28 : PySem.W.keepIn K (.ref f28) = true)
    (a29 : PySem.W.nsIn K mainGlobals "_law_chances" = some (some (.ref f29))) (l29 : K.lookup f29 = some ⟨oc29, od29, .func (PySem.W.fnOf "_law_chances" "_law_chances" (defArgs st__law_chances) (defBody st__law_chances) (defScope st__law_chances) .none kV29 dc29 pm29 an29 cd29 ct29), sl29⟩) (c29 : PySem.W.codeIn K cd29 "_law_chances" = true) (k29 : PySem.W.keepIn K (.ref f29) = true)
    (a30 : PySem.W.nsIn K mainGlobals "_law_two" = some (some (.ref f30))) (l30 : K.lookup f30 = some ⟨oc30, od30, .func (PySem.W.fnOf "_law_two" "_law_two" (defArgs st__law_two) (defBody st__law_two) (defScope st__law_two) .none kV30 dc30 pm30 an30 cd30 ct30), sl30⟩) (c30 : PySem.W.codeIn K cd30 "_law_two" = true) (k30 : PySem.W.keepIn K (.ref f30) = true)
    (a31 : PySem.W.nsIn K mainGlobals "fits_share" = some (some (.ref f31))) (l31 : K.lookup f31 = some ⟨oc31, od31, .func (PySem.W.fnOf "fits_share" "fits_share" (defArgs st_fits_share) (defBody st_fits_share) (defScope st_fits_share) .none kV31 dc31 pm31 an31 cd31 ct31), sl31⟩) (c31 : PySem.W.codeIn K cd31 "fits_share" = true) (k31 : PySem.W.keepIn K (.ref f31) = true)
    (a32 : PySem.W.nsIn K mainGlobals "fits_rule" = some (some (.ref f32))) (l32 : K.lookup f32 = some ⟨oc32, od32, .func (PySem.W.fnOf "fits_rule" "fits_rule" (defArgs st_fits_rule) (defBody st_fits_rule) (defScope st_fits_rule) .none kV32 dc32 pm32 an32 cd32 ct32), sl32⟩) (c32 : PySem.W.codeIn K cd32 "fits_rule" = true) (k32 : PySem.W.keepIn K (.ref f32) = true)
    (a33 : PySem.W.nsIn K mainGlobals "need_rule" = some (some (.ref f33))) (l33 : K.lookup f33 = some ⟨oc33, od33, .func (PySem.W.fnOf "need_rule" "need_rule" (defArgs st_need_rule) (defBody st_need_rule) (defScope st_need_rule) .none kV33 dc33 pm33 an33 cd33 ct33), sl33⟩) (c33 : PySem.W.codeIn K cd33 "need_rule" = true) (k33 : PySem.W.keepIn K (.ref f33) = true)
    (a34 : PySem.W.nsIn K mainGlobals "product_in" = some (some (.ref f34))) (l34 : K.lookup f34 = some ⟨oc34, od34, .func (PySem.W.fnOf "product_in" "product_in" (defArgs st_product_in) (defBody st_product_in) (defScope st_product_in) .none kV34 dc34 pm34 an34 cd34 ct34), sl34⟩) (c34 : PySem.W.codeIn K cd34 "product_in" = true) (k34 : PySem.W.keepIn K (.ref f34) = true)
    (a35 : PySem.W.nsIn K mainGlobals "both_shares" = some (some (.ref f35))) (l35 : K.lookup f35 = some ⟨oc35, od35, .func (PySem.W.fnOf "both_shares" "both_shares" (defArgs st_both_shares) (defBody st_both_shares) (defScope st_both_shares) .none kV35 dc35 pm35 an35 cd35 ct35), sl35⟩) (c35 : PySem.W.codeIn K cd35 "both_shares" = true) (k35 : PySem.W.keepIn K (.ref f35) = true)
    (a36 : PySem.W.nsIn K mainGlobals "false_share" = some (some (.ref f36))) (l36 : K.lookup f36 = some ⟨oc36, od36, .func (PySem.W.fnOf "false_share" "false_share" (defArgs st_false_share) (defBody st_false_share) (defScope st_false_share) .none kV36 dc36 pm36 an36 cd36 ct36), sl36⟩) (c36 : PySem.W.codeIn K cd36 "false_share" = true) (k36 : PySem.W.keepIn K (.ref f36) = true)
    (a37 : PySem.W.nsIn K mainGlobals "is_rule" = some (some (.ref f37))) (l37 : K.lookup f37 = some ⟨oc37, od37, .func (PySem.W.fnOf "is_rule" "is_rule" (defArgs st_is_rule) (defBody st_is_rule) (defScope st_is_rule) .none kV37 dc37 pm37 an37 cd37 ct37), sl37⟩) (c37 : PySem.W.codeIn K cd37 "is_rule" = true) (k37 : PySem.W.keepIn K (.ref f37) = true)
    (a38 : PySem.W.nsIn K mainGlobals "power_of_rule" = some (some (.ref f38))) (l38 : K.lookup f38 = some ⟨oc38, od38, .func (PySem.W.fnOf "power_of_rule" "power_of_rule" (defArgs st_power_of_rule) (defBody st_power_of_rule) (defScope st_power_of_rule) .none kV38 dc38 pm38 an38 cd38 ct38), sl38⟩) (c38 : PySem.W.codeIn K cd38 "power_of_rule" = true) (k38 : PySem.W.keepIn K (.ref f38) = true)
    (a39 : PySem.W.nsIn K mainGlobals "_law_values" = some (some (.ref f39))) (l39 : K.lookup f39 = some ⟨oc39, od39, .func (PySem.W.fnOf "_law_values" "_law_values" (defArgs st__law_values) (defBody st__law_values) (defScope st__law_values) .none kV39 dc39 pm39 an39 cd39 ct39), sl39⟩) (c39 : PySem.W.codeIn K cd39 "_law_values" = true) (k39 : PySem.W.keepIn K (.ref f39) = true)
    (a40 : PySem.W.nsIn K mainGlobals "are_chances" = some (some (.ref f40))) (l40 : K.lookup f40 = some ⟨oc40, od40, .func (PySem.W.fnOf "are_chances" "are_chances" (defArgs st_are_chances) (defBody st_are_chances) (defScope st_are_chances) .none kV40 dc40 pm40 an40 cd40 ct40), sl40⟩) (c40 : PySem.W.codeIn K cd40 "are_chances" = true) (k40 : PySem.W.keepIn K (.ref f40) = true)
    (a41 : PySem.W.nsIn K mainGlobals "is_chance" = some (some (.ref f41))) (l41 : K.lookup f41 = some ⟨oc41, od41, .func (PySem.W.fnOf "is_chance" "is_chance" (defArgs st_is_chance) (defBody st_is_chance) (defScope st_is_chance) .none kV41 dc41 pm41 an41 cd41 ct41), sl41⟩) (c41 : PySem.W.codeIn K cd41 "is_chance" = true) (k41 : PySem.W.keepIn K (.ref f41) = true)
    (a42 : PySem.W.nsIn K mainGlobals "_law_under" = some (some (.ref f42))) (l42 : K.lookup f42 = some ⟨oc42, od42, .func (PySem.W.fnOf "_law_under" "_law_under" (defArgs st__law_under) (defBody st__law_under) (defScope st__law_under) .none kV42 dc42 pm42 an42 cd42 ct42), sl42⟩) (c42 : PySem.W.codeIn K cd42 "_law_under" = true) (k42 : PySem.W.keepIn K (.ref f42) = true)
    (a43 : PySem.W.nsIn K mainGlobals "_law_chance" = some (some (.ref f43))) (l43 : K.lookup f43 = some ⟨oc43, od43, .func (PySem.W.fnOf "_law_chance" "_law_chance" (defArgs st__law_chance) (defBody st__law_chance) (defScope st__law_chance) .none kV43 dc43 pm43 an43 cd43 ct43), sl43⟩) (c43 : PySem.W.codeIn K cd43 "_law_chance" = true) (k43 : PySem.W.keepIn K (.ref f43) = true)
    (a44 : PySem.W.nsIn K mainGlobals "_law_plus" = some (some (.ref f44))) (l44 : K.lookup f44 = some ⟨oc44, od44, .func (PySem.W.fnOf "_law_plus" "_law_plus" (defArgs st__law_plus) (defBody st__law_plus) (defScope st__law_plus) .none kV44 dc44 pm44 an44 cd44 ct44), sl44⟩) (c44 : PySem.W.codeIn K cd44 "_law_plus" = true) (k44 : PySem.W.keepIn K (.ref f44) = true)
    (a45 : PySem.W.nsIn K mainGlobals "_law_times" = some (some (.ref f45))) (l45 : K.lookup f45 = some ⟨oc45, od45, .func (PySem.W.fnOf "_law_times" "_law_times" (defArgs st__law_times) (defBody st__law_times) (defScope st__law_times) .none kV45 dc45 pm45 an45 cd45 ct45), sl45⟩) (c45 : PySem.W.codeIn K cd45 "_law_times" = true) (k45 : PySem.W.keepIn K (.ref f45) = true)
    (a46 : PySem.W.nsIn K mainGlobals "_law_shares" = some (some (.ref f46))) (l46 : K.lookup f46 = some ⟨oc46, od46, .func (PySem.W.fnOf "_law_shares" "_law_shares" (defArgs st__law_shares) (defBody st__law_shares) (defScope st__law_shares) .none kV46 dc46 pm46 an46 cd46 ct46), sl46⟩) (c46 : PySem.W.codeIn K cd46 "_law_shares" = true) (k46 : PySem.W.keepIn K (.ref f46) = true)
    (a47 : PySem.W.nsIn K mainGlobals "_law_is_share" = some (some (.ref f47))) (l47 : K.lookup f47 = some ⟨oc47, od47, .func (PySem.W.fnOf "_law_is_share" "_law_is_share" (defArgs st__law_is_share) (defBody st__law_is_share) (defScope st__law_is_share) .none kV47 dc47 pm47 an47 cd47 ct47), sl47⟩) (c47 : PySem.W.codeIn K cd47 "_law_is_share" = true) (k47 : PySem.W.keepIn K (.ref f47) = true)
    (a48 : PySem.W.nsIn K mainGlobals "_law_is_rule" = some (some (.ref f48))) (l48 : K.lookup f48 = some ⟨oc48, od48, .func (PySem.W.fnOf "_law_is_rule" "_law_is_rule" (defArgs st__law_is_rule) (defBody st__law_is_rule) (defScope st__law_is_rule) .none kV48 dc48 pm48 an48 cd48 ct48), sl48⟩) (c48 : PySem.W.codeIn K cd48 "_law_is_rule" = true) (k48 : PySem.W.keepIn K (.ref f48) = true)
    (a49 : PySem.W.nsIn K mainGlobals "_law_right" = some (some (.ref f49))) (l49 : K.lookup f49 = some ⟨oc49, od49, .func (PySem.W.fnOf "_law_right" "_law_right" (defArgs st__law_right) (defBody st__law_right) (defScope st__law_right) .none kV49 dc49 pm49 an49 cd49 ct49), sl49⟩) (c49 : PySem.W.codeIn K cd49 "_law_right" = true) (k49 : PySem.W.keepIn K (.ref f49) = true)
    (a50 : PySem.W.nsIn K mainGlobals "law" = some (some (.ref f50))) (l50 : K.lookup f50 = some ⟨oc50, od50, .func (PySem.W.fnOf "law" "law" (defArgs st_law) (defBody st_law) (defScope st_law) .none kV50 dc50 pm50 an50 cd50 ct50), sl50⟩) (c50 : PySem.W.codeIn K cd50 "law" = true) (k50 : PySem.W.keepIn K (.ref f50) = true)
    (z_abs : PySem.W.nsIn K mainGlobals "abs" = some none)
    (z_all : PySem.W.nsIn K mainGlobals "all" = some none)
    (z_any : PySem.W.nsIn K mainGlobals "any" = some none)
    (z_bool : PySem.W.nsIn K mainGlobals "bool" = some none)
    (z_dict : PySem.W.nsIn K mainGlobals "dict" = some none)
    (z_enumerate : PySem.W.nsIn K mainGlobals "enumerate" = some none)
    (z_int : PySem.W.nsIn K mainGlobals "int" = some none)
    (z_isinstance : PySem.W.nsIn K mainGlobals "isinstance" = some none)
    (z_len : PySem.W.nsIn K mainGlobals "len" = some none)
    (z_list : PySem.W.nsIn K mainGlobals "list" = some none)
    (z_max : PySem.W.nsIn K mainGlobals "max" = some none)
    (z_range : PySem.W.nsIn K mainGlobals "range" = some none)
    (z_set : PySem.W.nsIn K mainGlobals "set" = some none)
    (z_sorted : PySem.W.nsIn K mainGlobals "sorted" = some none)
    (z_str : PySem.W.nsIn K mainGlobals "str" = some none)
    (z_sum : PySem.W.nsIn K mainGlobals "sum" = some none)
    (z_tuple : PySem.W.nsIn K mainGlobals "tuple" = some none)
    (z_zip : PySem.W.nsIn K mainGlobals "zip" = some none)
    (y_FARTHEST : PySem.W.nsIn K mainGlobals "FARTHEST" = some (some (.int 1000000 t0)))
    (y_GREAT : PySem.W.nsIn K mainGlobals "GREAT" = some (some (.int 1000000000000000000000000000000000000000000000000000000000000 t1)))
    (y_MOST_VALUES : PySem.W.nsIn K mainGlobals "MOST_VALUES" = some (some (.int 40 t2)))
    (y_NONE : PySem.W.nsIn K mainGlobals "NONE" = some (some (.ref q3))) (w_NONE : K.lookup q3 = some ⟨.type "tuple", qd3, .seq #[.int 0 t3, .int 1 u3] qn3, qs3⟩)
    (y_ONE : PySem.W.nsIn K mainGlobals "ONE" = some (some (.ref q4))) (w_ONE : K.lookup q4 = some ⟨.type "tuple", qd4, .seq #[.int 1 t4, .int 1 u4] qn4, qs4⟩)
    : ∃ fd : FuncData, (∀ (s : Shared) (v : Value), BindsTo s fd ⟨[v], []⟩ [("script", v)]) ∧ ∀ base : Heap, K.In base → base.Ns mainGlobals mg → FnOk l.prog w K mg base (L2.CX l.prog w) 16 fa fd ["script"] (spLaw K) := by
  have e := hfa.symm.trans (PySem.W.mg_of X G a50)
  cases e
  have F0 := fun_mk (st := st__law_cup) l0 c0 k0
  have F1 := fun_mk (st := st_is_rising) l1 c1 k1
  have F2 := fun_mk (st := st_is_tuple_of) l2 c2 k2
  have F3 := fun_mk (st := st_divisor_of) l3 c3 k3
  have F4 := fun_mk (st := st_lowest) l4 c4 k4
  have F5 := fun_mk (st := st_sum_in) l5 c5 k5
  have F6 := fun_mk (st := st_sum_over) l6 c6 k6
  have F7 := fun_mk (st := st_is_integer) l7 c7 k7
  have F8 := fun_mk (st := st_fits_fraction) l8 c8 k8
  have F9 := fun_mk (st := st_fits_chance) l9 c9 k9
  have F10 := fun_mk (st := st_is_whole) l10 c10 k10
  have F11 := fun_mk (st := st_is_share) l11 c11 k11
  have F12 := fun_mk (st := st_fits_chances) l12 c12 k12
  have F13 := fun_mk (st := st_need_chances) l13 c13 k13
  have F14 := fun_mk (st := st_mean_in) l14 c14 k14
  have F15 := fun_mk (st := st_mean_of) l15 c15 k15
  have F16 := fun_mk (st := st__law_sort) l16 c16 k16
  have F17 := fun_mk (st := st__law_like) l17 c17 k17
  have F18 := fun_mk (st := st_need_both) l18 c18 k18
  have F19 := fun_mk (st := st_part_by) l19 c19 k19
  have F20 := fun_mk (st := st_quotient_in) l20 c20 k20
  have F21 := fun_mk (st := st_values_in) l21 c21 k21
  have F22 := fun_mk (st := st_quotient_of) l22 c22 k22
  have F23 := fun_mk (st := st_is_under) l23 c23 k23
  have F24 := fun_mk (st := st_is_lesser) l24 c24 k24
  have F25 := fun_mk (st := st_are_rising) l25 c25 k25
  have F26 := fun_mk (st := st__law_roll) l26 c26 k26
  have F27 := fun_mk (st := st__law_divisor) l27 c27 k27
  have F28 := fun_mk (st := st__law_least) l28 c28 k28
  have F29 := fun_mk (st := st__law_chances) l29 c29 k29
  have F30 := fun_mk (st := st__law_two) l30 c30 k30
  have F31 := fun_mk (st := st_fits_share) l31 c31 k31
  have F32 := fun_mk (st := st_fits_rule) l32 c32 k32
  have F33 := fun_mk (st := st_need_rule) l33 c33 k33
  have F34 := fun_mk (st := st_product_in) l34 c34 k34
  have F35 := fun_mk (st := st_both_shares) l35 c35 k35
  have F36 := fun_mk (st := st_false_share) l36 c36 k36
  have F37 := fun_mk (st := st_is_rule) l37 c37 k37
  have F38 := fun_mk (st := st_power_of_rule) l38 c38 k38
  have F39 := fun_mk (st := st__law_values) l39 c39 k39
  have F40 := fun_mk (st := st_are_chances) l40 c40 k40
  have F41 := fun_mk (st := st_is_chance) l41 c41 k41
  have F42 := fun_mk (st := st__law_under) l42 c42 k42
  have F43 := fun_mk (st := st__law_chance) l43 c43 k43
  have F44 := fun_mk (st := st__law_plus) l44 c44 k44
  have F45 := fun_mk (st := st__law_times) l45 c45 k45
  have F46 := fun_mk (st := st__law_shares) l46 c46 k46
  have F47 := fun_mk (st := st__law_is_share) l47 c47 k47
  have F48 := fun_mk (st := st__law_is_rule) l48 c48 k48
  have F49 := fun_mk (st := st__law_right) l49 c49 k49
  have F50 := fun_mk (st := st_law) l50 c50 k50
  have b0 := F0.binds (ps := ["script"]) fun _ _ _ _ _ _ us hl => match us, hl with | [_], _ => rfl
  have b1 := F1.binds (ps := ["things"]) fun _ _ _ _ _ _ us hl => match us, hl with | [_], _ => rfl
  have b2 := F2.binds (ps := ["value", "low", "high"]) fun _ _ _ _ _ _ us hl => match us, hl with | [_, _, _], _ => rfl
  have b3 := F3.binds (ps := ["one", "other"]) fun _ _ _ _ _ _ us hl => match us, hl with | [_, _], _ => rfl
  have b4 := F4.binds (ps := ["above", "below"]) fun _ _ _ _ _ _ us hl => match us, hl with | [_, _], _ => rfl
  have b5 := F5.binds (ps := ["one", "other"]) fun _ _ _ _ _ _ us hl => match us, hl with | [_, _], _ => rfl
  have b6 := F6.binds (ps := ["fractions"]) fun _ _ _ _ _ _ us hl => match us, hl with | [_], _ => rfl
  have b7 := F7.binds (ps := ["value"]) fun _ _ _ _ _ _ us hl => match us, hl with | [_], _ => rfl
  have b8 := F8.binds (ps := ["value"]) fun _ _ _ _ _ _ us hl => match us, hl with | [_], _ => rfl
  have b9 := F9.binds (ps := ["value"]) fun _ _ _ _ _ _ us hl => match us, hl with | [_], _ => rfl
  have b10 := F10.binds (ps := ["value", "low", "high"]) fun _ _ _ _ _ _ us hl => match us, hl with | [_, _, _], _ => rfl
  have b11 := F11.binds (ps := ["value"]) fun _ _ _ _ _ _ us hl => match us, hl with | [_], _ => rfl
  have b12 := F12.binds (ps := ["value"]) fun _ _ _ _ _ _ us hl => match us, hl with | [_], _ => rfl
  have b13 := F13.binds (ps := ["value"]) fun _ _ _ _ _ _ us hl => match us, hl with | [_], _ => rfl
  have b14 := F14.binds (ps := ["chances"]) fun _ _ _ _ _ _ us hl => match us, hl with | [_], _ => rfl
  have b15 := F15.binds (ps := ["chances"]) fun _ _ _ _ _ _ us hl => match us, hl with | [_], _ => rfl
  have b16 := F16.binds (ps := ["value"]) fun _ _ _ _ _ _ us hl => match us, hl with | [_], _ => rfl
  have b17 := F17.binds (ps := ["one", "other"]) fun _ _ _ _ _ _ us hl => match us, hl with | [_, _], _ => rfl
  have b18 := F18.binds (ps := ["first", "second"]) fun _ _ _ _ _ _ us hl => match us, hl with | [_, _], _ => rfl
  have b19 := F19.binds (ps := ["one", "other"]) fun _ _ _ _ _ _ us hl => match us, hl with | [_, _], _ => rfl
  have b20 := F20.binds (ps := ["one", "other"]) fun _ _ _ _ _ _ us hl => match us, hl with | [_, _], _ => rfl
  have b21 := F21.binds (ps := ["first", "second"]) fun _ _ _ _ _ _ us hl => match us, hl with | [_, _], _ => rfl
  have b22 := F22.binds (ps := ["first", "second", "value"]) fun _ _ _ _ _ _ us hl => match us, hl with | [_, _, _], _ => rfl
  have b23 := F23.binds (ps := ["one", "other"]) fun _ _ _ _ _ _ us hl => match us, hl with | [_, _], _ => rfl
  have b24 := F24.binds (ps := ["one", "other"]) fun _ _ _ _ _ _ us hl => match us, hl with | [_, _], _ => rfl
  have b25 := F25.binds (ps := ["first", "second"]) fun _ _ _ _ _ _ us hl => match us, hl with | [_, _], _ => rfl
  have b26 := F26.binds (ps := ["cup", "many"]) fun _ _ _ _ _ _ us hl => match us, hl with | [_, _], _ => rfl
  have b27 := F27.binds (ps := ["one", "other"]) fun _ _ _ _ _ _ us hl => match us, hl with | [_, _], _ => rfl
  have b28 := F28.binds (ps := ["above", "below"]) fun _ _ _ _ _ _ us hl => match us, hl with | [_, _], _ => rfl
  have b29 := F29.binds (ps := ["cup", "most"]) fun _ _ _ _ _ _ us hl => match us, hl with | [_, _], _ => rfl
  have b30 := F30.binds (ps := ["cup", "most"]) fun _ _ _ _ _ _ us hl => match us, hl with | [_, _], _ => rfl
  have b31 := F31.binds (ps := ["value"]) fun _ _ _ _ _ _ us hl => match us, hl with | [_], _ => rfl
  have b32 := F32.binds (ps := ["first", "second", "value"]) fun _ _ _ _ _ _ us hl => match us, hl with | [_, _, _], _ => rfl
  have b33 := F33.binds (ps := ["first", "second", "rule"]) fun _ _ _ _ _ _ us hl => match us, hl with | [_, _, _], _ => rfl
  have b34 := F34.binds (ps := ["one", "other"]) fun _ _ _ _ _ _ us hl => match us, hl with | [_, _], _ => rfl
  have b35 := F35.binds (ps := ["first", "second", "rule"]) fun _ _ _ _ _ _ us hl => match us, hl with | [_, _, _], _ => rfl
  have b36 := F36.binds (ps := ["first", "second", "rule"]) fun _ _ _ _ _ _ us hl => match us, hl with | [_, _, _], _ => rfl
  have b37 := F37.binds (ps := ["first", "second", "value"]) fun _ _ _ _ _ _ us hl => match us, hl with | [_, _, _], _ => rfl
  have b38 := F38.binds (ps := ["first", "second", "rule"]) fun _ _ _ _ _ _ us hl => match us, hl with | [_, _, _], _ => rfl
  have b39 := F39.binds (ps := ["first", "second"]) fun _ _ _ _ _ _ us hl => match us, hl with | [_, _], _ => rfl
  have b40 := F40.binds (ps := ["value"]) fun _ _ _ _ _ _ us hl => match us, hl with | [_], _ => rfl
  have b41 := F41.binds (ps := ["value"]) fun _ _ _ _ _ _ us hl => match us, hl with | [_], _ => rfl
  have b42 := F42.binds (ps := ["one", "other"]) fun _ _ _ _ _ _ us hl => match us, hl with | [_, _], _ => rfl
  have b43 := F43.binds (ps := ["cup"]) fun _ _ _ _ _ _ us hl => match us, hl with | [_], _ => rfl
  have b44 := F44.binds (ps := ["one", "other"]) fun _ _ _ _ _ _ us hl => match us, hl with | [_, _], _ => rfl
  have b45 := F45.binds (ps := ["one", "other"]) fun _ _ _ _ _ _ us hl => match us, hl with | [_, _], _ => rfl
  have b46 := F46.binds (ps := ["first", "second", "rule"]) fun _ _ _ _ _ _ us hl => match us, hl with | [_, _, _], _ => rfl
  have b47 := F47.binds (ps := ["value"]) fun _ _ _ _ _ _ us hl => match us, hl with | [_], _ => rfl
  have b48 := F48.binds (ps := ["first", "second", "value"]) fun _ _ _ _ _ _ us hl => match us, hl with | [_, _, _], _ => rfl
  have b49 := F49.binds (ps := ["cup", "first", "second"]) fun _ _ _ _ _ _ us hl => match us, hl with | [_, _, _], _ => rfl
  have b50 := F50.binds (ps := ["script"]) fun _ _ _ _ _ _ us hl => match us, hl with | [_], _ => rfl
  let ad : Nat → Addr := fun j => match j with | 0 => f0 | 1 => f1 | 2 => f2 | 3 => f3 | 4 => f4 | 5 => f5 | 6 => f6 | 7 => f7 | 8 => f8 | 9 => f9 | 10 => f10 | 11 => f11 | 12 => f12 | 13 => f13 | 14 => f14 | 15 => f15 | 16 => f16 | 17 => f17 | 18 => f18 | 19 => f19 | 20 => f20 | 21 => f21 | 22 => f22 | 23 => f23 | 24 => f24 | 25 => f25 | 26 => f26 | 27 => f27 | 28 => f28 | 29 => f29 | 30 => f30 | 31 => f31 | 32 => f32 | 33 => f33 | 34 => f34 | 35 => f35 | 36 => f36 | 37 => f37 | 38 => f38 | 39 => f39 | 40 => f40 | 41 => f41 | 42 => f42 | 43 => f43 | 44 => f44 | 45 => f45 | 46 => f46 | 47 => f47 | 48 => f48 | 49 => f49 | _ => fa
  let fd : Nat → FuncData := fun j => match j with | 0 => PySem.W.fnOf "_law_cup" "_law_cup" (defArgs st__law_cup) (defBody st__law_cup) (defScope st__law_cup) .none kV0 dc0 pm0 an0 cd0 ct0 | 1 => PySem.W.fnOf "is_rising" "is_rising" (defArgs st_is_rising) (defBody st_is_rising) (defScope st_is_rising) .none kV1 dc1 pm1 an1 cd1 ct1 | 2 => PySem.W.fnOf "is_tuple_of" "is_tuple_of" (defArgs st_is_tuple_of) (defBody st_is_tuple_of) (defScope st_is_tuple_of) .none kV2 dc2 pm2 an2 cd2 ct2 | 3 => PySem.W.fnOf "divisor_of" "divisor_of" (defArgs st_divisor_of) (defBody st_divisor_of) (defScope st_divisor_of) .none kV3 dc3 pm3 an3 cd3 ct3 | 4 => PySem.W.fnOf "lowest" "lowest" (defArgs st_lowest) (defBody st_lowest) (defScope st_lowest) .none kV4 dc4 pm4 an4 cd4 ct4 | 5 => PySem.W.fnOf "sum_in" "sum_in" (defArgs st_sum_in) (defBody st_sum_in) (defScope st_sum_in) .none kV5 dc5 pm5 an5 cd5 ct5 | 6 => PySem.W.fnOf "sum_over" "sum_over" (defArgs st_sum_over) (defBody st_sum_over) (defScope st_sum_over) .none kV6 dc6 pm6 an6 cd6 ct6 | 7 => PySem.W.fnOf "is_integer" "is_integer" (defArgs st_is_integer) (defBody st_is_integer) (defScope st_is_integer) .none kV7 dc7 pm7 an7 cd7 ct7 | 8 => PySem.W.fnOf "fits_fraction" "fits_fraction" (defArgs st_fits_fraction) (defBody st_fits_fraction) (defScope st_fits_fraction) .none kV8 dc8 pm8 an8 cd8 ct8 | 9 => PySem.W.fnOf "fits_chance" "fits_chance" (defArgs st_fits_chance) (defBody st_fits_chance) (defScope st_fits_chance) .none kV9 dc9 pm9 an9 cd9 ct9 | 10 => PySem.W.fnOf "is_whole" "is_whole" (defArgs st_is_whole) (defBody st_is_whole) (defScope st_is_whole) .none kV10 dc10 pm10 an10 cd10 ct10 | 11 => PySem.W.fnOf "is_share" "is_share" (defArgs st_is_share) (defBody st_is_share) (defScope st_is_share) .none kV11 dc11 pm11 an11 cd11 ct11 | 12 => PySem.W.fnOf "fits_chances" "fits_chances" (defArgs st_fits_chances) (defBody st_fits_chances) (defScope st_fits_chances) .none kV12 dc12 pm12 an12 cd12 ct12 | 13 => PySem.W.fnOf "need_chances" "need_chances" (defArgs st_need_chances) (defBody st_need_chances) (defScope st_need_chances) .none kV13 dc13 pm13 an13 cd13 ct13 | 14 => PySem.W.fnOf "mean_in" "mean_in" (defArgs st_mean_in) (defBody st_mean_in) (defScope st_mean_in) .none kV14 dc14 pm14 an14 cd14 ct14 | 15 => PySem.W.fnOf "mean_of" "mean_of" (defArgs st_mean_of) (defBody st_mean_of) (defScope st_mean_of) .none kV15 dc15 pm15 an15 cd15 ct15 | 16 => PySem.W.fnOf "_law_sort" "_law_sort" (defArgs st__law_sort) (defBody st__law_sort) (defScope st__law_sort) .none kV16 dc16 pm16 an16 cd16 ct16 | 17 => PySem.W.fnOf "_law_like" "_law_like" (defArgs st__law_like) (defBody st__law_like) (defScope st__law_like) .none kV17 dc17 pm17 an17 cd17 ct17 | 18 => PySem.W.fnOf "need_both" "need_both" (defArgs st_need_both) (defBody st_need_both) (defScope st_need_both) .none kV18 dc18 pm18 an18 cd18 ct18 | 19 => PySem.W.fnOf "part_by" "part_by" (defArgs st_part_by) (defBody st_part_by) (defScope st_part_by) .none kV19 dc19 pm19 an19 cd19 ct19 | 20 => PySem.W.fnOf "quotient_in" "quotient_in" (defArgs st_quotient_in) (defBody st_quotient_in) (defScope st_quotient_in) .none kV20 dc20 pm20 an20 cd20 ct20 | 21 => PySem.W.fnOf "values_in" "values_in" (defArgs st_values_in) (defBody st_values_in) (defScope st_values_in) .none kV21 dc21 pm21 an21 cd21 ct21 | 22 => PySem.W.fnOf "quotient_of" "quotient_of" (defArgs st_quotient_of) (defBody st_quotient_of) (defScope st_quotient_of) .none kV22 dc22 pm22 an22 cd22 ct22 | 23 => PySem.W.fnOf "is_under" "is_under" (defArgs st_is_under) (defBody st_is_under) (defScope st_is_under) .none kV23 dc23 pm23 an23 cd23 ct23 | 24 => PySem.W.fnOf "is_lesser" "is_lesser" (defArgs st_is_lesser) (defBody st_is_lesser) (defScope st_is_lesser) .none kV24 dc24 pm24 an24 cd24 ct24 | 25 => PySem.W.fnOf "are_rising" "are_rising" (defArgs st_are_rising) (defBody st_are_rising) (defScope st_are_rising) .none kV25 dc25 pm25 an25 cd25 ct25 | 26 => PySem.W.fnOf "_law_roll" "_law_roll" (defArgs st__law_roll) (defBody st__law_roll) (defScope st__law_roll) .none kV26 dc26 pm26 an26 cd26 ct26 | 27 => PySem.W.fnOf "_law_divisor" "_law_divisor" (defArgs st__law_divisor) (defBody st__law_divisor) (defScope st__law_divisor) .none kV27 dc27 pm27 an27 cd27 ct27 | 28 => PySem.W.fnOf "_law_least" "_law_least" (defArgs st__law_least) (defBody st__law_least) (defScope st__law_least) .none kV28 dc28 pm28 an28 cd28 ct28 | 29 => PySem.W.fnOf "_law_chances" "_law_chances" (defArgs st__law_chances) (defBody st__law_chances) (defScope st__law_chances) .none kV29 dc29 pm29 an29 cd29 ct29 | 30 => PySem.W.fnOf "_law_two" "_law_two" (defArgs st__law_two) (defBody st__law_two) (defScope st__law_two) .none kV30 dc30 pm30 an30 cd30 ct30 | 31 => PySem.W.fnOf "fits_share" "fits_share" (defArgs st_fits_share) (defBody st_fits_share) (defScope st_fits_share) .none kV31 dc31 pm31 an31 cd31 ct31 | 32 => PySem.W.fnOf "fits_rule" "fits_rule" (defArgs st_fits_rule) (defBody st_fits_rule) (defScope st_fits_rule) .none kV32 dc32 pm32 an32 cd32 ct32 | 33 => PySem.W.fnOf "need_rule" "need_rule" (defArgs st_need_rule) (defBody st_need_rule) (defScope st_need_rule) .none kV33 dc33 pm33 an33 cd33 ct33 | 34 => PySem.W.fnOf "product_in" "product_in" (defArgs st_product_in) (defBody st_product_in) (defScope st_product_in) .none kV34 dc34 pm34 an34 cd34 ct34 | 35 => PySem.W.fnOf "both_shares" "both_shares" (defArgs st_both_shares) (defBody st_both_shares) (defScope st_both_shares) .none kV35 dc35 pm35 an35 cd35 ct35 | 36 => PySem.W.fnOf "false_share" "false_share" (defArgs st_false_share) (defBody st_false_share) (defScope st_false_share) .none kV36 dc36 pm36 an36 cd36 ct36 | 37 => PySem.W.fnOf "is_rule" "is_rule" (defArgs st_is_rule) (defBody st_is_rule) (defScope st_is_rule) .none kV37 dc37 pm37 an37 cd37 ct37 | 38 => PySem.W.fnOf "power_of_rule" "power_of_rule" (defArgs st_power_of_rule) (defBody st_power_of_rule) (defScope st_power_of_rule) .none kV38 dc38 pm38 an38 cd38 ct38 | 39 => PySem.W.fnOf "_law_values" "_law_values" (defArgs st__law_values) (defBody st__law_values) (defScope st__law_values) .none kV39 dc39 pm39 an39 cd39 ct39 | 40 => PySem.W.fnOf "are_chances" "are_chances" (defArgs st_are_chances) (defBody st_are_chances) (defScope st_are_chances) .none kV40 dc40 pm40 an40 cd40 ct40 | 41 => PySem.W.fnOf "is_chance" "is_chance" (defArgs st_is_chance) (defBody st_is_chance) (defScope st_is_chance) .none kV41 dc41 pm41 an41 cd41 ct41 | 42 => PySem.W.fnOf "_law_under" "_law_under" (defArgs st__law_under) (defBody st__law_under) (defScope st__law_under) .none kV42 dc42 pm42 an42 cd42 ct42 | 43 => PySem.W.fnOf "_law_chance" "_law_chance" (defArgs st__law_chance) (defBody st__law_chance) (defScope st__law_chance) .none kV43 dc43 pm43 an43 cd43 ct43 | 44 => PySem.W.fnOf "_law_plus" "_law_plus" (defArgs st__law_plus) (defBody st__law_plus) (defScope st__law_plus) .none kV44 dc44 pm44 an44 cd44 ct44 | 45 => PySem.W.fnOf "_law_times" "_law_times" (defArgs st__law_times) (defBody st__law_times) (defScope st__law_times) .none kV45 dc45 pm45 an45 cd45 ct45 | 46 => PySem.W.fnOf "_law_shares" "_law_shares" (defArgs st__law_shares) (defBody st__law_shares) (defScope st__law_shares) .none kV46 dc46 pm46 an46 cd46 ct46 | 47 => PySem.W.fnOf "_law_is_share" "_law_is_share" (defArgs st__law_is_share) (defBody st__law_is_share) (defScope st__law_is_share) .none kV47 dc47 pm47 an47 cd47 ct47 | 48 => PySem.W.fnOf "_law_is_rule" "_law_is_rule" (defArgs st__law_is_rule) (defBody st__law_is_rule) (defScope st__law_is_rule) .none kV48 dc48 pm48 an48 cd48 ct48 | 49 => PySem.W.fnOf "_law_right" "_law_right" (defArgs st__law_right) (defBody st__law_right) (defScope st__law_right) .none kV49 dc49 pm49 an49 cd49 ct49 | _ => PySem.W.fnOf "law" "law" (defArgs st_law) (defBody st_law) (defScope st_law) .none kV50 dc50 pm50 an50 cd50 ct50
  have T : Txt K mg ad fd := ⟨PySem.W.mg_of X G a0, k0, b0, PySem.W.mg_of X G a1, k1, b1, PySem.W.mg_of X G a2, k2, b2, PySem.W.mg_of X G a3, k3, b3, PySem.W.mg_of X G a4, k4, b4, PySem.W.mg_of X G a5, k5, b5, PySem.W.mg_of X G a6, k6, b6, PySem.W.mg_of X G a7, k7, b7, PySem.W.mg_of X G a8, k8, b8, PySem.W.mg_of X G a9, k9, b9, PySem.W.mg_of X G a10, k10, b10, PySem.W.mg_of X G a11, k11, b11, PySem.W.mg_of X G a12, k12, b12, PySem.W.mg_of X G a13, k13, b13, PySem.W.mg_of X G a14, k14, b14, PySem.W.mg_of X G a15, k15, b15, PySem.W.mg_of X G a16, k16, b16, PySem.W.mg_of X G a17, k17, b17, PySem.W.mg_of X G a18, k18, b18, PySem.W.mg_of X G a19, k19, b19, PySem.W.mg_of X G a20, k20, b20, PySem.W.mg_of X G a21, k21, b21, PySem.W.mg_of X G a22, k22, b22, PySem.W.mg_of X G a23, k23, b23, PySem.W.mg_of X G a24, k24, b24, PySem.W.mg_of X G a25, k25, b25, PySem.W.mg_of X G a26, k26, b26, PySem.W.mg_of X G a27, k27, b27, PySem.W.mg_of X G a28, k28, b28, PySem.W.mg_of X G a29, k29, b29, PySem.W.mg_of X G a30, k30, b30, PySem.W.mg_of X G a31, k31, b31, PySem.W.mg_of X G a32, k32, b32, PySem.W.mg_of X G a33, k33, b33, PySem.W.mg_of X G a34, k34, b34, PySem.W.mg_of X G a35, k35, b35, PySem.W.mg_of X G a36, k36, b36, PySem.W.mg_of X G a37, k37, b37, PySem.W.mg_of X G a38, k38, b38, PySem.W.mg_of X G a39, k39, b39, PySem.W.mg_of X G a40, k40, b40, PySem.W.mg_of X G a41, k41, b41, PySem.W.mg_of X G a42, k42, b42, PySem.W.mg_of X G a43, k43, b43, PySem.W.mg_of X G a44, k44, b44, PySem.W.mg_of X G a45, k45, b45, PySem.W.mg_of X G a46, k46, b46, PySem.W.mg_of X G a47, k47, b47, PySem.W.mg_of X G a48, k48, b48, PySem.W.mg_of X G a49, k49, b49, PySem.W.mg_none_of X G z_abs, PySem.W.mg_none_of X G z_all, PySem.W.mg_none_of X G z_any, PySem.W.mg_none_of X G z_bool, PySem.W.mg_none_of X G z_dict, PySem.W.mg_none_of X G z_enumerate, PySem.W.mg_none_of X G z_int, PySem.W.mg_none_of X G z_isinstance, PySem.W.mg_none_of X G z_len, PySem.W.mg_none_of X G z_list, PySem.W.mg_none_of X G z_max, PySem.W.mg_none_of X G z_range, PySem.W.mg_none_of X G z_set, PySem.W.mg_none_of X G z_sorted, PySem.W.mg_none_of X G z_str, PySem.W.mg_none_of X G z_sum, PySem.W.mg_none_of X G z_tuple, PySem.W.mg_none_of X G z_zip, ⟨_, PySem.W.mg_of X G y_FARTHEST⟩, ⟨_, PySem.W.mg_of X G y_GREAT⟩, ⟨_, PySem.W.mg_of X G y_MOST_VALUES⟩, ⟨_, PySem.W.mg_of X G y_NONE, rp_tup2 w_NONE⟩, ⟨_, PySem.W.mg_of X G y_ONE, rp_tup2 w_ONE⟩⟩
  refine ⟨fd 50, fun s v => .of_eq rfl, fun base _ _ => ?_⟩
  have G__law_cup := ok__law_cup (P := l.prog) (w := w) (base := base) (cl := fun _ => 0) T F0 
  have G_is_rising := ok_is_rising (P := l.prog) (w := w) (base := base) (cl := fun _ => 0) T F1 
  have G_is_tuple_of := ok_is_tuple_of (P := l.prog) (w := w) (base := base) (cl := fun _ => 0) T F2 
  have G_divisor_of := ok_divisor_of (P := l.prog) (w := w) (base := base) (cl := fun _ => 0) T F3 
  have G_lowest := ok_lowest (P := l.prog) (w := w) (base := base) (cl := fun _ => 0) T F4 G_divisor_of
  have G_sum_in := ok_sum_in (P := l.prog) (w := w) (base := base) (cl := fun _ => 0) T F5 G_lowest
  have G_sum_over := ok_sum_over (P := l.prog) (w := w) (base := base) (cl := fun _ => 0) T F6 G_sum_in
  have G_is_integer := ok_is_integer (P := l.prog) (w := w) (base := base) (cl := fun _ => 0) T F7 
  have G_fits_fraction := ok_fits_fraction (P := l.prog) (w := w) (base := base) (cl := fun _ => 0) T F8 G_is_tuple_of G_is_integer G_divisor_of
  have G_fits_chance := ok_fits_chance (P := l.prog) (w := w) (base := base) (cl := fun _ => 0) T F9 G_fits_fraction
  have G_is_whole := ok_is_whole (P := l.prog) (w := w) (base := base) (cl := fun _ => 0) T F10 G_is_integer
  have G_is_share := ok_is_share (P := l.prog) (w := w) (base := base) (cl := fun _ => 0) T F11 G_is_tuple_of G_is_whole G_fits_chance
  have G_fits_chances := ok_fits_chances (P := l.prog) (w := w) (base := base) (cl := fun _ => 0) T F12 G_is_tuple_of G_is_share G_is_rising G_sum_over
  have G_need_chances := ok_need_chances (P := l.prog) (w := w) (base := base) (cl := fun _ => 0) T F13 G_fits_chances
  have G_mean_in := ok_mean_in (P := l.prog) (w := w) (base := base) (cl := fun _ => 0) T F14 G_lowest G_sum_over
  have G_mean_of := ok_mean_of (P := l.prog) (w := w) (base := base) (cl := fun _ => 0) T F15 G_need_chances G_mean_in
  have G__law_sort := ok__law_sort (P := l.prog) (w := w) (base := base) (cl := fun _ => 0) T F16 
  have G__law_like := ok__law_like (P := l.prog) (w := w) (base := base) (cl := fun _ => 0) T F17 G__law_sort 12
  have G_need_both := ok_need_both (P := l.prog) (w := w) (base := base) (cl := fun _ => 0) T F18 G_need_chances
  have G_part_by := ok_part_by (P := l.prog) (w := w) (base := base) (cl := fun _ => 0) T F19 G_lowest
  have G_quotient_in := ok_quotient_in (P := l.prog) (w := w) (base := base) (cl := fun _ => 0) T F20 G_part_by
  have G_values_in := ok_values_in (P := l.prog) (w := w) (base := base) (cl := fun _ => 0) T F21 
  have G_quotient_of := ok_quotient_of (P := l.prog) (w := w) (base := base) (cl := fun _ => 0) T F22 G_need_both G_values_in G_is_integer G_quotient_in
  have G_is_under := ok_is_under (P := l.prog) (w := w) (base := base) (cl := fun _ => 0) T F23 
  have G_is_lesser := ok_is_lesser (P := l.prog) (w := w) (base := base) (cl := fun _ => 0) T F24 G_is_under
  have G_are_rising := ok_are_rising (P := l.prog) (w := w) (base := base) (cl := fun _ => 0) T F25 G_need_both G_values_in G_quotient_in G_is_lesser
  have G__law_roll := ok__law_roll (P := l.prog) (w := w) (base := base) (cl := fun _ => 0) T F26 
  have G__law_divisor := ok__law_divisor (P := l.prog) (w := w) (base := base) (cl := fun _ => 0) T F27 
  have G__law_least := ok__law_least (P := l.prog) (w := w) (base := base) (cl := fun _ => 0) T F28 G__law_divisor
  have G__law_chances := ok__law_chances (P := l.prog) (w := w) (base := base) (cl := fun _ => 0) T F29 G__law_roll G__law_least
  have G__law_two := ok__law_two (P := l.prog) (w := w) (base := base) (cl := fun _ => 0) T F30 G__law_chances G__law_roll G__law_least
  have G_fits_share := ok_fits_share (P := l.prog) (w := w) (base := base) (cl := fun _ => 0) T F31 G_is_tuple_of G_is_integer G_divisor_of
  have G_fits_rule := ok_fits_rule (P := l.prog) (w := w) (base := base) (cl := fun _ => 0) T F32 G_values_in G_is_tuple_of G_is_integer G_fits_share
  have G_need_rule := ok_need_rule (P := l.prog) (w := w) (base := base) (cl := fun _ => 0) T F33 G_need_both G_fits_rule
  have G_product_in := ok_product_in (P := l.prog) (w := w) (base := base) (cl := fun _ => 0) T F34 G_lowest
  have G_both_shares := ok_both_shares (P := l.prog) (w := w) (base := base) (cl := fun _ => 0) T F35 G_values_in G_product_in G_sum_over
  have G_false_share := ok_false_share (P := l.prog) (w := w) (base := base) (cl := fun _ => 0) T F36 G_need_rule G_both_shares
  have G_is_rule := ok_is_rule (P := l.prog) (w := w) (base := base) (cl := fun _ => 0) T F37 G_need_both G_fits_rule
  have G_power_of_rule := ok_power_of_rule (P := l.prog) (w := w) (base := base) (cl := fun _ => 0) T F38 G_need_rule G_both_shares
  have G__law_values := ok__law_values (P := l.prog) (w := w) (base := base) (cl := fun _ => 0) T F39 
  have G_are_chances := ok_are_chances (P := l.prog) (w := w) (base := base) (cl := fun _ => 0) T F40 G_fits_chances
  have G_is_chance := ok_is_chance (P := l.prog) (w := w) (base := base) (cl := fun _ => 0) T F41 G_fits_chance
  have G__law_under := ok__law_under (P := l.prog) (w := w) (base := base) (cl := fun _ => 0) T F42 
  have G__law_chance := ok__law_chance (P := l.prog) (w := w) (base := base) (cl := fun _ => 0) T F43 G__law_roll G__law_least
  have G__law_plus := ok__law_plus (P := l.prog) (w := w) (base := base) (cl := fun _ => 0) T F44 G__law_least
  have G__law_times := ok__law_times (P := l.prog) (w := w) (base := base) (cl := fun _ => 0) T F45 G__law_least
  have G__law_shares := ok__law_shares (P := l.prog) (w := w) (base := base) (cl := fun _ => 0) T F46 G__law_values G__law_times G__law_plus
  have G__law_is_share := ok__law_is_share (P := l.prog) (w := w) (base := base) (cl := fun _ => 0) T F47 G__law_sort G__law_divisor
  have G__law_is_rule := ok__law_is_rule (P := l.prog) (w := w) (base := base) (cl := fun _ => 0) T F48 G__law_values G__law_sort G__law_is_share
  have G__law_right := ok__law_right (P := l.prog) (w := w) (base := base) (cl := fun _ => 0) T F49 G__law_values G_are_chances G__law_least G_quotient_of G__law_like G__law_under G_are_rising G__law_chance G_is_rule G_false_share G_power_of_rule G__law_shares G_is_chance G__law_roll G__law_is_rule
  have G_law := ok_law (P := l.prog) (w := w) (base := base) (cl := fun _ => 0) T F50 G__law_cup G_are_rising G_is_rule G__law_like G_quotient_of G_false_share G_power_of_rule G__law_two G__law_right G__law_roll G__law_least G__law_chances G_mean_of
  exact G_law.imp law_sp
end K80
open PySem PySem.W PyProof.Rows
set_option maxRecDepth 100000 in
set_option maxHeartbeats 0 in
theorem PySem.Challenge.cw_exacttests_k80_whole_rules_and_quotients_holds : PySem.Challenge.rw_exacttests_k80_whole_rules_and_quotients.Holds := by
  w_on; o_law; k_head; (case hw => w_witness2)
  k_fill
  refine L2.walk_of (l := PySem.Challenge.rw_exacttests_k80_whole_rules_and_quotients) (n := 63) (k := 16) (x := "script") (CX := fun w => L2.CX PySem.Challenge.rw_exacttests_k80_whole_rules_and_quotients.prog w) (sp := fun w => K80.spLaw _) rfl (by decide) rfl ⟨rfl, by decide, by decide⟩ (fun w h Y => PySem.W.kIn_of Y) ?F (fun _ _ a ns hl _ hS => ⟨a, ns, rfl, hS, hl, fun _ => rfl⟩) (fun _ _ _ _ _ h => by obtain ⟨_, _, _, _, _, _, _, _, _, _, _, _, z⟩ := h; exact z)
  case F =>
    intro w mg fa h KX G hmg
    refine' K80.all_mk KX G hmg ?a0 ?l0 ?c0 ?k0 ?a1 ?l1 ?c1 ?k1 ?a2 ?l2 ?c2 ?k2 ?a3 ?l3 ?c3 ?k3 ?a4 ?l4 ?c4 ?k4 ?a5 ?l5 ?c5 ?k5 ?a6 ?l6 ?c6 ?k6 ?a7 ?l7 ?c7 ?k7 ?a8 ?l8 ?c8 ?k8 ?a9 ?l9 ?c9 ?k9 ?a10 ?l10 ?c10 ?k10 ?a11 ?l11 ?c11 ?k11 ?a12 ?l12 ?c12 ?k12 ?a13 ?l13 ?c13 ?k13 ?a14 ?l14 ?c14 ?k14 ?a15 ?l15 ?c15 ?k15 ?a16 ?l16 ?c16 ?k16 ?a17 ?l17 ?c17 ?k17 ?a18 ?l18 ?c18 ?k18 ?a19 ?l19 ?c19 ?k19 ?a20 ?l20 ?c20 ?k20 ?a21 ?l21 ?c21 ?k21 ?a22 ?l22 ?c22 ?k22 ?a23 ?l23 ?c23 ?k23 ?a24 ?l24 ?c24 ?k24 ?a25 ?l25 ?c25 ?k25 ?a26 ?l26 ?c26 ?k26 ?a27 ?l27 ?c27 ?k27 ?a28 ?l28 ?c28 ?k28 ?a29 ?l29 ?c29 ?k29 ?a30 ?l30 ?c30 ?k30 ?a31 ?l31 ?c31 ?k31 ?a32 ?l32 ?c32 ?k32 ?a33 ?l33 ?c33 ?k33 ?a34 ?l34 ?c34 ?k34 ?a35 ?l35 ?c35 ?k35 ?a36 ?l36 ?c36 ?k36 ?a37 ?l37 ?c37 ?k37 ?a38 ?l38 ?c38 ?k38 ?a39 ?l39 ?c39 ?k39 ?a40 ?l40 ?c40 ?k40 ?a41 ?l41 ?c41 ?k41 ?a42 ?l42 ?c42 ?k42 ?a43 ?l43 ?c43 ?k43 ?a44 ?l44 ?c44 ?k44 ?a45 ?l45 ?c45 ?k45 ?a46 ?l46 ?c46 ?k46 ?a47 ?l47 ?c47 ?k47 ?a48 ?l48 ?c48 ?k48 ?a49 ?l49 ?c49 ?k49 ?a50 ?l50 ?c50 ?k50 ?z_abs ?z_all ?z_any ?z_bool ?z_dict ?z_enumerate ?z_int ?z_isinstance ?z_len ?z_list ?z_max ?z_range ?z_set ?z_sorted ?z_str ?z_sum ?z_tuple ?z_zip ?y_FARTHEST ?y_GREAT ?y_MOST_VALUES ?y_NONE ?w_NONE ?y_ONE ?w_ONE
    (case a0 => k_is); (case l0 => k_is); (case c0 => k_is); (case k0 => k_is)
    (case a1 => k_is); (case l1 => k_is); (case c1 => k_is); (case k1 => k_is)
    (case a2 => k_is); (case l2 => k_is); (case c2 => k_is); (case k2 => k_is)
    (case a3 => k_is); (case l3 => k_is); (case c3 => k_is); (case k3 => k_is)
    (case a4 => k_is); (case l4 => k_is); (case c4 => k_is); (case k4 => k_is)
    (case a5 => k_is); (case l5 => k_is); (case c5 => k_is); (case k5 => k_is)
    (case a6 => k_is); (case l6 => k_is); (case c6 => k_is); (case k6 => k_is)
    (case a7 => k_is); (case l7 => k_is); (case c7 => k_is); (case k7 => k_is)
    (case a8 => k_is); (case l8 => k_is); (case c8 => k_is); (case k8 => k_is)
    (case a9 => k_is); (case l9 => k_is); (case c9 => k_is); (case k9 => k_is)
    (case a10 => k_is); (case l10 => k_is); (case c10 => k_is); (case k10 => k_is)
    (case a11 => k_is); (case l11 => k_is); (case c11 => k_is); (case k11 => k_is)
    (case a12 => k_is); (case l12 => k_is); (case c12 => k_is); (case k12 => k_is)
    (case a13 => k_is); (case l13 => k_is); (case c13 => k_is); (case k13 => k_is)
    (case a14 => k_is); (case l14 => k_is); (case c14 => k_is); (case k14 => k_is)
    (case a15 => k_is); (case l15 => k_is); (case c15 => k_is); (case k15 => k_is)
    (case a16 => k_is); (case l16 => k_is); (case c16 => k_is); (case k16 => k_is)
    (case a17 => k_is); (case l17 => k_is); (case c17 => k_is); (case k17 => k_is)
    (case a18 => k_is); (case l18 => k_is); (case c18 => k_is); (case k18 => k_is)
    (case a19 => k_is); (case l19 => k_is); (case c19 => k_is); (case k19 => k_is)
    (case a20 => k_is); (case l20 => k_is); (case c20 => k_is); (case k20 => k_is)
    (case a21 => k_is); (case l21 => k_is); (case c21 => k_is); (case k21 => k_is)
    (case a22 => k_is); (case l22 => k_is); (case c22 => k_is); (case k22 => k_is)
    (case a23 => k_is); (case l23 => k_is); (case c23 => k_is); (case k23 => k_is)
    (case a24 => k_is); (case l24 => k_is); (case c24 => k_is); (case k24 => k_is)
    (case a25 => k_is); (case l25 => k_is); (case c25 => k_is); (case k25 => k_is)
    (case a26 => k_is); (case l26 => k_is); (case c26 => k_is); (case k26 => k_is)
    (case a27 => k_is); (case l27 => k_is); (case c27 => k_is); (case k27 => k_is)
    (case a28 => k_is); (case l28 => k_is); (case c28 => k_is); (case k28 => k_is)
    (case a29 => k_is); (case l29 => k_is); (case c29 => k_is); (case k29 => k_is)
    (case a30 => k_is); (case l30 => k_is); (case c30 => k_is); (case k30 => k_is)
    (case a31 => k_is); (case l31 => k_is); (case c31 => k_is); (case k31 => k_is)
    (case a32 => k_is); (case l32 => k_is); (case c32 => k_is); (case k32 => k_is)
    (case a33 => k_is); (case l33 => k_is); (case c33 => k_is); (case k33 => k_is)
    (case a34 => k_is); (case l34 => k_is); (case c34 => k_is); (case k34 => k_is)
    (case a35 => k_is); (case l35 => k_is); (case c35 => k_is); (case k35 => k_is)
    (case a36 => k_is); (case l36 => k_is); (case c36 => k_is); (case k36 => k_is)
    (case a37 => k_is); (case l37 => k_is); (case c37 => k_is); (case k37 => k_is)
    (case a38 => k_is); (case l38 => k_is); (case c38 => k_is); (case k38 => k_is)
    (case a39 => k_is); (case l39 => k_is); (case c39 => k_is); (case k39 => k_is)
    (case a40 => k_is); (case l40 => k_is); (case c40 => k_is); (case k40 => k_is)
    (case a41 => k_is); (case l41 => k_is); (case c41 => k_is); (case k41 => k_is)
    (case a42 => k_is); (case l42 => k_is); (case c42 => k_is); (case k42 => k_is)
    (case a43 => k_is); (case l43 => k_is); (case c43 => k_is); (case k43 => k_is)
    (case a44 => k_is); (case l44 => k_is); (case c44 => k_is); (case k44 => k_is)
    (case a45 => k_is); (case l45 => k_is); (case c45 => k_is); (case k45 => k_is)
    (case a46 => k_is); (case l46 => k_is); (case c46 => k_is); (case k46 => k_is)
    (case a47 => k_is); (case l47 => k_is); (case c47 => k_is); (case k47 => k_is)
    (case a48 => k_is); (case l48 => k_is); (case c48 => k_is); (case k48 => k_is)
    (case a49 => k_is); (case l49 => k_is); (case c49 => k_is); (case k49 => k_is)
    (case a50 => k_is); (case l50 => k_is); (case c50 => k_is); (case k50 => k_is)
    (case z_abs => k_is)
    (case z_all => k_is)
    (case z_any => k_is)
    (case z_bool => k_is)
    (case z_dict => k_is)
    (case z_enumerate => k_is)
    (case z_int => k_is)
    (case z_isinstance => k_is)
    (case z_len => k_is)
    (case z_list => k_is)
    (case z_max => k_is)
    (case z_range => k_is)
    (case z_set => k_is)
    (case z_sorted => k_is)
    (case z_str => k_is)
    (case z_sum => k_is)
    (case z_tuple => k_is)
    (case z_zip => k_is)
    (case y_FARTHEST => k_is)
    (case y_GREAT => k_is)
    (case y_MOST_VALUES => k_is)
    (case y_NONE => k_is)
    (case w_NONE => k_is)
    (case y_ONE => k_is)
    (case w_ONE => k_is)
