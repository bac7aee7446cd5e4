import PyProof.Rows.All
import Wide.All
import OpenK.AllK
import Wide.FinOn
import PyProof.EqAt
import PyProof.EqKinds
import PyProof.TupleCall
import Open.SpecLaws
import KE.OsGo
import KE.DataMinMax
import KE.DatumOrd
import KE.KDictZip
import HandS.ForSpec
import HandS.Comp
import HandS.Dict
import HandS.Iter
import HandS.Walk
import HandS.ExcInit
import HandS.ExcField
import HandS.SortKw
import PySem.Challenge.RW_waitingballoons_s01_answers
set_option Elab.async false
set_option linter.all false
set_option maxRecDepth 100000
set_option maxHeartbeats 2000000
/-! ### slices with a step; min and max with default=; min of tuples -/
namespace Bal
open PySem PySem.Spec PyProof.Rows L2
/-- the items that a slice picks -/
def pickV (xs : List V) (lo hi st : Option Int) : List V :=
  (sliceRange (sliceBounds lo hi st xs.length).1 (sliceBounds lo hi st xs.length).2.1 (sliceBounds lo hi st xs.length).2.2).filterMap (xs[·]?)
theorem vals_filterMap {xs : List V} {us : List Value} (r : Vals xs us) : ∀ ks : List Nat, Vals (ks.filterMap (xs[·]?)) (ks.filterMap (us[·]?))
  | [] => .nil
  | k :: ks => by
    have ih := vals_filterMap r ks
    cases e : xs[k]? with
    | none =>
      have e2 := Vals.none_of r e
      rw [List.filterMap_cons_none e, List.filterMap_cons_none e2]
      exact ih
    | some x =>
      obtain ⟨u, hu, ru⟩ := Vals.get r e
      rw [List.filterMap_cons_some e, List.filterMap_cons_some hu]
      exact .cons ru ih
section
variable {X : Cx}
/-- e[lo:hi:st] of a list -/
def tSl3 (K : PySem.W.Frag) (te : TE) (tl th ts : L2.St → Hp → (Option Int → Hp → Prop) → Prop) : TE := fun σ H Q => te σ H fun x H1 => tl σ H1 fun lo H2 => th σ H2 fun hi H3 => ts σ H3 fun st H4 =>
  st ≠ some 0 ∧ ∃ a xs, x = .ref a ∧ SqL K H4 a xs ∧ (pickV xs lo hi st).length ≤ sizeLine ∧ ∀ p, H4 p = none → Q (.ref p) (upd H4 p (.lst (pickV xs lo hi st)))
theorem pe_slice3 {e c : Expr} {te : TE} {lo hi : Option Expr} {tl th ts : L2.St → Hp → (Option Int → Hp → Prop) → Prop} {p3 pos : Pos} (he : PE X e te) (hl : PO X lo tl) (hh : PO X hi th) (hst : PO X (some c) ts) :
    PE X (.Subscript e (.Slice lo hi (some c) p3) pos) (tSl3 X.K te tl th ts) := by
  refine ⟨fun pins s σ H Q I h => ?_⟩
  refine Subscript_ (thn (he.run pins s σ H _ I h) fun v s1 ⟨x, H1, I1, r1, q1⟩ => ?_)
  refine wpAny_Slice (thn (hl.run pins s1 σ H1 _ I1 q1) fun vl s2 ⟨l, H2, I2, pl, q2⟩ => thn (hh.run pins s2 σ H2 _ I2 q2) fun vu s3 ⟨u, H3, I3, pu, q3⟩ => thn (hst.run pins s3 σ H3 _ I3 q3) fun vs s4 ⟨o, H4, I4, ps, q4⟩ => ?_)
  obtain ⟨h0, a, xs, ex, hx, hz, q⟩ := q4
  subst ex
  cases r1
  have I5 : Inv X pins σ H4 { s4 with heap := s4.heap.push { cls := .type "slice", data := .fields #[vl, vu, vs] } } := I4.kept (t' := s4.toks) fun b ob q => Heap.get?_push_of_some _ q
  obtain ⟨its, r, ht, hz1⟩ := I5.list hx
  have hlen := r.length
  show wpAny (model X.prog X.w) X.A (subscriptTail e (.Slice lo hi (some c) p3) (.ref a) (.ref s4.heap.objs.size)) (EP X pins σ Q) X.xe { s4 with heap := s4.heap.push { cls := .type "slice", data := .fields #[vl, vu, vs] } }
  refine tail_any (ops := [.ref a, .ref s4.heap.objs.size]) ht.isList.typeIs (PySem.slot_list_getitem.lookup) ?_ (by with_unfolding_all rfl)
  refine wpAny_getItem_list_slice ht.isList (Heap.IsSliceOf.new _ vl vu vs) pl pu ps h0 ?_ (by rw [List.size_toArray]; omega)
  refine ⟨.ref _, _, I5.laid (t' := s4.toks) (o := .lst (pickV xs l u o)) (fun b ob q => Heap.get?_push_of_some _ q) (Nat.le_refl _) ?_, rfl, q _ (I5.hok.fresh (Nat.le_refl _))⟩
  refine ⟨hz, (sliceRange (sliceBounds l u o its.length).1 (sliceBounds l u o its.length).2.1 (sliceBounds l u o its.length).2.2).filterMap (its[·]?), 0, ?_, ?_⟩
  · unfold pickV
    rw [hlen]
    exact vals_filterMap r _
  · refine (Heap.get?_push_size _ rfl).trans ?_
    unfold slicePick
    simp

theorem vals_rev {xs : List V} {us : List Value} {i : Nat} {u : Value} (r : Vals xs us) (e : us[i]? = some u) : ∃ x, xs[i]? = some x ∧ RelV x u := by
  cases h : xs[i]? with
  | none =>
    have e2 := Vals.none_of r h
    rw [e] at e2
    cases e2
  | some x =>
    obtain ⟨u', h1, h2⟩ := Vals.get r h
    rw [e] at h1
    cases h1
    exact ⟨x, rfl, h2⟩
/-- at x a tuple of the ints k -/
def TupI (K : PySem.W.Frag) (H : Hp) (x : V) (k : List Int) : Prop := ∃ t : Addr, x = .ref t ∧ SqT K H t (k.map V.int)
theorem reads_ints {h : Heap} : ∀ {k : List Int} {us : List Value}, Vals (k.map V.int) us → ReadsAll h us (k.map PyData.int) []
  | [], _, .nil => .nil
  | i :: k, _, .cons r t => by
    obtain ⟨tk, rfl⟩ := r
    have ih := reads_ints (h := h) t
    have q : ReadsAll h (Value.int i tk :: _) (PyData.int i :: k.map PyData.int) ([] ++ []) := .cons (.int i tk) ih
    exact q
theorem tupI_reads {pins : List (Addr × Obj)} {s : Shared} {σ : L2.St} {H : Hp} {x : V} {u : Value} {k : List Int} (I : Inv X pins σ H s) (h : TupI X.K H x k) (r : RelV x u) : Reads s.heap u (.tuple (k.map PyData.int)) [] := by
  obtain ⟨t, rfl, ht⟩ := h
  obtain rfl : u = Value.ref t := r
  obtain ⟨its, rv, ⟨o, ho, hc, n, hd⟩, hz⟩ := I.tuple ht
  exact Reads.tuple ho hc hd (by simpa using reads_ints rv)
theorem tupI_readsAll {pins : List (Addr × Obj)} {s : Shared} {σ : L2.St} {H : Hp} (I : Inv X pins σ H s) : ∀ {xs : List V} {us : List Value} {ks : List (List Int)}, Paired (TupI X.K H) xs ks → Vals xs us → ReadsAll s.heap us (ks.map fun k => PyData.tuple (k.map PyData.int)) []
  | _, _, _, .nil, .nil => .nil
  | _, _, _, .cons h1 h2, .cons r1 r2 => by
    have q := ReadsAll.cons (tupI_reads I h1 r1) (tupI_readsAll I h2 r2)
    exact q
/-- the least in the order of tuples -/
def minT (y : List Int) (ys : List (List Int)) : List Int := (PySem.W.minOf (α := PySem.W.Tup Int) ⟨y⟩ (ys.map fun k => ⟨k⟩)).items
theorem toD_tup (k : List Int) : PySem.W.Datum.toD (PySem.W.Tup.mk k) = PyData.tuple (k.map PyData.int) := rfl
theorem can_ints : ∀ k : List Int, PyData.canLayAll0 (k.map PyData.int) = true
  | [] => by simp [PyData.canLayAll0]
  | i :: k => by simp [PyData.canLayAll0, PyData.canLay0, can_ints k]
theorem tup_inj {a b : List Int} (h : PyData.tuple (a.map PyData.int) = PyData.tuple (b.map PyData.int)) : a = b := by
  have h' : a.map PyData.int = b.map PyData.int := PyData.tuple.inj h
  induction a generalizing b with
  | nil =>
    cases b with
    | nil => rfl
    | cons y b => cases h'
  | cons x a ih =>
    cases b with
    | nil => cases h'
    | cons y b =>
      rw [List.map_cons, List.map_cons] at h'
      injection h' with e1 e2
      injection e1 with e1
      rw [e1, ih (by rw [e2]) e2]
theorem pick_min {pins : List (Addr × Obj)} {s : Shared} {σ : L2.St} {H : Hp} {xs : List V} {us : List Value} {ks : List (List Int)} {i : Nat} {v : Value} {h' : Heap} {m : List Int} (I : Inv X pins σ H s) (hp : Paired (TupI X.K H) xs ks) (rv : Vals xs us) (hv : us[i]? = some v)
    (k : ∀ b o, s.heap.get? b = some o → h'.get? b = some o) (hm : PySem.W.Holds h' v (PySem.W.Tup.mk m)) : ∃ x, xs[i]? = some x ∧ RelV x v ∧ ks[i]? = some m := by
  obtain ⟨x, hx, rx⟩ := vals_rev rv hv
  have key : ∀ {xs : List V} {ks : List (List Int)} {i : Nat}, Paired (TupI X.K H) xs ks → xs[i]? = some x → ∃ k, ks[i]? = some k ∧ TupI X.K H x k := by
    intro xs ks i hp
    induction hp generalizing i with
    | nil => intro e; cases e
    | cons h1 _ ih =>
      intro e
      cases i with
      | zero =>
        have e' := Option.some.inj e
        subst e'
        exact ⟨_, rfl, h1⟩
      | succ i => exact ih e
  obtain ⟨kk, hk, ht⟩ := key hp hx
  refine ⟨x, hx, rx, ?_⟩
  obtain ⟨as, hr⟩ := hm
  have r1 := PyProof.Rows.Reads.keeps k (tupI_reads I ht rx)
  rw [toD_tup] at hr
  have e := PySem.SeqAt.Reads.unique _ _ _ _ _ (by simp only [PyData.canLay0]; exact can_ints _) r1 hr
  rw [hk, tup_inj e]
/-- min(xs, default=d), tuples of ints -/
def rMinTD (K : PySem.W.Frag) : List V → List V → Hp → VK → Prop := fun vs zs H Q => ∃ (a : Addr) (xs : List V) (ks : List (List Int)) (d : V), vs = [V.ref a] ∧ zs = [d] ∧ SqL K H a xs ∧ Paired (TupI K H) xs ks ∧
  (ks = [] → Q d H) ∧ ∀ (y : List Int) (ys : List (List Int)) (i : Nat) (x : V), ks = y :: ys → xs[i]? = some x → ks[i]? = some (minT y ys) → Q x H
theorem maps_tup (ks : List (List Int)) : (ks.map PySem.W.Tup.mk).map PySem.W.Datum.toD = ks.map fun k => PyData.tuple (k.map PyData.int) := by
  rw [List.map_map]
  rfl
theorem cr_minTD (hc : X.calm = true) (hu : X.A.units + 64 < cLine) : CallRK X (.builtin "min") [Str.ofString "default"] (rMinTD X.K) := by
  intro pins s σ H vs zs us ws Q I r rz h
  obtain ⟨a, xs, ks, d, rfl, rfl, hs, hp, h0, h1⟩ := h
  obtain rfl := Vals.ref1 r
  obtain ⟨w1, rfl, e1⟩ := vals1 rz
  obtain ⟨its, rv, hl, hz⟩ := I.list hs
  refine PySem.W.min_list_datum_default (α := PySem.W.Tup Int) (xs := ks.map PySem.W.Tup.mk) (I.ok.hd hc) hl.isList ⟨[], by rw [maps_tup]; simpa using tupI_readsAll I hp rv⟩ (by show X.A.units + 1 + _ < _; exact Nat.lt_of_le_of_lt (Nat.add_le_add_left (show PySem.W.Datum.depth (PySem.W.Tup Int) ≤ 63 by decide) _) (by omega)) (fun e h' tk k => ⟨d, H, I.kept k, e1, h0 (List.map_eq_nil_iff.mp e)⟩) fun y ys i v h' tk e hv hm k => ?_
  cases ks with
  | nil => cases e
  | cons z zs =>
    rw [List.map_cons] at e
    injection e with e2 e3
    subst e2 e3
    obtain ⟨x, hx, rx, hk⟩ := pick_min (m := minT z zs) I hp rv (by simpa using hv) k hm
    exact ⟨x, H, I.kept k, rx, h1 z zs i x rfl hx hk⟩
/-- min(xs), tuples of ints, not empty -/
def rMinT (K : PySem.W.Frag) : List V → Hp → VK → Prop := fun vs H Q => ∃ (a : Addr) (xs : List V) (y : List Int) (ys : List (List Int)), vs = [V.ref a] ∧ SqL K H a xs ∧ Paired (TupI K H) xs (y :: ys) ∧
  ∀ (i : Nat) (x : V), xs[i]? = some x → (y :: ys)[i]? = some (minT y ys) → Q x H
theorem cr_minT (hc : X.calm = true) (hu : X.A.units + 64 < cLine) : CallR X (.builtin "min") (rMinT X.K) := by
  intro pins s σ H vs us Q I r h
  obtain ⟨a, xs, y, ys, rfl, hs, hp, h1⟩ := h
  obtain rfl := Vals.ref1 r
  obtain ⟨its, rv, hl, hz⟩ := I.list hs
  refine PySem.W.min_list_datum (α := PySem.W.Tup Int) (x := PySem.W.Tup.mk y) (xs := ys.map PySem.W.Tup.mk) (I.ok.hd hc) hl.isList ⟨[], by rw [← List.map_cons (f := PySem.W.Tup.mk), maps_tup]; simpa using tupI_readsAll I hp rv⟩ (by show X.A.units + 1 + _ < _; exact Nat.lt_of_le_of_lt (Nat.add_le_add_left (show PySem.W.Datum.depth (PySem.W.Tup Int) ≤ 63 by decide) _) (by omega)) fun i v h' tk hv hm k => ?_
  obtain ⟨x, hx, rx, hk⟩ := pick_min (m := minT y ys) I hp rv (by simpa using hv) k hm
  exact ⟨x, H, I.kept k, rx, h1 i x hx hk⟩
/-- max(xs, default=d), ints -/
def rMaxID (K : PySem.W.Frag) : List V → List V → Hp → VK → Prop := fun vs zs H Q => ∃ (a : Addr) (ns : List Int) (d : V), vs = [V.ref a] ∧ zs = [d] ∧ SqL K H a (ns.map V.int) ∧
  (ns = [] → Q d H) ∧ ∀ (y : Int) (ys : List Int), ns = y :: ys → Q (.int (PySem.W.maxOf y ys)) H
theorem cr_maxID (hc : X.calm = true) (hu : X.A.units + 64 < cLine) : CallRK X (.builtin "max") [Str.ofString "default"] (rMaxID X.K) := by
  intro pins s σ H vs zs us ws Q I r rz h
  obtain ⟨a, ns, d, rfl, rfl, hs, h0, h1⟩ := h
  obtain rfl := Vals.ref1 r
  obtain ⟨w1, rfl, e1⟩ := vals1 rz
  obtain ⟨its, rv, hl, hz⟩ := I.list hs
  refine PySem.W.max_list_datum_default (α := Int) (xs := ns) (I.ok.hd hc) hl.isList ⟨[], reads_ints (h := s.heap) rv⟩ (by show X.A.units + 1 + _ < _; exact Nat.lt_of_le_of_lt (Nat.add_le_add_left (show PySem.W.Datum.depth Int ≤ 63 by decide) _) (by omega)) (fun e h' tk k => ⟨d, H, I.kept k, e1, h0 e⟩) fun y ys i v h' tk e hv hm k => ?_
  obtain ⟨as, hr⟩ := hm
  have hr' : Reads h' v (PyData.int (PySem.W.maxOf y ys)) as := hr
  cases hr' with
  | int _ t => exact ⟨.int _, H, I.kept k, ⟨t, rfl⟩, h1 y ys e⟩
end
end Bal
/-! ### list(zip(xs, ys)) of two lists -/
namespace Bal
open PySem PySem.Calls PyProof.Rows PySem.W
theorem zip_no_len : typeLookup (.type "zip") "__len__" = pure none := am_miss_of_fast (by decide +kernel)
theorem zip_no_hint : typeLookup (.type "zip") "__length_hint__" = pure none := am_miss_of_fast (by decide +kernel)
/-- a zip of the lists at l1, l2, i items given out; S: an address apart -/
structure ZSt (h : Heap) (z TI TO i1 i2 l1 l2 : Addr) (xs ys : Array Value) (S : Addr) (i : Nat) : Prop where
  ti : IsPair h TI (.ref i1) (.ref i2)
  h1 : h.IsListIter i1 l1 i
  h2 : h.IsListIter i2 l2 i
  p1 : h.IsList l1 xs
  p2 : h.IsList l2 ys
  z : (IsZip h z TI TO .none ∧ ∃ a b, IsPair h TO a b) ∨ ∃ T f oT, IsZipHeld h z TI TO T f ∧ h.get? T = some oT ∧ T ≠ z ∧ T ≠ i1 ∧ T ≠ i2 ∧ T ≠ S
/-- the addresses as hold the pairs of xs and ys, in order; they lie above lo and rise -/
structure ZG (xs ys : Array Value) (lo : Addr) (h : Heap) (as : List Addr) : Prop where
  rise : as.Pairwise (· < ·)
  above : ∀ a ∈ as, lo < a
  pairs : ∀ (j : Nat) (a : Addr), as[j]? = some a → ∃ x y, xs[j]? = some x ∧ ys[j]? = some y ∧ IsPair h a x y
theorem ZG.there {xs ys : Array Value} {lo : Addr} {h : Heap} {as : List Addr} (g : ZG xs ys lo h as) {a : Addr} (ha : a ∈ as) : a < h.objs.size := by
  obtain ⟨j, hj⟩ := List.mem_iff_getElem?.mp ha
  obtain ⟨_, _, _, _, e⟩ := g.pairs j a hj
  exact Heap.lt_size e
/-- the objects that a draw turns -/
def Off (z TO i1 i2 b : Addr) : Prop := b ≠ z ∧ b ≠ TO ∧ b ≠ i1 ∧ b ≠ i2
section
variable {prog : Program} {w : World} {A : Around} {s : Shared} {z TI TO i1 i2 l1 l2 S : Addr} {xs ys : Array Value}
theorem ZSt.keep {h h' : Heap} {i : Nat} (st : ZSt h z TI TO i1 i2 l1 l2 xs ys S i) (D : S ≠ z ∧ S ≠ TI ∧ S ≠ TO ∧ S ≠ i1 ∧ S ≠ i2 ∧ S ≠ l1 ∧ S ≠ l2) (k : ∀ b o, b ≠ S → h.get? b = some o → h'.get? b = some o) : ZSt h' z TI TO i1 i2 l1 l2 xs ys S i := by
  obtain ⟨ti, h1, h2, p1, p2, hz⟩ := st
  obtain ⟨dz, dTI, dTO, d1, d2, dl1, dl2⟩ := D
  refine ⟨k _ _ (Ne.symm dTI) ti, h1.at fun o e => k _ o (Ne.symm d1) e, h2.at fun o e => k _ o (Ne.symm d2) e, p1.at fun o e => k _ o (Ne.symm dl1) e, p2.at fun o e => k _ o (Ne.symm dl2) e, ?_⟩
  rcases hz with ⟨hz, a, b, hTO⟩ | ⟨T, f, oT, hz, hT, r1, r2, r3, r4⟩
  · exact .inl ⟨k _ _ (Ne.symm dz) hz, a, b, k _ _ (Ne.symm dTO) hTO⟩
  · exact .inr ⟨T, f, oT, k _ _ (Ne.symm dz) hz, k _ _ r4 hT, r1, r2, r3, r4⟩
theorem zst_item {E : Value → Shared → Prop} {i : Nat} {x y : Value} {Q : Option Value → Shared → Prop} (D : ZipApart z TI TO i1 i2 l1 l2) (st : ZSt s.heap z TI TO i1 i2 l1 l2 xs ys S i) (hS : S < s.heap.objs.size) (hx : xs[i]? = some x) (hy : ys[i]? = some y)
    (hQ : ∀ h', ZSt h' z TI TO i1 i2 l1 l2 xs ys S (i + 1) → IsPair h' s.heap.objs.size x y → h'.objs.size = s.heap.objs.size + 1 → (∀ c o, Off z TO i1 i2 c → s.heap.get? c = some o → h'.get? c = some o) → Q (some (.ref s.heap.objs.size)) { s with heap := h' }) :
    wpAny (model prog w) A (pyNext (.ref z)) Q E s := by
  obtain ⟨ti, h1, h2, p1, p2, hz⟩ := st
  have lt : ∀ {c o}, s.heap.get? c = some o → s.heap.objs.size ≠ c := fun e => Nat.ne_of_gt (Heap.lt_size e)
  have n1 : s.heap.objs.size ≠ i1 := let ⟨_, e, _⟩ := h1; lt e
  have n2 : s.heap.objs.size ≠ i2 := let ⟨_, e, _⟩ := h2; lt e
  rcases hz with ⟨hz, a, b, hTO⟩ | ⟨T, f, oT, hz, hT, r1, r2, r3, r4⟩
  · refine wpAny_pyNext_zip_item D hz ti hTO h1 h2 p1 p2 hx hy fun h' a1 a2 a3 a4 a5 a6 hk => ?_
    exact hQ h' ⟨hk _ _ D.TIz D.TITO D.TIi1 D.TIi2 ti, a3, a4, p1.at fun o e => hk _ o D.l1z D.l1TO D.l1i1 D.l1i2 e, p2.at fun o e => hk _ o D.l2z D.l2TO D.l2i1 D.l2i2 e, .inr ⟨_, false, _, a1, a5, lt hz, n1, n2, Nat.ne_of_gt hS⟩⟩ a5 a6
      fun c o hc e => hk c o hc.1 hc.2.1 hc.2.2.1 hc.2.2.2 e
  · refine wpAny_pyNext_zip_item_held D hz hT ti h1 h2 p1 p2 hx hy fun h' a1 a3 a4 a5 a6 hk => ?_
    exact hQ h' ⟨hk _ _ D.TIz D.TIi1 D.TIi2 ti, a3, a4, p1.at fun o e => hk _ o D.l1z D.l1i1 D.l1i2 e, p2.at fun o e => hk _ o D.l2z D.l2i1 D.l2i2 e, .inr ⟨T, true, oT, a1, hk _ _ r1 r2 r3 hT, r1, r2, r3, r4⟩⟩ a5 a6
      fun c o hc e => hk c o hc.1 hc.2.2.1 hc.2.2.2 e
theorem zst_done {E : Value → Shared → Prop} {i : Nat} {Q : Option Value → Shared → Prop} (hh : A.handled = none) (D : ZipApart z TI TO i1 i2 l1 l2) (st : ZSt s.heap z TI TO i1 i2 l1 l2 xs ys S i) (hend : xs[i]? = none ∨ ys[i]? = none)
    (hQ : ∀ h', (∀ c o, Off z TO i1 i2 c → s.heap.get? c = some o → h'.get? c = some o) → Q none { s with heap := h' }) :
    wpAny (model prog w) A (pyNext (.ref z)) Q E s := by
  obtain ⟨ti, h1, h2, p1, p2, hz⟩ := st
  rcases hz with ⟨hz, a, b, hTO⟩ | ⟨T, f, oT, hz, hT, r1, r2, r3, r4⟩
  · exact wpAny_pyNext_zip_end hh D hz ti hTO h1 h2 p1 p2 hend fun h' hk => hQ h' fun c o hc e => hk c o hc.1 hc.2.1 hc.2.2.1 hc.2.2.2 e
  · exact wpAny_pyNext_zip_end_held hh D hz hT ti h1 h2 p1 p2 hend fun h' hk => hQ h' fun c o hc e => hk c o hc.1 hc.2.2.1 hc.2.2.2 e

theorem zl_loop {R : Result → Shared → Prop} {h₁ : Heap} (hh : A.handled = none) (D : ZipApart z TI TO i1 i2 l1 l2) (DS : S ≠ z ∧ S ≠ TI ∧ S ≠ TO ∧ S ≠ i1 ∧ S ≠ i2 ∧ S ≠ l1 ∧ S ≠ l2) (hzS : z < S ∧ TO < S ∧ i1 < S ∧ i2 < S) (hn : min xs.size ys.size ≤ sizeLine) (res : Value)
    (hR : ∀ h' tk acc c as, (∀ b o, b ≠ S → Off z TO i1 i2 b → h₁.get? b = some o → h'.get? b = some o) → h'.get? S = some { cls := .type "list", dict := none, data := .seq acc c, slots := #[] } → as.length = min xs.size ys.size → ZG xs ys S h' as →
      acc.toList = as.map Value.ref → R (.ok (.ret res)) { s with heap := h', toks := tk }) :
    ∀ (k i : Nat) (h : Heap) (tk c : Nat) (acc : Array Value) (as : List Addr), min xs.size ys.size - i = k → i ≤ min xs.size ys.size → ZSt h z TI TO i1 i2 l1 l2 xs ys S i → (∀ b o, b ≠ S → Off z TO i1 i2 b → h₁.get? b = some o → h.get? b = some o) →
      h.get? S = some { cls := .type "list", dict := none, data := .seq acc c, slots := #[] } → acc.toList = as.map Value.ref → as.length = i → ZG xs ys S h as →
      codeAny (model prog w) A (.builtin "list.extend.loop" ⟨[.ref S, .ref z, res], []⟩) R { s with heap := h, toks := tk } := by
  obtain ⟨dz, dTI, dTO, d1, d2, dl1, dl2⟩ := id DS
  have offS : Off z TO i1 i2 S := ⟨dz, dTO, d1, d2⟩
  have offA : ∀ {a : Addr}, S < a → Off z TO i1 i2 a := fun h => ⟨Nat.ne_of_gt (Nat.lt_trans hzS.1 h), Nat.ne_of_gt (Nat.lt_trans hzS.2.1 h), Nat.ne_of_gt (Nat.lt_trans hzS.2.2.1 h), Nat.ne_of_gt (Nat.lt_trans hzS.2.2.2 h)⟩
  intro k
  induction k with
  | zero =>
    intro i h tk c acc as hk hi hst hkeep hS hacc hal hG
    have hin : i = min xs.size ys.size := by omega
    refine codeAny_builtin PySem.F.entry_extend_loop ?_
    rw [Around.under_plainId PySem.F.plain_extend_loop _]
    show wpAny _ A.in1 (pyNext (.ref z) >>= _) _ _ _
    have hend : xs[i]? = none ∨ ys[i]? = none := by
      rcases Nat.le_total xs.size ys.size with q | q
      · exact .inl (Array.getElem?_eq_none (by rw [hin, Nat.min_eq_left q]; exact Nat.le_refl _))
      · exact .inr (Array.getElem?_eq_none (by rw [hin, Nat.min_eq_right q]; exact Nat.le_refl _))
    refine wpAny_bind (zst_done (s := { s with heap := h, toks := tk }) (A := A.in1) hh D hst hend fun h' he => ?_)
    refine wpAny_pure (hR h' tk acc c as (fun b o h1 h2 e => he b o h2 (hkeep b o h1 h2 e)) (he S _ offS hS) (by omega) ⟨hG.rise, hG.above, fun j a hj => ?_⟩ hacc)
    obtain ⟨x, y, e1, e2, e3⟩ := hG.pairs j a hj
    exact ⟨x, y, e1, e2, he a _ (offA (hG.above a (List.mem_of_getElem? hj))) e3⟩
  | succ k ih =>
    intro i h tk c acc as hk hi hst hkeep hS hacc hal hG
    have hlt : i < min xs.size ys.size := by omega
    have hx := Array.getElem?_eq_getElem (xs := xs) (i := i) (by omega)
    have hy := Array.getElem?_eq_getElem (xs := ys) (i := i) (by omega)
    have hsz : acc.size = i := by rw [← Array.length_toList, hacc, List.length_map, hal]
    refine codeAny_builtin PySem.F.entry_extend_loop ?_
    rw [Around.under_plainId PySem.F.plain_extend_loop _]
    show wpAny _ A.in1 (pyNext (.ref z) >>= _) _ _ _
    refine wpAny_bind (zst_item (s := { s with heap := h, toks := tk }) D hst (Heap.lt_size hS) hx hy fun h' hst' ht hz hkp => ?_)
    dsimp only at ht hz hkp ⊢
    have hS' := hkp S _ offS hS
    have up : ∀ b o, b ≠ S → h'.get? b = some o → (h'.update S (Obj.mapSeq (·.push (Value.ref h.objs.size)))).get? b = some o := fun b o hb e => (Heap.get?_update_other _ _ (Ne.symm hb)).trans e
    have hSl : S < h.objs.size := Heap.lt_size hS
    show wpAny _ A.in1 (updateSeq S (·.push (Value.ref h.objs.size)) >>= _) _ _ _
    refine wpAny_bind ?_
    refine wpAny_updateSeq hS' rfl (wpAny_pure ⟨plainId_quiet PySem.F.plain_extend_loop _, ih (i + 1) _ tk _ (acc.push (Value.ref h.objs.size)) (as ++ [h.objs.size]) (by omega) hlt (hst'.keep DS up)
      (fun b o h1 h2 e => up b o h1 (hkp b o h2 (hkeep b o h1 h2 e))) (Heap.get?_update_self _ hS' rfl) (by rw [Array.toList_push, hacc, List.map_append]; rfl) (by rw [List.length_append, hal]; rfl) ⟨?_, ?_, ?_⟩⟩) (by rw [hsz]; omega) (by show (acc.push (Value.ref h.objs.size)).size ≤ sizeLine + 1; rw [Array.size_push, hsz]; omega)
    · refine List.pairwise_append.mpr ⟨hG.rise, List.pairwise_singleton _ _, fun a ha b hb => ?_⟩
      rw [List.mem_singleton.mp hb]
      exact hG.there ha
    · intro a ha
      rcases List.mem_append.mp ha with ha | ha
      · exact hG.above a ha
      · rw [List.mem_singleton.mp ha]; exact hSl
    · intro j b hj
      rcases Nat.lt_trichotomy j as.length with h1 | h1 | h1
      · rw [List.getElem?_append_left h1] at hj
        obtain ⟨x, y, e1, e2, e3⟩ := hG.pairs j b hj
        have hb := hG.above b (List.mem_of_getElem? hj)
        exact ⟨x, y, e1, e2, up b _ (Nat.ne_of_gt hb) (hkp b _ (offA hb) e3)⟩
      · subst h1
        have hb : h.objs.size = b := by simpa using hj
        subst hb
        subst hal
        exact ⟨_, _, hx, hy, up _ _ (Nat.ne_of_gt hSl) ht⟩
      · have hnone : (as ++ [h.objs.size])[j]? = none := List.getElem?_eq_none (by rw [List.length_append, List.length_singleton]; omega)
        rw [hnone] at hj; cases hj
/-- list(z), z a new zip of two lists -/
theorem zl_call {E : Value → Shared → Prop} {Q : Value → Shared → Prop} (hh : A.handled = none) (D : ZipApart z TI TO i1 i2 l1 l2) (hz : IsZip s.heap z TI TO .none) (hTI : IsPair s.heap TI (.ref i1) (.ref i2)) (hTO : ∃ a b, IsPair s.heap TO a b)
    (h1 : s.heap.IsListIter i1 l1 0) (h2 : s.heap.IsListIter i2 l2 0) (p1 : s.heap.IsList l1 xs) (p2 : s.heap.IsList l2 ys) (hn : min xs.size ys.size ≤ sizeLine)
    (hQ : ∀ h' tk acc c as, (∀ b o, Off z TO i1 i2 b → s.heap.get? b = some o → h'.get? b = some o) → h'.get? s.heap.objs.size = some { cls := .type "list", dict := none, data := .seq acc c, slots := #[] } → as.length = min xs.size ys.size → ZG xs ys s.heap.objs.size h' as →
      acc.toList = as.map Value.ref → Q (.ref s.heap.objs.size) { s with heap := h', toks := tk }) :
    wpAny (model prog w) A (call (.type "list") [.ref z]) Q E s := by
  refine callType_codes (Q₁ := fun obj s₁ => obj = .ref s.heap.objs.size ∧ s₁ = { s with heap := s.heap.push { cls := .type "list", data := .seq #[] } }) PySem.F.called_list (PySem.F.typeCall_list_1 _) PySem.F.entry_list_init
    (code_list_new _ ⟨rfl, rfl⟩) fun obj s₁ h₁ => ?_
  obtain ⟨rfl, rfl⟩ := h₁
  have hS : (s.heap.push { cls := .type "list", data := .seq #[] }).get? s.heap.objs.size = some { cls := .type "list", data := .seq #[] } := Heap.get?_push_size _ rfl
  obtain ⟨ta, tb, hTO⟩ := hTO
  have lz : z < s.heap.objs.size := Heap.lt_size hz
  have lTI : TI < s.heap.objs.size := Heap.lt_size hTI
  have lTO : TO < s.heap.objs.size := Heap.lt_size hTO
  have li1 : i1 < s.heap.objs.size := let ⟨_, e, _⟩ := h1; Heap.lt_size e
  have li2 : i2 < s.heap.objs.size := let ⟨_, e, _⟩ := h2; Heap.lt_size e
  have ll1 : l1 < s.heap.objs.size := let ⟨_, e, _⟩ := p1; Heap.lt_size e
  have ll2 : l2 < s.heap.objs.size := let ⟨_, e, _⟩ := p2; Heap.lt_size e
  refine ⟨⟨_, hS, rfl⟩, PySem.F.args_list_init_2 _ _, ?_⟩
  show wpAny _ A.in1.in1 (do let old ← Builtin.List.listItems (.ref s.heap.objs.size); Builtin.List.listUpdate (.ref s.heap.objs.size) (fun _ => #[]); letGo old.toList.reverse; Builtin.List.listExtendWith (.ref s.heap.objs.size) (.ref z) .none) _ _ _
  refine wpAny_bind ?_
  unfold Builtin.List.listItems
  refine wpAny_bind (wpAny_seqItems hS rfl (wpAny_pure ?_))
  show wpAny _ A.in1.in1 (updateSeq s.heap.objs.size (fun _ => #[]) >>= fun _ => letGo (#[] : Array Value).toList.reverse >>= fun _ => Builtin.List.listExtendWith (.ref s.heap.objs.size) (.ref z) .none) _ _ _
  refine wpAny_bind (wpAny_updateSeq hS rfl ?_)
  have hS2 := Heap.get?_update_self (Obj.mapSeq (fun _ => (#[] : Array Value))) hS rfl
  refine wpAny_bind (wpAny_letGo ?_)
  unfold Builtin.List.listExtendWith
  have up : ∀ (h : Heap) (f : Obj → Obj), (∀ b o, s.heap.get? b = some o → h.get? b = some o) → ∀ b o, s.heap.get? b = some o → (h.update s.heap.objs.size f).get? b = some o := fun h f q b o e =>
    (Heap.get?_update_other _ _ (Ne.symm (Nat.ne_of_lt (Heap.lt_size e)))).trans (q b o e)
  have k1 : ∀ b o, s.heap.get? b = some o → (s.heap.push { cls := .type "list", data := .seq #[] }).get? b = some o := fun b o e => Heap.get?_push_of_some _ e
  have k2 := up _ (Obj.mapSeq (fun _ => (#[] : Array Value))) k1
  have zty : ∀ {s' : Shared}, (∀ b o, s.heap.get? b = some o → s'.heap.get? b = some o) → s'.TypeIs (.ref z) "zip" := fun {s'} q => ⟨_, q _ _ hz, rfl⟩
  refine wpAny_bind (wpAny_typeOf (zty k2) ?_)
  have e1 : Builtin.List.listSameRef (.ref s.heap.objs.size) (.ref z) = false := by simp [Builtin.List.listSameRef, Nat.ne_of_gt lz]
  have e2 : (Value.type "zip" == Value.type "list") = false := by decide
  have e3 : (Value.type "zip" == Value.type "tuple") = false := by decide
  simp only [e1, e2, e3, Bool.or_false, Bool.false_eq_true, if_false]
  refine wpAny_bind (wpAny_pyIter_zip (k2 _ _ hz) ?_)
  refine wpAny_bind (wpAny_holding ?_)
  unfold Builtin.List.listLengthHint
  refine wpAny_bind (wpAny_specialOf (zty k2) zip_no_len ?_)
  show wpAny _ A.in1.in1 (specialOf (Value.ref z) (Str.ofString "__length_hint__") >>= _) _ _ _
  refine wpAny_bind (wpAny_specialOf (zty k2) zip_no_hint ?_)
  refine wpAny_pure ?_
  show wpAny _ A.in1.in1 (rule "list.extend.makes-room" >>= fun _ => Builtin.List.listTouch (.ref s.heap.objs.size) >>= fun _ =>
    again (.builtin "list.extend.loop" ⟨[.ref s.heap.objs.size, .ref z, .none], []⟩)) _ _ _
  refine wpAny_bind (wpAny_rule ?_)
  refine wpAny_bind ?_
  show wpAny _ A.in1.in1 (updateSeq s.heap.objs.size (·.push .none) >>= fun _ => updateSeq s.heap.objs.size (·.pop)) _ _ _
  refine wpAny_bind (wpAny_updateSeq hS2 rfl ?_)
  have hS3 := Heap.get?_update_self (Obj.mapSeq (·.push Value.none)) hS2 rfl
  refine wpAny_updateSeq (hz := by seq_fits) hS3 rfl ?_
  have hS4 := Heap.get?_update_self (Obj.mapSeq (·.pop)) hS3 rfl
  have k4 := up _ (Obj.mapSeq (·.pop)) (up _ (Obj.mapSeq (·.push Value.none)) k2)
  refine wpAny_pure ⟨plainId_quiet PySem.F.plain_extend_loop _, ?_⟩
  refine zl_loop (A := A.in1) (s := s) (h₁ := s.heap) (xs := xs) (ys := ys) hh D ⟨Nat.ne_of_gt lz, Nat.ne_of_gt lTI, Nat.ne_of_gt lTO, Nat.ne_of_gt li1, Nat.ne_of_gt li2, Nat.ne_of_gt ll1, Nat.ne_of_gt ll2⟩ ⟨lz, lTO, li1, li2⟩ hn .none
    (fun h' tk acc c as hk hS' hl hG hacc => ⟨rfl, hQ h' tk acc c as (fun b o hf e => hk b o (Nat.ne_of_lt (Heap.lt_size e)) hf e) hS' hl hG hacc⟩)
    (min xs.size ys.size) 0 _ _ _ #[] [] (Nat.sub_zero _) (Nat.zero_le _) ⟨k4 _ _ hTI, h1.at fun o e => k4 _ o e, h2.at fun o e => k4 _ o e, p1.at fun o e => k4 _ o e, p2.at fun o e => k4 _ o e, .inl ⟨k4 _ _ hz, ta, tb, k4 _ _ hTO⟩⟩ (fun b o _ _ e => k4 b o e) hS4 rfl rfl
    ⟨List.Pairwise.nil, (fun _ ha => nomatch ha), (fun j a hj => by simp at hj)⟩
end
end Bal
namespace Bal
open PySem PySem.Spec PyProof.Rows L2
/-- the pairs tracked at their addresses -/
def putP : Hp → List Addr → List (V × V) → Hp
  | H, a :: as, p :: ps => putP (upd H a (.tup [p.1, p.2])) as ps
  | H, _, _ => H
theorem putP_off {b : Addr} : ∀ (as : List Addr) (ps : List (V × V)) (H : Hp), b ∉ as → putP H as ps b = H b
  | [], _, _, _ => rfl
  | _ :: _, [], _, _ => rfl
  | a :: as, p :: ps, H, h => by
    show putP (upd H a (.tup [p.1, p.2])) as ps b = H b
    rw [putP_off as ps _ (fun z => h (List.mem_cons_of_mem _ z)), upd_ne (fun z => h (by rw [z]; exact List.mem_cons_self))]
theorem putP_at : ∀ (as : List Addr) (ps : List (V × V)) (H : Hp), as.length = ps.length → as.Nodup → Paired (fun (t : Addr) (p : V × V) => putP H as ps t = some (.tup [p.1, p.2])) as ps
  | [], [], _, _, _ => .nil
  | [], _ :: _, _, h, _ => by cases h
  | _ :: _, [], _, h, _ => by cases h
  | a :: as, p :: ps, H, h, hn => by
    have hn' := List.nodup_cons.mp hn
    have ih := putP_at as ps (upd H a (.tup [p.1, p.2])) (Nat.succ.inj h) hn'.2
    refine .cons ?_ ih
    show putP (upd H a (.tup [p.1, p.2])) as ps a = some (.tup [p.1, p.2])
    rw [putP_off as ps _ hn'.1, upd_same]
theorem vals_refs : ∀ as : List Addr, Vals (as.map V.ref) (as.map Value.ref)
  | [] => .nil
  | _ :: as => .cons rfl (vals_refs as)
theorem paired_ix {α β : Type} {F : α → β → Prop} : ∀ {xs : List α} {ys : List β}, Paired F xs ys → ∀ {x : α}, x ∈ xs → ∃ (j : Nat) (y : β), xs[j]? = some x ∧ ys[j]? = some y ∧ F x y
  | _, _, .cons h t, x, hx => by
    rcases List.mem_cons.mp hx with e | hx
    · rw [e]
      exact ⟨0, _, rfl, rfl, h⟩
    · obtain ⟨j, y, e1, e2, e3⟩ := paired_ix t hx
      exact ⟨j + 1, y, e1, e2, e3⟩
def tListZip (K : PySem.W.Frag) (ta : TA) : TE := fun σ H Q => ta σ H fun vs H1 => ∃ (a b : Addr) (xs ys : List V), vs = [.ref a, .ref b] ∧ SqL K H1 a xs ∧ SqL K H1 b ys ∧
  ∀ (H' : Hp) (p : Addr) (ts : List Addr), (∀ b o, H1 b = some o → H' b = some o) → H1 p = none → (∀ t ∈ ts, H1 t = none) → H' p = some (.lst (ts.map V.ref)) → Paired (fun (t : Addr) (q : V × V) => H' t = some (.tup [q.1, q.2])) ts (xs.zip ys) → Q (.ref p) H'
section
variable {X : Cx}
theorem zl_laid {pins : List (Addr × Obj)} {σ : L2.St} {H : Hp} {s : Shared} {h' : Heap} {tk : Nat} {xs ys : List V} {us ws : List Value} {acc : Array Value} {c : Nat} {as : List Addr} {S : Addr} (I : Inv X pins σ H s) (hS : s.heap.objs.size ≤ S) (hz : min xs.length ys.length ≤ sizeLine) (rx : Vals xs us) (ry : Vals ys ws)
    (hk : ∀ b o, s.heap.get? b = some o → h'.get? b = some o) (hS' : h'.get? S = some { cls := .type "list", dict := none, data := .seq acc c, slots := #[] }) (hl : as.length = min us.toArray.size ws.toArray.size) (hG : ZG us.toArray ws.toArray S h' as) (hacc : acc.toList = as.map Value.ref) :
    ∃ H' : Hp, (∀ b o, H b = some o → H' b = some o) ∧ H S = none ∧ (∀ t ∈ as, H t = none) ∧ H' S = some (.lst (as.map V.ref)) ∧ Paired (fun (t : Addr) (q : V × V) => H' t = some (.tup [q.1, q.2])) as (xs.zip ys) ∧ Inv X pins σ H' { s with heap := h', toks := tk } := by
  have l1 := rx.length
  have l2 := ry.length
  have la : as.length = min xs.length ys.length := by rw [hl, List.size_toArray, List.size_toArray, l1, l2]
  have lz : as.length = (xs.zip ys).length := by rw [la, List.length_zip]
  have hSn : S ∉ as := fun z => Nat.lt_irrefl _ (hG.above _ z)
  have nd : as.Nodup := List.Pairwise.imp (fun {a b} (h : a < b) => Nat.ne_of_lt h) hG.rise
  have new : ∀ t ∈ as, H t = none := fun t ht => I.hok.fresh (Nat.le_trans hS (Nat.le_of_lt (hG.above t ht)))
  have newS : H S = none := I.hok.fresh hS
  have atP := putP_at as (xs.zip ys) (upd H S (.lst (as.map V.ref))) lz nd
  have off : ∀ b, b ∉ as → b ≠ S → putP (upd H S (.lst (as.map V.ref))) as (xs.zip ys) b = H b := fun b h1 h2 => by rw [putP_off as _ _ h1, upd_ne h2]
  have low : ∀ b o, s.heap.get? b = some o → b ∉ as ∧ b ≠ S := fun b o e => ⟨fun z => absurd (Nat.lt_of_lt_of_le (Heap.lt_size e) hS) (Nat.not_lt.mpr (Nat.le_of_lt (hG.above b z))), Nat.ne_of_lt (Nat.lt_of_lt_of_le (Heap.lt_size e) hS)⟩
  have kp : ∀ b u, H b = some u → (putP (upd H S (.lst (as.map V.ref))) as (xs.zip ys)) b = some u := fun b u e => by
    rw [off b (fun z => by rw [new b z] at e; cases e) (fun z => by rw [z, newS] at e; cases e)]
    exact e
  have eS : putP (upd H S (.lst (as.map V.ref))) as (xs.zip ys) S = some (.lst (as.map V.ref)) := by rw [putP_off as _ _ hSn, upd_same]
  refine ⟨putP (upd H S (.lst (as.map V.ref))) as (xs.zip ys), kp, newS, new, eS, atP, ?_⟩
  refine I.call' (ch := []) rfl ⟨fun b o q _ _ _ => hk b o q, fun b o q _ _ _ => ⟨o.slots, hk b o q⟩, fun b o q n _ => ?_, fun b o q _ => ⟨o, hk b o q⟩, fun b xs q => kp b _ q, fun b o u q => kp b _ q, fun b ps q => ⟨#[], by rw [kp b _ q]; simp⟩⟩ (fun b u q => ?_) I.bare fun b z => by simp at z
  · obtain ⟨z1, z2⟩ := low b o q
    rw [off b z1 z2]
    exact n
  · by_cases hb : b ∈ as
    · obtain ⟨j, pk, e1, e2, e3⟩ := paired_ix atP hb
      rw [e3] at q
      cases q
      obtain ⟨x, y, f1, f2, f3⟩ := hG.pairs j b e1
      have f1' : us[j]? = some x := by simpa using f1
      have f2' : ws[j]? = some y := by simpa using f2
      obtain ⟨vx, g1, g2⟩ := vals_rev rx f1'
      obtain ⟨vy, g3, g4⟩ := vals_rev ry f2'
      have e4 : (xs.zip ys)[j]? = some (vx, vy) := by rw [List.getElem?_zip_eq_some]; exact ⟨g1, g3⟩
      rw [e4] at e2
      cases e2
      exact ⟨by show 2 ≤ sizeLine; decide, [x, y], .cons g2 (.cons g4 .nil), ⟨_, f3, rfl, _, rfl⟩⟩
    · by_cases hb2 : b = S
      · rw [hb2] at q ⊢
        rw [eS] at q
        cases q
        refine ⟨by rw [List.length_map]; omega, acc.toList, c, by rw [hacc]; exact vals_refs as, ?_⟩
        rw [Array.toArray_toList]
        exact hS'
      · rw [off b hb hb2] at q
        exact (I.hok b u q).stay (fun d v _ y => hk d v y) (fun d y => kp d _ y) fun d xs y => kp d _ y
/-- list(zip(e, e2)) -/
theorem pe_listZip {e e2 : Expr} {ta : TA} {p p2 pos pos2 : Pos} (hc : X.calm = true) (hg : Gl X "list") (hm : X.mg "list" = none) (hv : bootBuiltins "list" = some (.type "list")) (hg2 : Gl X "zip") (hm2 : X.mg "zip" = none) (ha : PA X [e, e2] ta)
    (hs2 : starEach [e, e2] X.env = (false, eval e X.env) :: starEach [e2] X.env := by rfl) (hpl2 : (backTo pos2 (starEach [e2] X.env)).any (·.1) = false := by rfl)
    (hs : starEach [.Call (.Name "zip" p2) [e, e2] [] pos2] X.env = (false, eval (.Call (.Name "zip" p2) [e, e2] [] pos2) X.env) :: starEach [] X.env := by rfl) :
    PE X (.Call (.Name "list" p) [.Call (.Name "zip" p2) [e, e2] [] pos2] [] pos) (tListZip X.K ta) := by
  refine ⟨fun pins s σ H Q I hq => ?_⟩
  refine wpAny_Call_Name_kw (ld_blt I hg hm hv ?_)
  refine PyProof.Rows.callWith_type1 ?_ hs rfl
  rw [hs]
  show wpAny _ _ (spliced ((false, eval (.Call (.Name "zip" p2) [e, e2] [] pos2) X.env) :: backTo pos (starEach [] X.env))) _ _ s
  refine Calls.spliced_cons ?_
  refine Call_ (ld_blt I hg2 hm2 PyProof.Rows.boot_zip (PyProof.Rows.callWith_type1 (thn (ha.run pos2 pins s σ H _ I hq) fun us s1 ⟨vs, H1, I1, r1, q1⟩ => ?_) hs2 hpl2))
  obtain ⟨a, b, xs, ys, ex, hqx, hqy, q⟩ := q1
  subst ex
  cases r1 with
  | cons r rr =>
    cases rr with
    | cons r' rr =>
      cases rr
      cases r
      cases r'
      obtain ⟨its, rv, pl1, z1⟩ := I1.list hqx
      obtain ⟨its2, rv2, pl2, z2⟩ := I1.list hqy
      have la : a < s1.heap.objs.size := pl1.lt
      have lb : b < s1.heap.objs.size := pl2.lt
      refine call_zip_2 pl1.isList pl2.isList fun h' hz hTI hTO h1 h2 hsz hk => ?_
      refine Calls.spliced_nil ?_
      have k1 : ∀ {c : Addr} {o : Obj}, s1.heap.get? c = some o → Off (s1.heap.objs.size + 4) (s1.heap.objs.size + 3) s1.heap.objs.size (s1.heap.objs.size + 1) c := fun {c o} y => by
        have y' := Heap.lt_size y
        exact ⟨Nat.ne_of_lt (Nat.lt_of_lt_of_le y' (Nat.le_add_right _ _)), Nat.ne_of_lt (Nat.lt_of_lt_of_le y' (Nat.le_add_right _ _)), Nat.ne_of_lt y', Nat.ne_of_lt (Nat.lt_of_lt_of_le y' (Nat.le_add_right _ _))⟩
      have hln : min its.toArray.size its2.toArray.size ≤ sizeLine := by
        rw [List.size_toArray, List.size_toArray, ← rv.length, ← rv2.length]
        omega
      refine zl_call (s := { s1 with heap := h' }) (I1.ok.hd hc) (PySem.W.ktu_apart s1.heap.objs.size a b la lb) hz hTI ⟨_, _, hTO⟩ h1 h2 (pl1.isList.at fun o y => hk _ _ y) (pl2.isList.at fun o y => hk _ _ y) hln fun h'' tk acc c as hk2 hS hl hG hacc => ?_
      obtain ⟨H', e1, e2, e3, e4, e5, J⟩ := zl_laid (tk := tk) I1 (S := h'.objs.size) (by rw [hsz]; exact Nat.le_add_right _ _) (by omega) rv rv2 (fun d o y => hk2 d o (k1 y) (hk d o y)) hS hl hG hacc
      exact ⟨.ref _, H', J, rfl, q H' _ as e1 e2 e3 e4 e5⟩
end
end Bal
/-! ### for k, (x, y) in enumerate(zip(xs, ys)): a zip whose pairs another one keeps or lets go -/
namespace Bal
open PySem PySem.Calls PyProof.Rows PySem.W
/-- a zip, its tuple's mark f0, the flag b -/
abbrev IsZp (h : Heap) (z TI TO : Addr) (f0 : Value) (b : Bool) : Prop :=
  h.get? z = some { cls := .type "zip", dict := none, data := .fields #[f0, .bool b, .bool false, .ref TI, .ref TO], slots := #[] }
/-- a zip of two lists whose pairs are not its own any more, i pairs given out -/
structure ZO (h : Heap) (z TI TO i1 i2 l1 l2 : Addr) (i : Nat) : Prop where
  ti : IsPair h TI (.ref i1) (.ref i2)
  tu : ∃ a b, IsPair h TO a b
  h1 : h.IsListIter i1 l1 i
  h2 : h.IsListIter i2 l2 i
  z : IsZip h z TI TO .none ∨ ∃ T b, IsZp h z TI TO (rawInt ((T : Nat) : Int)) b
section
variable {prog : Program} {w : World} {A : Around} {E : Value → Shared → Prop} {s : Shared} {z TI TO T i1 i2 l1 l2 e : Addr} {xs ys : Array Value} {i : Nat} {x y : Value}
theorem ask_alive {a : Addr} {Q : Option Obj → Shared → Prop} (h : Q (s.heap.get? a) s) : wpAny (model prog w) A (loadIfAlive a) Q E s := fun _ _ _ => h
/-- its last pair is gone: the zip's own tuple is filled again -/
theorem zp_free {b : Bool} {Q : Bool → Shared → Prop} (hz : IsZp s.heap z TI TO (rawInt ((T : Nat) : Int)) b) (hT : s.heap.get? T = none) (h : Q true s) : wpAny (model prog w) A (Builtin.SmallTypes.ownedTupleIsFree (.ref z)) Q E s := by
  unfold Builtin.SmallTypes.ownedTupleIsFree
  refine wpAny_bind (wpAny_field hz rfl (x := rawInt ((T : Nat) : Int)) rfl ?_)
  show wpAny _ _ (loadIfAlive ((T : Int).toNat) >>= _) _ _ _
  rw [Int.toNat_natCast]
  refine wpAny_bind (ask_alive ?_)
  rw [hT]
  exact wpAny_pure h
theorem zp_item {b : Bool} {p q : Value} {Q : Value → Shared → Prop} (D : ZipApart z TI TO i1 i2 l1 l2) (hz : IsZp s.heap z TI TO (rawInt ((T : Nat) : Int)) b) (hT : s.heap.get? T = none) (hTI : IsPair s.heap TI (.ref i1) (.ref i2)) (hTO : IsPair s.heap TO p q)
    (h1 : s.heap.IsListIter i1 l1 i) (h2 : s.heap.IsListIter i2 l2 i) (p1 : s.heap.IsList l1 xs) (p2 : s.heap.IsList l2 ys) (hx : xs[i]? = some x) (hy : ys[i]? = some y)
    (hQ : ∀ h', IsZp h' z TI TO (rawInt ((s.heap.objs.size : Nat) : Int)) false → IsPair h' TO x y → h'.IsListIter i1 l1 (i + 1) → h'.IsListIter i2 l2 (i + 1) → IsPair h' s.heap.objs.size x y → h'.objs.size = s.heap.objs.size + 1 →
      (∀ c o, Off z TO i1 i2 c → s.heap.get? c = some o → h'.get? c = some o) → Q (.ref s.heap.objs.size) { s with heap := h' }) :
    wpAny (model prog w) A (Builtin.«zip.__next__» ⟨[.ref z], []⟩) (fun fin s' => ∃ v, fin = .done (.ret v) ∧ Q v s') E s := by
  show wpAny _ _ (field (.ref z) 2 >>= _) _ _ _
  refine wpAny_bind (wpAny_field hz rfl (x := .bool false) rfl ?_)
  show wpAny _ _ (field (.ref z) 3 >>= _) _ _ _
  refine wpAny_bind (wpAny_field hz rfl (x := .ref TI) rfl (wpAny_bind (wpAny_seqItems hTI rfl ?_)))
  show wpAny _ _ (Builtin.SmallTypes.ownedTupleIsFree (.ref z) >>= _) _ _ _
  refine wpAny_bind (zp_free hz hT ?_)
  simp only [if_true]
  refine wpAny_bind (wpAny_rule (wpAny_bind (wpAny_field hz rfl (x := .ref TO) rfl (wpAny_bind (wpAny_setField_rec hz (by simp) fun g1 z1 b1 => ?_)))))
  have z1' : IsZp g1 z TI TO .ellipsis b := z1
  refine wpAny_bind ?_
  simp only [List.zipIdx_cons, List.zipIdx_nil, List.forIn_cons, List.forIn_nil]
  refine wpAny_bind (wpAny_bind (wpAny_onRaise ?_))
  show wpAny _ _ (Builtin.SmallTypes.nextOf (.ref i1) >>= _) _ _ _
  refine wpAny_bind (wpAny_nextOf_list_item (h1.extBut b1.extBut D.i1z) (p1.extBut b1.extBut D.l1z) hx fun g2 j1 b2 => wpAny_pure ?_)
  have t2 : IsPair g2 TO p q := b2.extBut _ _ D.TOi1 (b1.extBut _ _ D.TOz hTO)
  refine wpAny_bind (wpAny_seqItems t2 rfl (wpAny_bind (wpAny_updateSeq_pair t2 fun g3 t3 b3 => ?_)))
  have t3' : IsPair g3 TO x q := t3
  refine wpAny_bind (wpAny_letGo (wpAny_pure (wpAny_bind (wpAny_bind (wpAny_onRaise ?_)))))
  show wpAny _ _ (Builtin.SmallTypes.nextOf (.ref i2) >>= _) _ _ _
  have q3 : g3.IsListIter i2 l2 i := ((h2.extBut b1.extBut D.i2z).extBut b2.extBut D.i12.symm).extBut b3.extBut D.TOi2.symm
  have r3 : g3.IsList l2 ys := ((p2.extBut b1.extBut D.l2z).extBut b2.extBut D.l2i1).extBut b3.extBut D.l2TO
  refine wpAny_bind (wpAny_nextOf_list_item q3 r3 hy fun g4 j2 b4 => wpAny_pure ?_)
  have t4 : IsPair g4 TO x q := b4.extBut _ _ D.TOi2 t3'
  refine wpAny_bind (wpAny_seqItems t4 rfl (wpAny_bind (wpAny_updateSeq_pair t4 fun g5 t5 b5 => ?_)))
  have t5' : IsPair g5 TO x y := t5
  refine wpAny_bind (wpAny_letGo (wpAny_pure (wpAny_pure (wpAny_bind (wpAny_seqItems t5' rfl (wpAny_bind (wpAny_newTuple ?_)))))))
  have sz : g5.objs.size = s.heap.objs.size := by rw [b5.1, b4.1, b3.1, b2.1, b1.1]
  have z5 : IsZp g5 z TI TO .ellipsis b := b5.extBut _ _ D.TOz.symm (b4.extBut _ _ D.i2z.symm (b3.extBut _ _ D.TOz.symm (b2.extBut _ _ D.i1z.symm z1')))
  have k5 : ∀ c o, Off z TO i1 i2 c → s.heap.get? c = some o → g5.get? c = some o := fun c o hc q =>
    b5.extBut _ _ hc.2.1 (b4.extBut _ _ hc.2.2.2 (b3.extBut _ _ hc.2.1 (b2.extBut _ _ hc.2.2.1 (b1.extBut _ _ hc.1 q))))
  have u1 : g5.IsListIter i1 l1 (i + 1) := ((j1.extBut b3.extBut D.TOi1.symm).extBut b4.extBut D.i12).extBut b5.extBut D.TOi1.symm
  have u2 : g5.IsListIter i2 l2 (i + 1) := j2.extBut b5.extBut D.TOi2.symm
  have zl : z < g5.objs.size := Heap.lt_size z5
  show wpAny _ _ (Builtin.SmallTypes.ownedTupleHandOut (.ref z) (.ref g5.objs.size) >>= _) _ _ _
  refine wpAny_bind ?_
  unfold Builtin.SmallTypes.ownedTupleHandOut
  have z6 : IsZp (g5.push { cls := .type "tuple", data := .seq #[x, y] }) z TI TO .ellipsis b := Heap.get?_push_of_some _ z5
  refine wpAny_bind (wpAny_setField_rec z6 (by simp) fun g7 z7 b7 => ?_)
  have z7' : IsZp g7 z TI TO (rawInt ((g5.objs.size : Nat) : Int)) b := z7
  refine wpAny_setField_rec z7' (by simp) fun g8 z8 b8 => ?_
  have z8' : IsZp g8 z TI TO (rawInt ((g5.objs.size : Nat) : Int)) false := z8
  have up : ∀ c o, c ≠ z → g5.get? c = some o → g8.get? c = some o := fun c o hc q => b8.extBut _ _ hc (b7.extBut _ _ hc (Heap.get?_push_of_some _ q))
  have tn : IsPair g8 g5.objs.size x y := b8.extBut _ _ (Nat.ne_of_gt zl) (b7.extBut _ _ (Nat.ne_of_gt zl) (Heap.get?_push_size _ rfl))
  have s8 : g8.objs.size = g5.objs.size + 1 := by rw [b8.1, b7.1, Heap.size_push]
  rw [sz] at z8' tn s8
  refine wpAny_pure ⟨_, rfl, ?_⟩
  show Q (.ref g5.objs.size) _
  rw [sz]
  exact hQ g8 z8' (up _ _ D.TOz t5') (u1.at fun o q => up _ o D.i1z q) (u2.at fun o q => up _ o D.i2z q) tn s8 fun c o hc q => up c o hc.1 (k5 c o hc q)
theorem zp_end {b : Bool} {p q : Value} {Q : Fin → Shared → Prop} (hh : A.handled = none) (D : ZipApart z TI TO i1 i2 l1 l2) (hz : IsZp s.heap z TI TO (rawInt ((T : Nat) : Int)) b) (hT : s.heap.get? T = none) (hTI : IsPair s.heap TI (.ref i1) (.ref i2)) (hTO : IsPair s.heap TO p q)
    (h1 : s.heap.IsListIter i1 l1 i) (h2 : s.heap.IsListIter i2 l2 i) (p1 : s.heap.IsList l1 xs) (p2 : s.heap.IsList l2 ys) (hend : xs[i]? = none ∨ ys[i]? = none)
    (hE : ∀ h' e, (∀ c o, Off z TO i1 i2 c → s.heap.get? c = some o → h'.get? c = some o) → (∃ o, h'.get? e = some o ∧ o.cls = .type "StopIteration") → E (.ref e) { s with heap := h' }) :
    wpAny (model prog w) A (Builtin.«zip.__next__» ⟨[.ref z], []⟩) Q E s := by
  show wpAny _ _ (field (.ref z) 2 >>= _) _ _ _
  refine wpAny_bind (wpAny_field hz rfl (x := .bool false) rfl ?_)
  show wpAny _ _ (field (.ref z) 3 >>= _) _ _ _
  refine wpAny_bind (wpAny_field hz rfl (x := .ref TI) rfl (wpAny_bind (wpAny_seqItems hTI rfl ?_)))
  show wpAny _ _ (Builtin.SmallTypes.ownedTupleIsFree (.ref z) >>= _) _ _ _
  refine wpAny_bind (zp_free hz hT ?_)
  simp only [if_true]
  refine wpAny_bind (wpAny_rule (wpAny_bind (wpAny_field hz rfl (x := .ref TO) rfl (wpAny_bind (wpAny_setField_rec hz (by simp) fun g1 z1 b1 => ?_)))))
  have z1' : IsZp g1 z TI TO .ellipsis b := z1
  refine wpAny_bind ?_
  simp only [List.zipIdx_cons, List.zipIdx_nil, List.forIn_cons, List.forIn_nil]
  refine wpAny_bind (wpAny_bind (wpAny_onRaise ?_))
  show wpAny _ _ (Builtin.SmallTypes.nextOf (.ref i1) >>= _) _ _ _
  have stop : ∀ {g : Heap} {c : Addr} {o : Obj}, g.get? c = some o → o.cls = .type "StopIteration" → IsZp g z TI TO .ellipsis b → c ≠ z := fun {g c o} e1 e2 e3 e4 => by
    rw [e4, e3] at e1
    cases e1
    simp at e2
  cases hx : xs[i]? with
  | none =>
    refine wpAny_bind (wpAny_nextOf_list_end hh (h1.extBut b1.extBut D.i1z) (p1.extBut b1.extBut D.l1z) hx fun g2 c b2 he => ?_)
    obtain ⟨oe, e1, e2⟩ := he
    have z2 : IsZp g2 z TI TO .ellipsis b := b2 _ _ D.i1z.symm z1'
    exact wpAny_setField_rec z2 (by simp) fun g3 _ b3 => hE g3 c (fun c o hc q => b3.extBut _ _ hc.1 (b2 _ _ hc.2.2.1 (b1.extBut _ _ hc.1 q))) ⟨oe, b3.extBut _ _ (stop e1 e2 z2) e1, e2⟩
  | some x =>
    have hy : ys[i]? = none := by
      rcases hend with h | h
      · rw [hx] at h; cases h
      · exact h
    refine wpAny_bind (wpAny_nextOf_list_item (h1.extBut b1.extBut D.i1z) (p1.extBut b1.extBut D.l1z) hx fun g2 j1 b2 => wpAny_pure ?_)
    have t2 : IsPair g2 TO p q := b2.extBut _ _ D.TOi1 (b1.extBut _ _ D.TOz hTO)
    refine wpAny_bind (wpAny_seqItems t2 rfl (wpAny_bind (wpAny_updateSeq_pair t2 fun g3 t3 b3 => ?_)))
    refine wpAny_bind (wpAny_letGo (wpAny_pure (wpAny_bind (wpAny_bind (wpAny_onRaise ?_)))))
    show wpAny _ _ (Builtin.SmallTypes.nextOf (.ref i2) >>= _) _ _ _
    have q3 : g3.IsListIter i2 l2 i := ((h2.extBut b1.extBut D.i2z).extBut b2.extBut D.i12.symm).extBut b3.extBut D.TOi2.symm
    have r3 : g3.IsList l2 ys := ((p2.extBut b1.extBut D.l2z).extBut b2.extBut D.l2i1).extBut b3.extBut D.l2TO
    refine wpAny_bind (wpAny_nextOf_list_end hh q3 r3 hy fun g4 c b4 he => ?_)
    obtain ⟨oe, e1, e2⟩ := he
    have z4 : IsZp g4 z TI TO .ellipsis b := b4 _ _ D.i2z.symm (b3.extBut _ _ D.TOz.symm (b2.extBut _ _ D.i1z.symm z1'))
    exact wpAny_setField_rec z4 (by simp) fun g5 _ b5 => hE g5 c (fun c o hc q => b5.extBut _ _ hc.1 (b4 _ _ hc.2.2.2 (b3.extBut _ _ hc.2.1 (b2.extBut _ _ hc.2.2.1 (b1.extBut _ _ hc.1 q))))) ⟨oe, b5.extBut _ _ (stop e1 e2 z4) e1, e2⟩
theorem ZO.type (st : ZO s.heap z TI TO i1 i2 l1 l2 i) : s.TypeIs (.ref z) "zip" := by
  obtain ⟨_, _, _, _, hz⟩ := st
  rcases hz with hz | ⟨T, b, hz⟩
  · exact ⟨_, hz, rfl⟩
  · exact ⟨_, hz, rfl⟩
/-- one draw -/
theorem zo_draw {Q : Value → Shared → Prop} (D : ZipApart z TI TO i1 i2 l1 l2) (st : ZO s.heap z TI TO i1 i2 l1 l2 i) (p1 : s.heap.IsList l1 xs) (p2 : s.heap.IsList l2 ys) (hx : xs[i]? = some x) (hy : ys[i]? = some y)
    (hQ : ∀ h', ZO h' z TI TO i1 i2 l1 l2 (i + 1) → IsPair h' s.heap.objs.size x y → h'.objs.size = s.heap.objs.size + 1 → (∀ c o, Off z TO i1 i2 c → s.heap.get? c = some o → h'.get? c = some o) → Q (.ref s.heap.objs.size) { s with heap := h' }) :
    wpAny (model prog w) A (Builtin.SmallTypes.nextOf (.ref z)) Q E s := by
  have hTy := st.type
  obtain ⟨ti, ⟨p, q, tu⟩, h1, h2, hz⟩ := st
  have offI : Off z TO i1 i2 TI := ⟨D.TIz, D.TITO, D.TIi1, D.TIi2⟩
  unfold Builtin.SmallTypes.nextOf
  refine wpAny_bind (wpAny_callSpecial?_slot (name := Str.ofString "__next__") hTy PySem.F.slot_zip_next (wpAny_call_entry PySem.F.slot_zip_next hTy PySem.F.entry_zip_next ?_ (PySem.F.args_zip_next_1 _)))
  rcases hz with hz | ⟨T, b, hz⟩
  · exact zip_next_item D hz ti tu h1 h2 p1 p2 hx hy fun h' a1 a2 a3 a4 a5 a6 hk => wpAny_pure (hQ h' ⟨hk _ _ D.TIz D.TITO D.TIi1 D.TIi2 ti, ⟨_, _, a2⟩, a3, a4, .inr ⟨_, _, a1⟩⟩ a5 a6 fun c o hc e => hk c o hc.1 hc.2.1 hc.2.2.1 hc.2.2.2 e)
  · cases hT : s.heap.get? T with
    | none => exact zp_item D hz hT ti tu h1 h2 p1 p2 hx hy fun h' a1 a2 a3 a4 a5 a6 hk => wpAny_pure (hQ h' ⟨hk _ _ offI ti, ⟨_, _, a2⟩, a3, a4, .inr ⟨_, _, a1⟩⟩ a5 a6 hk)
    | some oT =>
      exact zip_next_item_held D hz hT ti h1 h2 p1 p2 hx hy fun h' a1 a3 a4 a5 a6 hk => wpAny_pure (hQ h' ⟨hk _ _ D.TIz D.TIi1 D.TIi2 ti, ⟨p, q, hk _ _ D.TOz D.TOi1 D.TOi2 tu⟩, a3, a4, .inr ⟨_, _, a1⟩⟩ a5 a6 fun c o hc e => hk c o hc.1 hc.2.2.1 hc.2.2.2 e)
theorem zo_stop {Q : Value → Shared → Prop} (hh : A.handled = none) (D : ZipApart z TI TO i1 i2 l1 l2) (st : ZO s.heap z TI TO i1 i2 l1 l2 i) (p1 : s.heap.IsList l1 xs) (p2 : s.heap.IsList l2 ys) (hend : xs[i]? = none ∨ ys[i]? = none)
    (hE : ∀ h' e, (∀ c o, Off z TO i1 i2 c → s.heap.get? c = some o → h'.get? c = some o) → (∃ o, h'.get? e = some o ∧ o.cls = .type "StopIteration") → E (.ref e) { s with heap := h' }) :
    wpAny (model prog w) A (Builtin.SmallTypes.nextOf (.ref z)) Q E s := by
  have hTy := st.type
  obtain ⟨ti, ⟨p, q, tu⟩, h1, h2, hz⟩ := st
  unfold Builtin.SmallTypes.nextOf
  refine wpAny_bind (wpAny_callSpecial?_slot (name := Str.ofString "__next__") hTy PySem.F.slot_zip_next (wpAny_call_entry PySem.F.slot_zip_next hTy PySem.F.entry_zip_next ?_ (PySem.F.args_zip_next_1 _)))
  rcases hz with hz | ⟨T, b, hz⟩
  · exact zip_next_end hh D hz ti tu h1 h2 p1 p2 hend fun h' e hk he => hE h' e (fun c o hc q => hk c o hc.1 hc.2.1 hc.2.2.1 hc.2.2.2 q) he
  · cases hT : s.heap.get? T with
    | none => exact zp_end hh D hz hT ti tu h1 h2 p1 p2 hend hE
    | some oT => exact zip_next_end_held hh D hz hT ti h1 h2 p1 p2 hend fun h' e hk he => hE h' e (fun c o hc q => hk c o hc.1 hc.2.2.1 hc.2.2.2 q) he
end
end Bal
namespace Bal
open PySem PySem.Calls PyProof.Rows PySem.W
section
variable {prog : Program} {w : World} {A : Around} {E : Value → Shared → Prop} {s : Shared} {z TI TO T i1 i2 l1 l2 e : Addr} {xs ys : Array Value} {i : Nat} {x y old : Value} {c : Int}
theorem ZO.keep {h h' : Heap} (st : ZO h z TI TO i1 i2 l1 l2 i) (k : ∀ b o, (b = z ∨ b = TI ∨ b = TO ∨ b = i1 ∨ b = i2) → h.get? b = some o → h'.get? b = some o) : ZO h' z TI TO i1 i2 l1 l2 i := by
  obtain ⟨ti, ⟨p, q, tu⟩, h1, h2, hz⟩ := st
  refine ⟨k _ _ (by simp) ti, ⟨p, q, k _ _ (by simp) tu⟩, h1.at fun o y => k _ o (by simp) y, h2.at fun o y => k _ o (by simp) y, ?_⟩
  rcases hz with hz | ⟨T, b, hz⟩
  · exact .inl (k _ _ (by simp) hz)
  · exact .inr ⟨T, b, k _ _ (by simp) hz⟩
/-- enumerate draws from the zip: the pair at the first new address (heap h1), then the numbered pair at the second one -/
theorem ez_item {Q : Option Value → Shared → Prop} (D : ZipApart z TI TO i1 i2 l1 l2) (he : IsEnum s.heap e z c old) (ne : e ≠ z ∧ e ≠ TI ∧ e ≠ TO ∧ e ≠ i1 ∧ e ≠ i2) (st : ZO s.heap z TI TO i1 i2 l1 l2 i) (p1 : s.heap.IsList l1 xs) (p2 : s.heap.IsList l2 ys) (hx : xs[i]? = some x) (hy : ys[i]? = some y)
    (hQ : ∀ h1 h2, ZO h2 z TI TO i1 i2 l1 l2 (i + 1) → IsPair h1 s.heap.objs.size x y → h1.objs.size = s.heap.objs.size + 1 → (∀ b o, Off z TO i1 i2 b → s.heap.get? b = some o → h1.get? b = some o) →
      IsEnumOut h2 e z (c + 1) (.ref s.heap.objs.size) (s.heap.objs.size + 1) → h2.get? (s.heap.objs.size + 1) = some { cls := .type "tuple", data := .seq #[.int c s.toks, .ref s.heap.objs.size] } → (∀ b o, b ≠ e → h1.get? b = some o → h2.get? b = some o) →
      Q (some (.ref (s.heap.objs.size + 1))) { s with heap := h2, toks := s.toks + 1 }) :
    wpAny (model prog w) A (pyNext (.ref e)) Q E s := by
  have hTy : s.TypeIs (.ref e) "enumerate" := ⟨_, he, rfl⟩
  obtain ⟨nz, nTI, nTO, n1, n2⟩ := ne
  unfold pyNext
  refine wpAny_bind (wpAny_attempt (wpAny_callSpecial?_slot (name := Str.ofString "__next__") hTy PySem.F.slot_enumerate_next (wpAny_call_entry PySem.F.slot_enumerate_next hTy PySem.F.entry_enumerate_next ?_ (PySem.F.args_enumerate_next_1 _))))
  obtain ⟨hp, g, d, tk, os⟩ := s
  show wpAny _ _ (field (.ref e) 2 >>= _) _ _ _
  refine wpAny_bind (wpAny_field he rfl (x := .ref z) rfl ?_)
  refine wpAny_bind (zo_draw D st p1 p2 hx hy fun h1 st1 t1 s1 k1 => ?_)
  dsimp only at t1 s1 k1 ⊢
  have e1 : IsEnum h1 e z c old := k1 _ _ ⟨nz, nTO, n1, n2⟩ he
  have el : e < hp.objs.size := Heap.lt_size he
  show wpAny _ _ (field (.ref e) 3 >>= _) _ _ ⟨h1, g, d, tk, os⟩
  refine wpAny_bind (wpAny_field e1 rfl (x := rawInt c) rfl ?_)
  show wpAny _ _ (field (.ref e) 4 >>= _) _ _ ⟨h1, g, d, tk, os⟩
  refine wpAny_bind (wpAny_field e1 rfl (x := .none) rfl ?_)
  show wpAny _ _ (mkInt c >>= _) _ _ ⟨h1, g, d, tk, os⟩
  refine wpAny_bind (wpAny_mkInt ?_)
  show wpAny _ _ (setField (.ref e) 3 (rawInt (c + 1)) >>= _) _ _ ⟨h1, g, d, tk + 1, os⟩
  refine wpAny_bind (wpAny_setField_rec e1 (by simp) fun g2 e2 b2 => ?_)
  have e2' : IsEnum g2 e z (c + 1) old := e2
  show wpAny _ _ (setField (.ref e) 4 .none >>= _) _ _ ⟨g2, g, d, tk + 1, os⟩
  refine wpAny_bind (wpAny_setField_rec e2' (by simp) fun g3 e3 b3 => ?_)
  have e3' : IsEnum g3 e z (c + 1) old := e3
  show wpAny _ _ (newTuple [.int c tk, .ref hp.objs.size] >>= _) _ _ ⟨g3, g, d, tk + 1, os⟩
  refine wpAny_bind (wpAny_newTuple ?_)
  have sz : g3.objs.size = hp.objs.size + 1 := by rw [b3.1, b2.1, s1]
  have e4 : IsEnum (g3.push { cls := .type "tuple", data := .seq #[.int c tk, .ref hp.objs.size] }) e z (c + 1) old := Heap.get?_push_of_some _ e3'
  have t4 : (g3.push { cls := .type "tuple", data := .seq #[.int c tk, .ref hp.objs.size] }).get? (hp.objs.size + 1) = some { cls := .type "tuple", data := .seq #[.int c tk, .ref hp.objs.size] } := by rw [← sz]; exact Heap.get?_push_size _ rfl
  have k4 : ∀ b o, b ≠ e → h1.get? b = some o → (g3.push { cls := .type "tuple", data := .seq #[.int c tk, .ref hp.objs.size] }).get? b = some o := fun b o hb q => Heap.get?_push_of_some _ (b3.extBut _ _ hb (b2.extBut _ _ hb q))
  generalize (g3.push { cls := .type "tuple", data := .seq #[.int c tk, .ref hp.objs.size] }) = g4 at e4 t4 k4 ⊢
  show wpAny _ _ (Builtin.SmallTypes.ownedTupleIsFree (.ref e) >>= _) _ _ ⟨g4, g, d, tk + 1, os⟩
  rw [sz]
  refine wpAny_bind ?_
  unfold Builtin.SmallTypes.ownedTupleIsFree
  refine wpAny_bind (wpAny_field e4 rfl (x := .none) rfl (wpAny_pure ?_))
  simp only [if_true]
  refine wpAny_bind (wpAny_rule (wpAny_bind (wpAny_field e4 rfl (x := old) rfl (wpAny_bind (wpAny_setField_rec e4 (by simp) fun g5 e5 b5 => ?_)))))
  have e5' : IsEnum g5 e z (c + 1) (.ref hp.objs.size) := e5
  show wpAny _ _ (Builtin.SmallTypes.ownedTupleHandOut (.ref e) (.ref (hp.objs.size + 1)) >>= _) _ _ ⟨g5, g, d, tk + 1, os⟩
  refine wpAny_bind ?_
  unfold Builtin.SmallTypes.ownedTupleHandOut
  refine wpAny_bind (wpAny_setField_rec e5' (by simp) fun g6 e6 b6 => ?_)
  have e6' : IsEnumOut g6 e z (c + 1) (.ref hp.objs.size) (hp.objs.size + 1) := e6
  refine wpAny_setField_rec e6' (by simp) fun g7 e7 b7 => ?_
  have e7' : IsEnumOut g7 e z (c + 1) (.ref hp.objs.size) (hp.objs.size + 1) := e7
  have k7 : ∀ b o, b ≠ e → h1.get? b = some o → g7.get? b = some o := fun b o hb q => b7.extBut _ _ hb (b6.extBut _ _ hb (b5.extBut _ _ hb (k4 b o hb q)))
  have ne1 : hp.objs.size + 1 ≠ e := Nat.ne_of_gt (Nat.lt_succ_of_lt el)
  refine wpAny_bind (wpAny_letGo (wpAny_pure ⟨_, rfl, wpAny_pure (hQ h1 g7 (st1.keep fun b o hb q => k7 b o ?_ q) t1 s1 k1 e7' (b7.extBut _ _ ne1 (b6.extBut _ _ ne1 (b5.extBut _ _ ne1 t4))) k7)⟩))
  rcases hb with h | h | h | h | h
  · rw [h]; exact Ne.symm nz
  · rw [h]; exact Ne.symm nTI
  · rw [h]; exact Ne.symm nTO
  · rw [h]; exact Ne.symm n1
  · rw [h]; exact Ne.symm n2
theorem ez_end {Q : Option Value → Shared → Prop} (hh : A.handled = none) (D : ZipApart z TI TO i1 i2 l1 l2) (he : IsEnum s.heap e z c old) (st : ZO s.heap z TI TO i1 i2 l1 l2 i) (p1 : s.heap.IsList l1 xs) (p2 : s.heap.IsList l2 ys) (hend : xs[i]? = none ∨ ys[i]? = none)
    (hQ : ∀ h', (∀ b o, Off z TO i1 i2 b → s.heap.get? b = some o → h'.get? b = some o) → Q none { s with heap := h' }) : wpAny (model prog w) A (pyNext (.ref e)) Q E s := by
  have hTy : s.TypeIs (.ref e) "enumerate" := ⟨_, he, rfl⟩
  unfold pyNext
  refine wpAny_bind (wpAny_attempt (wpAny_callSpecial?_slot (name := Str.ofString "__next__") hTy PySem.F.slot_enumerate_next (wpAny_call_entry PySem.F.slot_enumerate_next hTy PySem.F.entry_enumerate_next ?_ (PySem.F.args_enumerate_next_1 _))))
  show wpAny _ _ (field (.ref e) 2 >>= _) _ _ _
  refine wpAny_bind (wpAny_field he rfl (x := .ref z) rfl ?_)
  refine wpAny_bind (zo_stop (by exact hh) D st p1 p2 hend fun h' c hk he' => ?_)
  obtain ⟨o, ho, hc⟩ := he'
  refine wpAny_bind (wpAny_isInstance (T := "StopIteration") (b := true) ⟨o, ho, hc⟩ isSubtype_stop ?_)
  exact wpAny_pure (hQ _ hk)
/-- enumerate(z), z a new zip -/
theorem meets_enumerate_newZ (z TI TO : Addr) :
    Meets (Builtin.«enumerate.__new__» ⟨[.type "enumerate", .ref z], []⟩) (fun _ R s => IsZip s.heap z TI TO .none ∧
      R (.ok (.ret (.ref s.heap.objs.size))) { s with heap := s.heap.push { cls := .type "enumerate", data := .fields #[.none, .bool false, .ref z, rawInt 0, .none, .none] } }) :=
  .of_wp fun prog w A R s h => by
    obtain ⟨hp, g, d, tk, os⟩ := s
    obtain ⟨hz, h⟩ := h
    have hsub := sub_enumerate
    wp_walk using AutoSeq1.wpAny_loadPart' hz
    refine wpAny_stack_any fun st => wpAny_pure ?_
    split
    · rename_i c _ _ _ _ _
      cases (c == Value.type "enumerate")
      · wp_walk using AutoSeq1.wpAny_loadPart' hz, wpAny_pyIter_zip hz
        exact ⟨_, rfl, h⟩
      · wp_walk using AutoSeq1.wpAny_loadPart' hz, wpAny_pyIter_zip hz
        exact ⟨_, rfl, h⟩
    · wp_walk using AutoSeq1.wpAny_loadPart' hz, wpAny_pyIter_zip hz
      exact ⟨_, rfl, h⟩
theorem call_enumerate_zip {Q : Value → Shared → Prop} (hz : IsZip s.heap z TI TO .none)
    (h : ∀ h', IsEnum h' s.heap.objs.size z 0 .none → h'.objs.size = s.heap.objs.size + 1 → (∀ b o, s.heap.get? b = some o → h'.get? b = some o) → Q (.ref s.heap.objs.size) { s with heap := h' }) :
    wpAny (model prog w) A (call (.type "enumerate") [.ref z]) Q E s := by
  refine callType_new PySem.F.called_enumerate (by decide) (PySem.F.typeCall_enumerate_1 _) (PySem.F.newCall_enumerate_1 _) (fun obj => PySem.F.args_object_init_2 obj _) PySem.F.entry_enumerate_new (meets_enumerate_newZ z TI TO) ⟨hz, ?_⟩
  have he : IsEnum (s.heap.push { cls := .type "enumerate", data := .fields #[.none, .bool false, .ref z, rawInt 0, .none, .none] }) s.heap.objs.size z 0 .none := Heap.get?_push_size _ rfl
  exact ⟨⟨_, he, rfl⟩, h _ he (Heap.size_push ..) fun b o x => Heap.get?_push_of_some _ x⟩
end
end Bal
namespace Bal
open PySem PySem.Spec PyProof.Rows L2
/-- enumerate(zip(a, b)): each pair new, in a new numbered pair -/
def Itez (K : PySem.W.Frag) (a b : Addr) : It :=
  ⟨fun i H => ∃ (xs ys : List V) (x y : V), SqL K H a xs ∧ SqL K H b ys ∧ xs[i]? = some x ∧ ys[i]? = some y,
    fun i H v H' => ∃ T U x y, v = .ref U ∧ H T = none ∧ H U = none ∧ U ≠ T ∧ H' = upd (upd H T (.tup [x, y])) U (.tup [.int (i : Nat), .ref T]) ∧ (∀ xs, SqL K H a xs → xs[i]? = some x) ∧ ∀ ys, SqL K H b ys → ys[i]? = some y,
    fun i H => ∃ xs ys : List V, SqL K H a xs ∧ SqL K H b ys ∧ (xs.length ≤ i ∨ ys.length ≤ i)⟩
theorem turn_ez {P : Program} {w : World} {K : PySem.W.Frag} {elts : List Expr} {kk : Nat} {tpos : Pos} {a b e z TI TO i1 i2 : Addr} (D : ZipApart z TI TO i1 i2 a b) (ne : e ≠ z ∧ e ≠ TI ∧ e ≠ TO ∧ e ≠ i1 ∧ e ≠ i2) :
    Turn P w K (.Tuple elts kk tpos) (Itez K a b) [e, z, TI, TO, i1, i2] e (fun i h => (∃ old, IsEnum h e z ((i : Nat) : Int) old) ∧ ZO h z TI TO i1 i2 a b i) where
  mem := by simp
  obj := fun i h st c hc => by
    obtain ⟨⟨old, he⟩, hTI, ⟨x, y, hTO⟩, ⟨o1, e1, _, d1⟩, ⟨o2, e2, _, d2⟩, hz⟩ := st
    have e' : c = e ∨ c = z ∨ c = TI ∨ c = TO ∨ c = i1 ∨ c = i2 := by simpa using hc
    rcases e' with q | q | q | q | q | q
    · rw [q]; exact ⟨_, he, fun v q => nomatch q⟩
    · rw [q]
      rcases hz with hz | ⟨T, b, hz⟩
      · exact ⟨_, hz, fun v q => nomatch q⟩
      · exact ⟨_, hz, fun v q => nomatch q⟩
    · rw [q]; exact ⟨_, hTI, fun v q => nomatch q⟩
    · rw [q]; exact ⟨_, hTO, fun v q => nomatch q⟩
    · rw [q]; exact ⟨o1, e1, fun v q => by rw [d1] at q; cases q⟩
    · rw [q]; exact ⟨o2, e2, fun v q => by rw [d2] at q; cases q⟩
  keep := fun i h h' st k => by
    obtain ⟨⟨old, he⟩, st⟩ := st
    refine ⟨⟨old, k e (by simp) _ he⟩, st.keep fun b o hb q => k b ?_ o q⟩
    rcases hb with h | h | h | h | h <;> rw [h] <;> simp
  item := by
    intro X hP hw hK hc i pins s σ H E I hf st hg
    subst hP hw hK
    obtain ⟨⟨old, he⟩, st⟩ := st
    obtain ⟨xs, ys, x, y, hqx, hqy, hx, hy⟩ := hg
    obtain ⟨its, rv, p, _⟩ := I.list hqx
    obtain ⟨its2, rv2, p2, _⟩ := I.list hqy
    obtain ⟨u, hu, ru⟩ := rv.get hx
    obtain ⟨u2, hu2, ru2⟩ := rv2.get hy
    have lts : ∀ c ∈ [e, z, TI, TO, i1, i2], c < s.heap.objs.size := fun c hc => by
      obtain ⟨hTI, ⟨a', b', hTO⟩, ⟨o1, e1, _⟩, ⟨o2, e2, _⟩, hz⟩ := st
      have e' : c = e ∨ c = z ∨ c = TI ∨ c = TO ∨ c = i1 ∨ c = i2 := by simpa using hc
      rcases e' with q | q | q | q | q | q
      · rw [q]; exact Heap.lt_size he
      · rw [q]
        rcases hz with hz | ⟨T, b, hz⟩
        · exact Heap.lt_size hz
        · exact Heap.lt_size hz
      · rw [q]; exact Heap.lt_size hTI
      · rw [q]; exact Heap.lt_size hTO
      · rw [q]; exact Heap.lt_size e1
      · rw [q]; exact Heap.lt_size e2
    have hel : e < s.heap.objs.size := lts e (by simp)
    refine ez_item D he ne st p.isList p2.isList (x := u) (y := u2) (by simpa using hu) (by simpa using hu2) fun h1 h2 st2 t1 s1 k1 eo t2 k2 => ?_
    refine ⟨_, rfl, wpAny_letOwnedTupleGo_enum (s := { s with heap := h2, toks := s.toks + 1 }) eo fun h3 e3 b3 => ?_⟩
    have new1 : ObjOk X.prog X.w (upd H s.heap.objs.size (.tup [x, y])) h1 s.heap.objs.size (.tup [x, y]) :=
      ⟨by show 2 ≤ sizeLine; decide, [u, u2], .cons ru (.cons ru2 .nil), ⟨_, t1, rfl, _, rfl⟩⟩
    have I1 : Inv X pins σ (upd H s.heap.objs.size (.tup [x, y])) { s with heap := h1 } :=
      I.turnedNew (t' := s.toks) (ch := [e, z, TI, TO, i1, i2]) (fun c o hb q => k1 c o ⟨fun q' => hb (by simp [q']), fun q' => hb (by simp [q']), fun q' => hb (by simp [q']), fun q' => hb (by simp [q'])⟩ q) hf (Nat.le_refl _) new1
    have hf1 : ∀ c ∈ [e, z, TI, TO, i1, i2], FpOk X pins (upd H s.heap.objs.size (.tup [x, y])) c := fun c hc => by
      obtain ⟨f0, f1⟩ := hf c hc
      exact ⟨by rw [upd_ne (Nat.ne_of_lt (lts c hc))]; exact f0, f1⟩
    have t3 : h3.get? (s.heap.objs.size + 1) = some { cls := .type "tuple", data := .seq #[.int (i : Nat) s.toks, .ref s.heap.objs.size] } := (b3.2 _ (Nat.ne_of_gt (Nat.lt_succ_of_lt hel))).trans t2
    have new2 : ObjOk X.prog X.w (upd (upd H s.heap.objs.size (.tup [x, y])) (s.heap.objs.size + 1) (.tup [.int (i : Nat), .ref s.heap.objs.size])) h3 (s.heap.objs.size + 1) (.tup [.int (i : Nat), .ref s.heap.objs.size]) :=
      ⟨by show 2 ≤ sizeLine; decide, [.int i s.toks, .ref s.heap.objs.size], .cons ⟨_, rfl⟩ (.cons rfl .nil), ⟨_, t3, rfl, _, rfl⟩⟩
    have I2 : Inv X pins σ (upd (upd H s.heap.objs.size (.tup [x, y])) (s.heap.objs.size + 1) (.tup [.int (i : Nat), .ref s.heap.objs.size])) { s with heap := h3, toks := s.toks + 1 } :=
      I1.turnedNew (ch := [e, z, TI, TO, i1, i2]) (fun c o hb q => (b3.2 c (fun q' => hb (by simp [q']))).trans (k2 c o (fun q' => hb (by simp [q'])) q)) hf1 (by show h1.objs.size ≤ _; rw [s1]; exact Nat.le_refl _) new2
    have hn1 : H (s.heap.objs.size + 1) = none := I.hok.fresh (Nat.le_succ _)
    refine ⟨.ref (s.heap.objs.size + 1), _, I2, rfl, ⟨s.heap.objs.size, s.heap.objs.size + 1, x, y, rfl, I.hok.fresh (Nat.le_refl _), hn1, Nat.succ_ne_self _, rfl, fun l hl => by rw [I.list_inj hl hqx]; exact hx, fun l hl => by rw [I.list_inj hl hqy]; exact hy⟩, ⟨⟨.ref s.heap.objs.size, ?_⟩, st2.keep fun c o hc q => (b3.2 c ?_).trans q⟩, fun c hcm => ?_⟩
    · have e1 : ((i + 1 : Nat) : Int) = (i : Int) + 1 := by omega
      rw [e1]; exact e3
    · obtain ⟨nz, nTI, nTO, n1, n2⟩ := ne
      rcases hc with h | h | h | h | h <;> rw [h]
      · exact Ne.symm nz
      · exact Ne.symm nTI
      · exact Ne.symm nTO
      · exact Ne.symm n1
      · exact Ne.symm n2
    · rw [upd_ne (Nat.ne_of_lt (Nat.lt_succ_of_lt (lts c hcm))), upd_ne (Nat.ne_of_lt (lts c hcm))]
      exact (hf c hcm).1
  done := by
    intro X hP hw hK hc i pins s σ H E I hf st hg
    subst hP hw hK
    obtain ⟨⟨old, he⟩, st⟩ := st
    obtain ⟨xs, ys, hqx, hqy, hend⟩ := hg
    obtain ⟨its, rv, p, _⟩ := I.list hqx
    obtain ⟨its2, rv2, p2, _⟩ := I.list hqy
    have l1 := rv.length
    have l2 := rv2.length
    have hn : its.toArray[i]? = none ∨ its2.toArray[i]? = none := by
      rcases hend with q | q
      · exact .inl (by simp; omega)
      · exact .inr (by simp; omega)
    exact ez_end (I.ok.hd hc) D he st p.isList p2.isList hn fun h' hk => ⟨rfl, I.turnedL (t' := s.toks) (ch := [e, z, TI, TO, i1, i2]) (fun c o hb q => hk c o ⟨fun q' => hb (by simp [q']), fun q' => hb (by simp [q']), fun q' => hb (by simp [q']), fun q' => hb (by simp [q'])⟩ q) hf⟩
  self := fun A i s Q E st h => let ⟨⟨_, he⟩, _⟩ := st; wpAny_pyIter_enum he h
def iEZ (K : PySem.W.Frag) (ta : TA) : TI := fun σ H R => ta σ H fun vs H1 => ∃ a b xs ys, vs = [.ref a, .ref b] ∧ SqL K H1 a xs ∧ SqL K H1 b ys ∧ R (Itez K a b) H1
theorem pi_ez {X : Cx} {e e2 : Expr} {ta : TA} {p p2 pos pos2 tpos : Pos} {elts : List Expr} {kk : Nat} (hge : Gl X "enumerate") (hme : X.mg "enumerate" = none) (hg : Gl X "zip") (hm : X.mg "zip" = none) (ha : PA X [e, e2] ta)
    (hs : starEach [e, e2] X.env = (false, eval e X.env) :: starEach [e2] X.env := by rfl) (hpl : (backTo pos2 (starEach [e2] X.env)).any (·.1) = false := by rfl)
    (hs1 : starEach [.Call (.Name "zip" p2) [e, e2] [] pos2] X.env = (false, eval (.Call (.Name "zip" p2) [e, e2] [] pos2) X.env) :: starEach [] X.env := by rfl) :
    PI X (.Tuple elts kk tpos) (.Call (.Name "enumerate" p) [.Call (.Name "zip" p2) [e, e2] [] pos2] [] pos) (iEZ X.K ta) := by
  refine ⟨fun pins s σ H R I h => ?_⟩
  refine Call_ (ld_blt I hge hme boot_enumerate (PyProof.Rows.callWith_type1 ?_ hs1 rfl))
  rw [hs1]
  show wpAny _ _ (spliced ((false, eval (.Call (.Name "zip" p2) [e, e2] [] pos2) X.env) :: backTo pos (starEach [] X.env))) _ _ s
  refine Calls.spliced_cons ?_
  refine Call_ (ld_blt I hg hm PyProof.Rows.boot_zip (PyProof.Rows.callWith_type1 (thn (ha.run pos2 pins s σ H _ I h) fun us s1 ⟨vs, H1, I1, r1, q1⟩ => ?_) hs hpl))
  obtain ⟨a, b, xs, ys, ex, hqx, hqy, q⟩ := q1
  subst ex
  cases r1 with
  | cons r rr =>
    cases rr with
    | cons r' rr =>
      cases rr
      cases r
      cases r'
      obtain ⟨its, rv, p1, _⟩ := I1.list hqx
      obtain ⟨its2, rv2, p2, _⟩ := I1.list hqy
      have la : a < s1.heap.objs.size := p1.lt
      have lb : b < s1.heap.objs.size := p2.lt
      refine call_zip_2 p1.isList p2.isList fun h' hz hTI hTO h1 h2 hsz hk => ?_
      refine Calls.spliced_nil ?_
      refine call_enumerate_zip (s := { s1 with heap := h' }) hz fun h2' he hsz2 hk2 => wpAny_pyIter_enum he ?_
      have I2 : Inv X pins σ H1 { s1 with heap := h2' } := I1.kept (t' := s1.toks) fun c o y => hk2 c o (hk c o y)
      have eN : h'.objs.size = s1.heap.objs.size + 5 := hsz
      dsimp only at he ⊢
      rw [eN] at he ⊢
      refine ⟨s1.heap.objs.size + 5, [s1.heap.objs.size + 5, s1.heap.objs.size + 4, s1.heap.objs.size + 2, s1.heap.objs.size + 3, s1.heap.objs.size, s1.heap.objs.size + 1], _, _, H1, rfl, I2,
        turn_ez (PySem.W.ktu_apart s1.heap.objs.size a b la lb) ⟨by simp, by simp, by simp, by simp, by simp⟩, ⟨⟨.none, he⟩, hk2 _ _ hTI, ⟨_, _, hk2 _ _ hTO⟩, h1.at fun o y => hk2 _ o y, h2.at fun o y => hk2 _ o y, .inl (hk2 _ _ hz)⟩, fun c hcm => ?_, q⟩
      have hle : s1.heap.objs.size ≤ c := by
        have e' : c = s1.heap.objs.size + 5 ∨ c = s1.heap.objs.size + 4 ∨ c = s1.heap.objs.size + 2 ∨ c = s1.heap.objs.size + 3 ∨ c = s1.heap.objs.size ∨ c = s1.heap.objs.size + 1 := by simpa using hcm
        rcases e' with z | z | z | z | z | z <;> rw [z] <;> first | exact Nat.le_add_right _ _ | exact Nat.le_refl _
      exact I1.fpOk hle (I1.hok.fresh hle)
/-- a new pair of the i-th of xs and of ys, in a new pair behind i -/
def YEz (xs ys : List V) : Nat → Hp → V → Hp → Prop := fun i H v H' => ∃ T U x y, v = .ref U ∧ H T = none ∧ H U = none ∧ U ≠ T ∧ H' = upd (upd H T (.tup [x, y])) U (.tup [.int (i : Nat), .ref T]) ∧ xs[i]? = some x ∧ ys[i]? = some y
theorem walk_ez {K : PySem.W.Frag} {a b : Addr} {xs ys : List V} {n : Nat} (hn : n = min xs.length ys.length) : Walk (Itez K a b) n (fun H => SqL K H a xs ∧ SqL K H b ys) (YEz xs ys) := by
  subst hn
  refine ⟨fun i _ hi q => ?_, fun _ q => ⟨xs, ys, q.1, q.2, by omega⟩, fun i H v H' _ q y => ?_⟩
  · have h1 : i < xs.length := by omega
    have h2 : i < ys.length := by omega
    exact ⟨xs, ys, xs[i], ys[i], q.1, q.2, by simp [h1], by simp [h2]⟩
  · obtain ⟨T, U, x, z, h1, h2, h3, h4, h5, h6, h7⟩ := y
    exact ⟨T, U, x, z, h1, h2, h3, h4, h5, h6 xs q.1, h7 ys q.2⟩
end Bal
/-! ### the text, the heap, the classes -/
namespace Bal
open PySem PySem.Spec PyProof.Rows L2
/-- the i-th statement of the program -/
def top (i : Nat) : Stmt := PySem.Challenge.pw_waitingballoons_s01_answers.main.body.getD i (.Pass ⟨0, 0, 0, 0⟩)
abbrev sBalInit : Stmt := inClass (top 1) 0
abbrev sDown : Stmt := inClass (top 1) 1
abbrev sWinInit : Stmt := inClass (top 2) 0
abbrev sMany : Stmt := inClass (top 2) 1
abbrev sCarried : Stmt := inClass (top 2) 2
abbrev sWay : Stmt := inClass (top 2) 3
abbrev sLanding : Stmt := inClass (top 2) 4
abbrev sSquare : Stmt := top 4
abbrev sMeeting : Stmt := top 5
abbrev sTooNear : Stmt := top 6
abbrev sTooLate : Stmt := top 7
abbrev sCanBe : Stmt := top 8
abbrev sAllDown : Stmt := top 9
abbrev sAllPlans : Stmt := top 10
abbrev sPlansThat : Stmt := top 11
abbrev sLeast : Stmt := top 12
abbrev sRefInit : Stmt := inClass (top 27) 0
abbrev sNeed : Stmt := top 28
abbrev sDeskInit : Stmt := inClass (top 29) 0
abbrev sBegins : Stmt := inClass (top 29) 1
abbrev sAddHour : Stmt := inClass (top 29) 2
abbrev sAddBal : Stmt := inClass (top 29) 3
abbrev sCheck : Stmt := inClass (top 29) 4
abbrev sPlans : Stmt := inClass (top 29) 5
abbrev sBest : Stmt := inClass (top 29) 6
abbrev sSoonest : Stmt := inClass (top 29) 7
abbrev sLands : Stmt := inClass (top 29) 8
abbrev sToldBy : Stmt := inClass (top 29) 9
abbrev sAnswer : Stmt := inClass (top 29) 10
abbrev sAnswers : Stmt := top 31
/-! ### small words -/
theorem if_true_of {c : Bool} {A B : Prop} (hc : c = true) (h : A) : if c = true then A else B := by
  rw [if_pos hc]
  exact h
theorem if_false_of {c : Bool} {A B : Prop} (hc : c = false) (h : B) : if c = true then A else B := by
  rw [hc, if_neg Bool.false_ne_true]
  exact h
theorem lk_here {k : Str} {v : V} {r : List (Str × V)} : List.lookup k ((k, v) :: r) = some v := by
  have e : (k == k) = true := beq_self_eq_true k
  simp only [List.lookup, e]
theorem lk_past {k g : Str} {v : V} {r : List (Str × V)} (h : (k == g) = false) : List.lookup k ((g, v) :: r) = List.lookup k r := by
  simp only [List.lookup, h]
theorem put_here {f : Str} {v x : V} {r : List (Str × V)} : putF f v ((f, x) :: r) = (f, v) :: r := if_pos rfl
theorem put_past {f g : Str} {v x : V} {r : List (Str × V)} (h : ¬ g = f) : putF f v ((g, x) :: r) = (g, x) :: putF f v r := if_neg h
theorem same_upd {H : Hp} {p : Addr} {o : HO} (h : H p = none) : Same H (upd H p o) := fun b x e => by
  rw [upd_ne (ne_of_none e h)]
  exact e
/-- the ints of numbers -/
abbrev nV (l : List Nat) : List V := (Si93.ints l).map V.int
theorem nV_len (l : List Nat) : (nV l).length = l.length := by
  show ((l.map _).map _).length = l.length
  rw [List.length_map, List.length_map]
theorem nV_get {l : List Nat} {i n : Nat} (h : l[i]? = some n) : (nV l)[i]? = some (.int (n : Int)) := by
  show ((l.map _).map _)[i]? = _
  rw [List.getElem?_map, List.getElem?_map, h]
  rfl
theorem of_nV {l : List Nat} {i : Nat} {x : V} (h : (nV l)[i]? = some x) : ∃ n, l[i]? = some n ∧ x = .int (n : Int) := by
  have h' : ((l.map fun n : Nat => (n : Int)).map V.int)[i]? = some x := h
  rw [List.getElem?_map, List.getElem?_map] at h'
  cases e : l[i]? with
  | none => rw [e] at h'; cases h'
  | some n =>
    rw [e] at h'
    exact ⟨n, rfl, (Option.some.inj h').symm⟩
theorem nV_append (a b : List Nat) : nV (a ++ b) = nV a ++ nV b := by
  show ((a ++ b).map _).map _ = _
  rw [List.map_append, List.map_append]
  rfl
theorem paired_get {α β : Type} {F : α → β → Prop} : ∀ {xs : List α} {ys : List β}, Paired F xs ys → ∀ {i : Nat} {y : β}, ys[i]? = some y → ∃ x, xs[i]? = some x ∧ F x y
  | _, _, .nil, i, y, h => by cases h
  | _, _, .cons r t, 0, y, h => by
    have e := Option.some.inj h
    subst e
    exact ⟨_, rfl, r⟩
  | _, _, .cons r t, i + 1, y, h => paired_get t h
theorem paired_get1 {α β : Type} {F : α → β → Prop} : ∀ {xs : List α} {ys : List β}, Paired F xs ys → ∀ {i : Nat} {x : α}, xs[i]? = some x → ∃ y, ys[i]? = some y ∧ F x y
  | _, _, .nil, i, y, h => by cases h
  | _, _, .cons r t, 0, y, h => by
    have e := Option.some.inj h
    subst e
    exact ⟨_, rfl, r⟩
  | _, _, .cons r t, i + 1, y, h => paired_get1 t h
theorem paired_len {α β : Type} {F : α → β → Prop} : ∀ {xs : List α} {ys : List β}, Paired F xs ys → xs.length = ys.length
  | _, _, .nil => rfl
  | _, _, .cons _ t => by rw [List.length_cons, List.length_cons, paired_len t]
theorem paired_imp {α β : Type} {F G : α → β → Prop} (h : ∀ a b, F a b → G a b) : ∀ {xs : List α} {ys : List β}, Paired F xs ys → Paired G xs ys
  | _, _, .nil => .nil
  | _, _, .cons r t => .cons (h _ _ r) (paired_imp h t)
theorem paired_app {α β : Type} {F : α → β → Prop} : ∀ {xs xs' : List α} {ys ys' : List β}, Paired F xs ys → Paired F xs' ys' → Paired F (xs ++ xs') (ys ++ ys')
  | _, _, _, _, .nil, h => h
  | _, _, _, _, .cons r t, h => .cons r (paired_app t h)
theorem paired_one {α β : Type} {F : α → β → Prop} {x : α} {y : β} (h : F x y) : Paired F [x] [y] := .cons h .nil
/-! ### what lies in the heap -/
/-- at x a tuple of two ints -/
def PlaceAt (H : Hp) (x : V) (p : Int × Int) : Prop := ∃ t : Addr, x = .ref t ∧ H t = some (.tup [.int p.1, .int p.2])
/-- at x an hour's winds -/
def HourAt (H : Hp) (x : V) (ps : List (Int × Int)) : Prop := ∃ (l : Addr) (xs : List V), x = .ref l ∧ H l = some (.lst xs) ∧ Paired (PlaceAt H) xs ps
/-- at h the hours -/
def HoursAt (H G : Hp) (h : Addr) (ws : List (List (Int × Int))) : Prop := ∃ xs : List V, H h = some (.lst xs) ∧ Paired (HourAt G) xs ws
def winF (heights : Nat) (h : Addr) : List (Str × V) := [("heights", .int (heights : Int)), ("hours", .ref h)]
/-- at w the winds, their hours at h -/
def WindsAt (CW : Addr) (H : Hp) (w h : Addr) (heights : Nat) (ws : List (List (Int × Int))) : Prop := (∃ dx, H w = some (.ins CW dx (winF heights h))) ∧ HoursAt H H h ws
def balF (B : Si93.Balloon) (f : Addr) : List (Str × V) := [("east", .int B.at_.1), ("north", .int B.at_.2), ("flight", .ref f)]
/-- at a a balloon -/
def BalAt (CB : Addr) (H : Hp) (a : Addr) (B : Si93.Balloon) : Prop := ∃ dx f, H a = some (.ins CB dx (balF B f)) ∧ H f = some (.lst (nV B.flight))
def BalRef (CB : Addr) (H : Hp) (x : V) (B : Si93.Balloon) : Prop := ∃ a, x = .ref a ∧ BalAt CB H a B
/-- at bs the balloons -/
def BalsAt (CB : Addr) (H : Hp) (bs : Addr) (Bs : List Si93.Balloon) : Prop := ∃ xs : List V, H bs = some (.lst xs) ∧ Paired (BalRef CB H) xs Bs
/-- at x what is known of an hour of a way -/
def StepAt (H : Hp) (x : V) (s : Nat × Nat × (Int × Int)) : Prop := ∃ (t : Addr) (y : V), x = .ref t ∧ H t = some (.tup [.int (s.1 : Int), .int (s.2.1 : Int), y]) ∧ PlaceAt H y s.2.2
/-- at p a way -/
def WayAt (H : Hp) (p : Addr) (way : List (Nat × Nat × (Int × Int))) : Prop := ∃ xs : List V, H p = some (.lst xs) ∧ Paired (StepAt H) xs way
section
variable {H H' : Hp} {CB CW : Addr}
theorem PlaceAt.same {x : V} {p : Int × Int} (e : Same H H') (h : PlaceAt H x p) : PlaceAt H' x p := let ⟨t, a, b⟩ := h; ⟨t, a, e _ _ b⟩
theorem HourAt.same {x : V} {ps : List (Int × Int)} (e : Same H H') (h : HourAt H x ps) : HourAt H' x ps := let ⟨l, xs, a, b, c⟩ := h; ⟨l, xs, a, e _ _ b, paired_imp (fun _ _ => PlaceAt.same e) c⟩
theorem WindsAt.same {w h : Addr} {n : Nat} {ws : List (List (Int × Int))} (e : Same H H') (x : WindsAt CW H w h n ws) : WindsAt CW H' w h n ws :=
  let ⟨⟨dx, a⟩, xs, b, c⟩ := x
  ⟨⟨dx, e _ _ a⟩, xs, e _ _ b, paired_imp (fun _ _ => HourAt.same e) c⟩
theorem BalAt.same {a : Addr} {B : Si93.Balloon} (e : Same H H') (h : BalAt CB H a B) : BalAt CB H' a B := let ⟨dx, f, x, y⟩ := h; ⟨dx, f, e _ _ x, e _ _ y⟩
theorem BalRef.same {a : V} {B : Si93.Balloon} (e : Same H H') (h : BalRef CB H a B) : BalRef CB H' a B := let ⟨x, y, z⟩ := h; ⟨x, y, z.same e⟩
theorem BalsAt.same {bs : Addr} {Bs : List Si93.Balloon} (e : Same H H') (h : BalsAt CB H bs Bs) : BalsAt CB H' bs Bs := let ⟨xs, a, b⟩ := h; ⟨xs, e _ _ a, paired_imp (fun _ _ => BalRef.same e) b⟩
theorem StepAt.same {x : V} {s : Nat × Nat × (Int × Int)} (e : Same H H') (h : StepAt H x s) : StepAt H' x s := let ⟨t, y, a, b, c⟩ := h; ⟨t, y, a, e _ _ b, c.same e⟩
theorem WayAt.same {p : Addr} {way : List (Nat × Nat × (Int × Int))} (e : Same H H') (h : WayAt H p way) : WayAt H' p way := let ⟨xs, a, b⟩ := h; ⟨xs, e _ _ a, paired_imp (fun _ _ => StepAt.same e) b⟩
end
/-! ### fields -/
theorem lB_east {B : Si93.Balloon} {f : Addr} : (balF B f).lookup ("east" : Str) = some (.int B.at_.1) := lk_here
theorem lB_north {B : Si93.Balloon} {f : Addr} : (balF B f).lookup ("north" : Str) = some (.int B.at_.2) := (lk_past (by decide +kernel)).trans lk_here
theorem lB_flight {B : Si93.Balloon} {f : Addr} : (balF B f).lookup ("flight" : Str) = some (.ref f) := (lk_past (by decide +kernel)).trans ((lk_past (by decide +kernel)).trans lk_here)
theorem lB_down {B : Si93.Balloon} {f : Addr} : (balF B f).lookup ("down_behind" : Str) = none := (lk_past (by decide +kernel)).trans ((lk_past (by decide +kernel)).trans ((lk_past (by decide +kernel)).trans rfl))
theorem lW_heights {n : Nat} {h : Addr} : (winF n h).lookup ("heights" : Str) = some (.int (n : Int)) := lk_here
theorem lW_hours {n : Nat} {h : Addr} : (winF n h).lookup ("hours" : Str) = some (.ref h) := (lk_past (by decide +kernel)).trans lk_here
theorem lW_none {n : Nat} {h : Addr} {m : Str} (h1 : (m == ("heights" : Str)) = false) (h2 : (m == ("hours" : Str)) = false) : (winF n h).lookup m = none := (lk_past h1).trans ((lk_past h2).trans rfl)
/-- what the top has written of the classes; built-ins that it leaves alone -/
structure Txt (K : PySem.W.Frag) (mg : Str → Option Value) (CB CW CD : Addr) : Prop where
  cB : Cls K CB
  cW : Cls K CW
  cD : Cls K CD
  nEast : NoAttr K CB "east"
  nNorth : NoAttr K CB "north"
  nFlight : NoAttr K CB "flight"
  nHeights : NoAttr K CW "heights"
  nHours : NoAttr K CW "hours"
  nWinds : NoAttr K CD "winds"
  nBals : NoAttr K CD "balloons"
  nNear : NoAttr K CD "near"
  nWait : NoAttr K CD "most_wait"
  mLen : mg "len" = none
  mZip : mg "zip" = none
  mEnum : mg "enumerate" = none
  mMax : mg "max" = none
  mMin : mg "min" = none
  mRange : mg "range" = none
  mSum : mg "sum" = none
  mAll : mg "all" = none
  mList : mg "list" = none
/-- a module's constant -/
def IsC (mg : Str → Option Value) (x : Str) (i : Int) : Prop := ∃ t, mg x = some (.int i t)
theorem pe_const {X : Cx} {x : Str} {i : Int} {pos : Pos} (h : IsC X.mg x i) (hg : Gl X x) (hd : (x == ("__debug__" : Str)) = false := by decide) : PE X (.Name x pos) (tC (.int i)) := by
  obtain ⟨t, h⟩ := h
  exact pe_glob hg h ⟨t, rfl⟩ hd
/-- a def that raises nothing, by its global name -/
structure Cal (P : Program) (w : World) (K : PySem.W.Frag) (mg : Str → Option Value) (base : Heap) (k : Nat) (x : Str) (sp : Sp) : Prop where
  ex : ∃ (f : Addr) (fd : FuncData) (ps : List Str), FnOk P w K mg base CX0 k f fd ps sp ∧ mg x = some (.ref f) ∧ PySem.W.keepIn K (.ref f) = true ∧ Binds K fd ps []
/-- a method that raises nothing -/
structure Met (P : Program) (w : World) (K : PySem.W.Frag) (mg : Str → Option Value) (base : Heap) (k : Nat) (C : Addr) (m : Str) (sp : Sp) : Prop where
  ex : ∃ (f : Addr) (fd : FuncData) (ps : List Str), Cls K C ∧ Meth K C m f ∧ FnOk P w K mg base CX0 k f fd ps sp ∧ Binds K fd ps []
/-- a class made by its name; sp: its __init__ -/
structure Mak (P : Program) (w : World) (K : PySem.W.Frag) (mg : Str → Option Value) (base : Heap) (k : Nat) (x : Str) (C : Addr) (sp : Sp) : Prop where
  ex : ∃ (f : Addr) (fd : FuncData) (ps : List Str), Mk K C f ∧ FnOk P w K mg base CX0 k f fd ps sp ∧ mg x = some (.ref C) ∧ Binds K fd ps []
section
variable {X : Cx} {k j : Nat} {C : Addr} {x m : Str} {sp : Sp} {p pos apos : Pos} {e o : Expr} {es : List Expr} {ta : TE} {t : TA}
theorem pe_c (c : Cal X.prog X.w X.K X.mg X.base k x sp) (hr : Room j X.A) (hk : k ≤ j) (hg : Gl X x) (ha : PA X (e :: es) t)
    (hdb : (x == ("__debug__" : Str)) = false := by decide) (he : starEach (e :: es) X.env = (false, eval e X.env) :: starEach es X.env := by rfl) (hpl : (backTo pos (starEach es X.env)).any (·.1) = false := by rfl) :
    PE X (.Call (.Name x p) (e :: es) [] pos) (tCall sp [] E0 t) := by
  obtain ⟨f, fd, ps, F, hm, kp, b⟩ := c.ex
  exact pe_call F (hr.mono hk) hg hm kp b .nil pass0 ha hdb he hpl
theorem pe_mk (c : Mak X.prog X.w X.K X.mg X.base k x C sp) (hr : Room j X.A) (hk : k + 1 ≤ j) (hg : Gl X x) (ha : PA X (e :: es) t)
    (hdb : (x == ("__debug__" : Str)) = false := by decide) (he : starEach (e :: es) X.env = (false, eval e X.env) :: starEach es X.env := by rfl) (hpl : (backTo pos (starEach es X.env)).any (·.1) = false := by rfl) :
    PE X (.Call (.Name x p) (e :: es) [] pos) (tMake C sp [] E0 t) := by
  obtain ⟨f, fd, ps, M, F, hm, b⟩ := c.ex
  exact pe_make M F (hr.mono hk) hg hm b .nil pass0 ha hdb he hpl
theorem pe_mk0 (c : Mak X.prog X.w X.K X.mg X.base k x C sp) (hr : Room j X.A) (hk : k + 1 ≤ j) (hg : Gl X x) (hdb : (x == ("__debug__" : Str)) = false := by decide) :
    PE X (.Call (.Name x p) [] [] pos) (tMake C sp [] E0 tNil) := by
  obtain ⟨f, fd, ps, M, F, hm, b⟩ := c.ex
  exact pe_make0 M F (hr.mono hk) hg hm b .nil pass0 hdb
theorem pe_mt {pl : Sem Bool} (c : Met X.prog X.w X.K X.mg X.base k C m sp) (hr : Room j X.A) (hk : k ≤ j) (he : PE X o ta) (ha : PA X (e :: es) t)
    (hst : starEach (e :: es) X.env = (false, eval e X.env) :: starEach es X.env := by rfl) (hpl : (backTo pos (starEach es X.env)).any (·.1) = false := by rfl)
    (ht : eval (.Call (.Attribute o m apos) (e :: es) [] pos) X.env = (do
      let ov ← eval o X.env
      standAt apos.atName
      let (f, first) ← holding [ov] (getMethod ov m pl)
      callWith pos f first (backTo pos (starEach (e :: es) X.env)) (backToKw pos (keywordEach [] X.env))) := by rfl) :
    PE X (.Call (.Attribute o m apos) (e :: es) [] pos) (tMeth C m sp [] E0 ta t) := by
  obtain ⟨f, fd, ps, hc, hm, F, b⟩ := c.ex
  exact pe_meth (pl := pl) he hc hm F (hr.mono hk) b .nil pass0 ha hst hpl ht
theorem pe_mt0 {pl : Sem Bool} (c : Met X.prog X.w X.K X.mg X.base k C m sp) (hr : Room j X.A) (hk : k ≤ j) (he : PE X o ta)
    (ht : eval (.Call (.Attribute o m apos) [] [] pos) X.env = (do
      let ov ← eval o X.env
      standAt apos.atName
      let (f, first) ← holding [ov] (getMethod ov m pl)
      callWith pos f first (backTo pos (starEach [] X.env)) (backToKw pos (keywordEach [] X.env))) := by rfl) :
    PE X (.Call (.Attribute o m apos) [] [] pos) (tMeth C m sp [] E0 ta tNil) := by
  obtain ⟨f, fd, ps, hc, hm, F, b⟩ := c.ex
  exact pe_meth0 (pl := pl) he hc hm F (hr.mono hk) b .nil pass0 ht
end
end Bal
/-! ### balloons and winds -/
namespace Bal
open PySem PySem.Spec PyProof.Rows L2
abbrev Pl := Int × Int
def windAt (ws : List (List Pl)) (t h : Nat) : Pl := (ws.getD t []).getD h (0, 0)
def move (ws : List (List Pl)) (t : Nat) (p : Pl) (h : Nat) : Pl := (p.1 + (windAt ws t h).1, p.2 + (windAt ws t h).2)
def drift (ws : List (List Pl)) : Nat → Pl → List Nat → Pl
  | _, p, [] => p
  | t, p, h :: l => drift ws (t + 1) (move ws t p h) l
/-- hour by hour: the hour, the height, where one is behind it -/
def wy (ws : List (List Pl)) : Nat → Pl → List Nat → List (Nat × Nat × Pl)
  | _, _, [] => []
  | t, p, h :: l => (t, h, move ws t p h) :: wy ws (t + 1) (move ws t p h) l
theorem wy_len (ws : List (List Pl)) : ∀ (l : List Nat) (t : Nat) (p : Pl), (wy ws t p l).length = l.length
  | [], _, _ => rfl
  | h :: l, t, p => by
    show (wy ws (t + 1) (move ws t p h) l).length + 1 = l.length + 1
    rw [wy_len ws l]
theorem drift_snoc (ws : List (List Pl)) : ∀ (l : List Nat) (t : Nat) (p : Pl) (h : Nat), drift ws t p (l ++ [h]) = move ws (t + l.length) (drift ws t p l) h
  | [], t, p, h => rfl
  | x :: l, t, p, h => by
    show drift ws (t + 1) (move ws t p x) (l ++ [h]) = move ws (t + (l.length + 1)) (drift ws (t + 1) (move ws t p x) l) h
    rw [drift_snoc ws l, Nat.add_assoc, Nat.add_comm 1 l.length]
theorem wy_get (ws : List (List Pl)) : ∀ (l : List Nat) (t : Nat) (p : Pl) (i h : Nat), l[i]? = some h → (wy ws t p l)[i]? = some (t + i, h, drift ws t p (l.take (i + 1)))
  | [], _, _, _, _, e => by cases e
  | x :: l, t, p, 0, h, e => by
    have e' : x = h := Option.some.inj e
    subst e'
    rfl
  | x :: l, t, p, i + 1, h, e => by
    show (wy ws (t + 1) (move ws t p x) l)[i]? = some (t + (i + 1), h, drift ws (t + 1) (move ws t p x) (l.take (i + 1)))
    rw [wy_get ws l (t + 1) _ i h e, Nat.add_assoc, Nat.add_comm 1 i]
theorem take_more {α : Type} {l : List α} {i : Nat} {x : α} (h : l[i]? = some x) : l.take (i + 1) = l.take i ++ [x] := by
  rw [List.take_add_one, h]
  rfl
theorem Same.upd2 {H H' : Hp} {p : Addr} {o : HO} (s : Same H H') (n : H p = none) : Same H (upd H' p o) := fun b x e => by
  rw [upd_ne (ne_of_none e n)]
  exact s b x e
theorem PlaceAt.upd2 {H : Hp} {q : Addr} {ys : List V} {o : HO} {x : V} {p : Pl} (hq : H q = some (.lst ys)) (h : PlaceAt H x p) : PlaceAt (upd H q o) x p := by
  obtain ⟨t, e, ht⟩ := h
  exact ⟨t, e, by rw [upd_ne (ne_of ht hq (by intro z; cases z))]; exact ht⟩
theorem StepAt.upd2 {H : Hp} {q : Addr} {ys : List V} {o : HO} {x : V} {s : Nat × Nat × Pl} (hq : H q = some (.lst ys)) (h : StepAt H x s) : StepAt (upd H q o) x s := by
  obtain ⟨t, y, e, ht, hp⟩ := h
  exact ⟨t, y, e, by rw [upd_ne (ne_of ht hq (by intro z; cases z))]; exact ht, hp.upd2 hq⟩
/-! ### the promises -/
def spBalInit (CB : Addr) : Sp := fun vs H Q _ => ∃ (p dx : Addr) (x y : Int) (f : Addr), vs = [.ref p, .int x, .int y, .ref f] ∧ H p = some (.ins CB dx []) ∧
  Q .non (upd H p (.ins CB dx [("east", .int x), ("north", .int y), ("flight", .ref f)]))
def spDown (CB : Addr) : Sp := fun vs H Q _ => ∃ (b : Addr) (B : Si93.Balloon) (e : Nat), vs = [.ref b, .int (e : Int)] ∧ BalAt CB H b B ∧ Q (.int ((e + B.flight.length : Nat) : Int)) H
def spWinInit (CW : Addr) : Sp := fun vs H Q _ => ∃ (p dx : Addr) (n : Nat), vs = [.ref p, .int (n : Int)] ∧ H p = some (.ins CW dx []) ∧
  ∀ h : Addr, H h = none → Q .non (upd (upd (upd H p (.ins CW dx [("heights", .int (n : Int))])) h (.lst [])) p (.ins CW dx (winF n h)))
def spMany (CW : Addr) : Sp := fun vs H Q _ => ∃ (w h : Addr) (n : Nat) (ws : List (List Pl)), vs = [.ref w] ∧ WindsAt CW H w h n ws ∧ Q (.int (ws.length : Int)) H
def spCarried (CW : Addr) : Sp := fun vs H Q _ => ∃ (w h pl : Addr) (n : Nat) (ws : List (List Pl)) (p q : Pl) (row : List Pl) (t x : Nat), vs = [.ref w, .ref pl, .int (t : Int), .int (x : Int)] ∧ WindsAt CW H w h n ws ∧ H pl = some (.tup [.int p.1, .int p.2]) ∧
  ws[t]? = some row ∧ row[x]? = some q ∧ ∀ r, H r = none → Q (.ref r) (upd H r (.tup [.int (p.1 + q.1), .int (p.2 + q.2)]))
/-- whom the winds told can carry: every hour tells each height, the flight's heights are there -/
def Fits (n : Nat) (ws : List (List Pl)) (B : Si93.Balloon) : Prop := (∀ row ∈ ws, row.length = n) ∧ (∀ x ∈ B.flight, x < n) ∧ B.flight.length ≤ 5
def spWay (CB CW : Addr) : Sp := fun vs H Q _ => ∃ (w h b : Addr) (n e : Nat) (ws : List (List Pl)) (B : Si93.Balloon), vs = [.ref w, .ref b, .int (e : Int)] ∧ WindsAt CW H w h n ws ∧ BalAt CB H b B ∧ Fits n ws B ∧ e + B.flight.length ≤ ws.length ∧
  ∀ H' p, Same H H' → H p = none → WayAt H' p (wy ws e B.at_ B.flight) → Q (.ref p) H'
def spLanding (CB CW : Addr) : Sp := fun vs H Q _ => ∃ (w h b : Addr) (n e : Nat) (ws : List (List Pl)) (B : Si93.Balloon), vs = [.ref w, .ref b, .int (e : Int)] ∧ WindsAt CW H w h n ws ∧ BalAt CB H b B ∧ Fits n ws B ∧ e + B.flight.length ≤ ws.length ∧
  ∀ H' x, Same H H' → PlaceAt H' x (drift ws e B.at_ B.flight) → Q x H'
theorem scBalInit : FnScope ["self", "east", "north", "flight"] ["self", "east", "north", "flight"] (defScope sBalInit) := ⟨rfl, rfl, rfl, by decide +kernel, rfl, by decide +kernel, by decide +kernel⟩
theorem scDown : FnScope ["self", "waits"] ["self", "waits"] (defScope sDown) := ⟨rfl, rfl, rfl, by decide +kernel, rfl, by decide +kernel, by decide +kernel⟩
theorem scWinInit : FnScope ["self", "heights"] ["self", "heights"] (defScope sWinInit) := ⟨rfl, rfl, rfl, by decide +kernel, rfl, by decide +kernel, by decide +kernel⟩
theorem scMany : FnScope ["self"] ["self"] (defScope sMany) := ⟨rfl, rfl, rfl, by decide +kernel, rfl, by decide +kernel, by decide +kernel⟩
theorem scCarried : FnScope ["self", "place", "hour", "height", "east", "north"] ["self", "place", "hour", "height"] (defScope sCarried) := ⟨rfl, rfl, rfl, by decide +kernel, rfl, by decide +kernel, by decide +kernel⟩
theorem scWay : FnScope ["self", "balloon", "waits", "place", "found", "k", "height"] ["self", "balloon", "waits"] (defScope sWay) := ⟨rfl, rfl, rfl, by decide +kernel, rfl, by decide +kernel, by decide +kernel⟩
theorem scLanding : FnScope ["self", "balloon", "waits", "way"] ["self", "balloon", "waits"] (defScope sLanding) := ⟨rfl, rfl, rfl, by decide +kernel, rfl, by decide +kernel, by decide +kernel⟩
section
variable {P : Program} {w : World} {K : PySem.W.Frag} {mg : Str → Option Value} {base : Heap} {CB CW CD : Addr}
theorem ok_balInit {f : Addr} {fd : FuncData} (F : Fun K "__init__" "Balloon.__init__" sBalInit f fd) (T : Txt K mg CB CW CD) : FnOk P w K mg base CX0 1 f fd ["self", "east", "north", "flight"] (spBalInit CB) := by
  refine F.ok scBalInit (fun vs H Q E h => ?_) (fun cdv A outer s H vs Q E hr h => ?_)
  · obtain ⟨p, dx, x, y, f, rfl, _⟩ := h
    rfl
  · obtain ⟨p, dx, x, y, f, rfl, hp, q⟩ := h
    refine ⟨_, pss_cons (ps_fld (pv 0) (pv 1) rfl) (pss_cons (ps_fld (pv 0) (pv 2) rfl) (pss_one (ps_fld (pv 0) (pv 3) rfl))), ?_⟩
    refine ⟨_, rfl, _, rfl, p, CB, dx, [], rfl, hp, T.cB, T.nEast, (by show 0 < 1000; decide), ?_⟩
    refine ⟨_, rfl, _, rfl, p, CB, dx, _, rfl, upd_same, T.cB, T.nNorth, (by show 1 < 1000; decide), ?_⟩
    refine ⟨_, rfl, _, rfl, p, CB, dx, _, rfl, upd_same, T.cB, T.nFlight, (by show 2 < 1000; decide), ?_⟩
    rw [upd_upd, upd_upd]
    exact q
theorem ok_down {f : Addr} {fd : FuncData} (F : Fun K "down_behind" "Balloon.down_behind" sDown f fd) (T : Txt K mg CB CW CD) : FnOk P w K mg base CX0 1 f fd ["self", "waits"] (spDown CB) := by
  refine F.ok scDown (fun vs H Q E h => ?_) (fun cdv A outer s H vs Q E hr h => ?_)
  · obtain ⟨b, B, e, rfl, _⟩ := h
    rfl
  · obtain ⟨b, B, e, rfl, ⟨dx, l, hb, hl⟩, q⟩ := h
    refine ⟨_, pss_one (ps_ret (pe_op op_add (pv 1) (pe_callB call_len_seq (by rfl) T.mLen PySem.boot_len (pa_cons (pe_fld (pv 0) rfl) pa_nil)))), ?_⟩
    refine ⟨_, rfl, _, rfl, b, CB, dx, _, _, rfl, hb, T.cB, T.nFlight, lB_flight, l, _, rfl, .inl (SqL.of hl), _, _, rfl, rfl, ?_⟩
    rw [nV_len]
    exact q
theorem ok_winInit {f : Addr} {fd : FuncData} (F : Fun K "__init__" "Winds.__init__" sWinInit f fd) (T : Txt K mg CB CW CD) : FnOk P w K mg base CX0 1 f fd ["self", "heights"] (spWinInit CW) := by
  refine F.ok scWinInit (fun vs H Q E h => ?_) (fun cdv A outer s H vs Q E hr h => ?_)
  · obtain ⟨p, dx, n, rfl, _⟩ := h
    rfl
  · obtain ⟨p, dx, n, rfl, hp, q⟩ := h
    refine ⟨_, pss_cons (ps_fld (pv 0) (pv 1) rfl) (pss_one (ps_fld (pv 0) (pe_lst pa_nil) rfl)), ?_⟩
    refine ⟨_, rfl, _, rfl, p, CW, dx, [], rfl, hp, T.cW, T.nHeights, (by show 0 < 1000; decide), ?_⟩
    refine ⟨Nat.zero_le _, fun h hn => ?_⟩
    have ne : p ≠ h := fun z => by
      rw [← z, upd_same] at hn
      cases hn
    have hn0 : H h = none := by
      rw [upd_ne (Ne.symm ne)] at hn
      exact hn
    refine ⟨_, rfl, p, CW, dx, _, rfl, (upd_ne ne).trans upd_same, T.cW, T.nHours, (by show 1 < 1000; decide), ?_⟩
    exact q h hn0
theorem ok_many {f : Addr} {fd : FuncData} (F : Fun K "many_hours" "Winds.many_hours" sMany f fd) (T : Txt K mg CB CW CD) : FnOk P w K mg base CX0 1 f fd ["self"] (spMany CW) := by
  refine F.ok scMany (fun vs H Q E h => ?_) (fun cdv A outer s H vs Q E hr h => ?_)
  · obtain ⟨w, h, n, ws, rfl, _⟩ := h
    rfl
  · obtain ⟨w, h, n, ws, rfl, ⟨⟨dx, hw⟩, xs, hx, hp⟩, q⟩ := h
    refine ⟨_, pss_one (ps_ret (pe_callB call_len_seq (by rfl) T.mLen PySem.boot_len (pa_cons (pe_fld (pv 0) rfl) pa_nil))), ?_⟩
    refine ⟨_, rfl, w, CW, dx, _, _, rfl, hw, T.cW, T.nHours, lW_hours, h, _, rfl, .inl (SqL.of hx), ?_⟩
    rw [paired_len hp]
    exact q
theorem ok_carried {f : Addr} {fd : FuncData} (F : Fun K "carried" "Winds.carried" sCarried f fd) (T : Txt K mg CB CW CD) : FnOk P w K mg base CX0 1 f fd ["self", "place", "hour", "height"] (spCarried CW) := by
  refine F.ok scCarried (fun vs H Q E h => ?_) (fun cdv A outer s H vs Q E hr h => ?_)
  · obtain ⟨w, h, pl, n, ws, p, q, row, t, x, rfl, _⟩ := h
    rfl
  · obtain ⟨w, h, pl, n, ws, p, q, row, t, x, rfl, ⟨⟨dx, hw⟩, xs, hx, hp⟩, hpl, ht, hq, k⟩ := h
    obtain ⟨v1, e1, l, ys, rfl, hl, hys⟩ := paired_get hp ht
    obtain ⟨v2, e2, r, rfl, hr2⟩ := paired_get hys hq
    refine ⟨_, pss_cons (ps_asg (pe_ix ix_list (pe_ix ix_list (pe_fld (pv 0) rfl) (pv 2) (fun _ _ => rfl)) (pv 3) (fun _ _ => rfl)) (pg_tup rfl (pgs_cons (pg_name (i := 4) scCarried.nd rfl (.inl rfl)) (pgs_cons (pg_name (i := 5) scCarried.nd rfl (.inl rfl)) pgs_nil))))
      (pss_one (ps_ret (pe_tup (pa_cons (pe_op op_add (pe_ix ix_tup (pv 1) pe_int (fun _ _ => rfl)) (pv 4)) (pa_cons (pe_op op_add (pe_ix ix_tup (pv 1) pe_int (fun _ _ => rfl)) (pv 5)) pa_nil))))), ?_⟩
    refine ⟨_, rfl, w, CW, dx, _, _, rfl, hw, T.cW, T.nHours, lW_hours, _, rfl, h, xs, _, _, rfl, rfl, SqL.of hx, atI_nat e1, _, rfl, l, ys, _, _, rfl, rfl, SqL.of hl, atI_nat e2, ?_⟩
    refine ⟨r, _, rfl, SqT.of hr2, rfl, _, _, rfl, _, _, rfl, rfl, ?_⟩
    refine ⟨_, rfl, pl, _, 0, _, rfl, rfl, SqT.of hpl, rfl, _, rfl, _, _, rfl, rfl, _, rfl, pl, _, 1, _, rfl, rfl, SqT.of hpl, rfl, _, rfl, _, _, rfl, rfl, (by show 2 ≤ sizeLine; decide), fun r hr => ?_⟩
    exact k r hr
end
end Bal
namespace Bal
open PySem PySem.Spec PyProof.Rows L2
theorem fit_get {n e i x : Nat} {ws : List (List Pl)} {B : Si93.Balloon} (F : Fits n ws B) (hl : e + B.flight.length ≤ ws.length) (h : B.flight[i]? = some x) : ∃ row, ws[e + i]? = some row ∧ row[x]? = some (windAt ws (e + i) x) := by
  have hi : i < B.flight.length := (List.getElem?_eq_some_iff.mp h).1
  have h1 : e + i < ws.length := by omega
  have hx : x < n := F.2.1 x (List.mem_of_getElem? h)
  have hr : (ws[e + i]).length = n := F.1 _ (List.getElem_mem h1)
  refine ⟨ws[e + i], List.getElem?_eq_getElem h1, ?_⟩
  have h2 : x < (ws[e + i]).length := by rw [hr]; exact hx
  unfold windAt
  rw [List.getD_eq_getElem?_getD, List.getD_eq_getElem?_getD, List.getElem?_eq_getElem h1]
  show (ws[e + i])[x]? = some (((ws[e + i])[x]?).getD (0, 0))
  rw [List.getElem?_eq_getElem h2]
  rfl
theorem way_last {ws : List (List Pl)} {e : Nat} {p : Pl} {l : List Nat} (h : l ≠ []) : ∃ y, (wy ws e p l)[(wy ws e p l).length - 1]? = some y ∧ y.2.2 = drift ws e p l := by
  have hl : 0 < l.length := List.length_pos_iff.mpr h
  obtain ⟨x, hx⟩ : ∃ x, l[l.length - 1]? = some x := ⟨l[l.length - 1], List.getElem?_eq_getElem (by omega)⟩
  have q := wy_get ws l e p _ x hx
  rw [wy_len]
  refine ⟨_, q, ?_⟩
  show drift ws e p (l.take (l.length - 1 + 1)) = drift ws e p l
  rw [show l.length - 1 + 1 = l.length by omega, List.take_length]
section
variable {P : Program} {w : World} {K : PySem.W.Frag} {mg : Str → Option Value} {base : Heap} {CB CW CD : Addr}
theorem ok_way {f : Addr} {fd : FuncData} (F : Fun K "way_of" "Winds.way_of" sWay f fd) (T : Txt K mg CB CW CD) (G : Met P w K mg base 1 CW "carried" (spCarried CW)) : FnOk P w K mg base CX0 2 f fd ["self", "balloon", "waits"] (spWay CB CW) := by
  refine F.ok scWay (fun vs H Q E h => ?_) (fun cdv A outer s H vs Q E hr h => ?_)
  · obtain ⟨w, h, b, n, e, ws, B, rfl, _⟩ := h
    rfl
  · obtain ⟨w, h, b, n, e, ws, B, rfl, hW, hB, hF, hle, q⟩ := h
    obtain ⟨dx, l, hb, hl⟩ := id hB
    refine ⟨_, pss_cons (ps_set (i := 3) scWay.nd rfl (.inl rfl) (pe_tup (pa_cons (pe_fld (pv 1) rfl) (pa_cons (pe_fld (pv 1) rfl) pa_nil))))
      (pss_cons (ps_set (i := 4) scWay.nd rfl (.inl rfl) (pe_lst pa_nil))
      (pss_cons (ps_for PassesOwn.never rfl (pi_enum (by rfl) T.mEnum (pa_cons (pe_fld (pv 1) rfl) pa_nil)) (pg_tup rfl (pgs_cons (pg_name (i := 5) scWay.nd rfl (.inl rfl)) (pgs_cons (pg_name (i := 6) scWay.nd rfl (.inl rfl)) pgs_nil)))
        (pss_cons (ps_set (i := 3) scWay.nd rfl (.inl rfl) (pe_mt G hr (by decide) (pv 0) (pa_cons (pv 3) (pa_cons (pe_op op_add (pv 2) (pv 5)) (pa_cons (pv 6) pa_nil)))))
        (pss_one (ps_expr (pe_bm PySem.F.plainAttrs_list PySem.F.slot_list_append PySem.F.type_list_append mt_append (pv 4) (pa_cons (pe_tup (pa_cons (pe_op op_add (pv 2) (pv 5)) (pa_cons (pv 6) (pa_cons (pv 3) pa_nil)))) pa_nil))))))
      (pss_one (ps_ret (pv 4))))), ?_⟩
    refine ⟨_, rfl, b, CB, dx, _, _, rfl, hb, T.cB, T.nEast, lB_east, _, rfl, b, CB, dx, _, _, rfl, hb, T.cB, T.nNorth, lB_north, (by show 2 ≤ sizeLine; decide), fun p0 np0 => ?_⟩
    have s0 := same_upd (o := .tup [.int B.at_.1, .int B.at_.2]) np0
    refine ⟨Nat.zero_le _, fun fo nfo => ?_⟩
    have nf0 : H fo = none := s0.free nfo
    have s1 : Same H (upd (upd H p0 (.tup [.int B.at_.1, .int B.at_.2])) fo (.lst [])) := s0.trans (same_upd nfo)
    have np : p0 ≠ fo := fun z => by
      rw [← z, upd_same] at nfo
      cases nfo
    refine ⟨_, rfl, b, CB, dx, _, _, rfl, s1 _ _ hb, T.cB, T.nFlight, lB_flight, l, nV B.flight, rfl, SqL.of (s1 _ _ hl), for_it walk_enum (fun i σ H' => ∃ v5 v6 pl, σ = [some (.ref w), some (.ref b), some (.int (e : Int)), some (.ref pl), some (.ref fo), v5, v6] ∧ Same H H' ∧ PlaceAt H' (.ref pl) (drift ws e B.at_ (B.flight.take i)) ∧ WayAt H' fo ((wy ws e B.at_ B.flight).take i))
      ⟨none, none, p0, rfl, s1, ⟨p0, rfl, (upd_ne np).trans upd_same⟩, ⟨[], upd_same, .nil⟩⟩ (fun i σ H' _ ⟨_, _, _, _, s2, _, _⟩ => SqL.of (s2 _ _ hl)) ?_ ?_⟩
    · rintro i x σ H1 H2 hi ⟨v5, v6, pl, rfl, s2, hpl, hway⟩ ⟨T', x', y', rfl, nT, rfl, ex, ey⟩
      obtain rfl : V.int (i : Nat) = x' := Option.some.inj ex
      obtain ⟨z, hz, rfl⟩ := of_nV ey
      have s3 : Same H1 (upd H1 T' (.tup [.int (i : Nat), .int (z : Nat)])) := same_upd nT
      refine ⟨T', _, rfl, SqT.of upd_same, rfl, _, _, rfl, _, _, rfl, rfl, ?_⟩
      obtain ⟨row, h1, h2⟩ := fit_get hF hle hz
      obtain ⟨dw, hw⟩ := hW.1
      obtain ⟨pl', epl, hpl'⟩ := hpl
      cases epl
      refine ⟨_, rfl, w, dw, _, rfl, s3 _ _ (s2 _ _ hw), lW_none (by decide +kernel) (by decide +kernel), _, rfl, _, rfl, _, rfl, _, _, rfl, rfl, _, rfl, ?_⟩
      refine ⟨w, h, pl, n, ws, _, _, row, e + i, z, rfl, (hW.same s2).same s3, s3 _ _ hpl', h1, h2, fun r nr => ?_⟩
      have s4 := same_upd (o := .tup [.int ((drift ws e B.at_ (B.flight.take i)).1 + (windAt ws (e + i) z).1), .int ((drift ws e B.at_ (B.flight.take i)).2 + (windAt ws (e + i) z).2)]) nr
      obtain ⟨xs, hxs, hst⟩ := hway
      have hxs4 := s4 _ _ (s3 _ _ hxs)
      refine ⟨_, rfl, .inl ⟨rfl, _, SqL.of hxs4⟩, _, rfl, _, rfl, _, _, rfl, rfl, _, rfl, _, rfl, (by show 3 ≤ sizeLine; decide), fun tt ntt => ?_⟩
      have s5 := same_upd (o := .tup [.int ((e : Int) + (i : Int)), .int (z : Int), .ref r]) ntt
      have hxs5 := s5 _ _ hxs4
      have hlen : xs.length ≤ 5 := by
        rw [paired_len hst]
        exact Nat.le_trans (by rw [List.length_take, wy_len]; exact Nat.min_le_right _ _) hF.2.2
      refine ⟨fo, xs, _, rfl, rfl, hxs5, Nat.lt_of_le_of_lt hlen (by decide), ?_⟩
      have hd : drift ws e B.at_ (B.flight.take (i + 1)) = move ws (e + i) (drift ws e B.at_ (B.flight.take i)) z := by
        rw [take_more hz, drift_snoc, List.length_take, Nat.min_eq_left (Nat.le_of_lt (by rw [nV_len] at hi; exact hi))]
      have hpr : PlaceAt (upd (upd (upd H1 T' (.tup [.int (i : Nat), .int (z : Nat)])) r (.tup [.int ((drift ws e B.at_ (B.flight.take i)).1 + (windAt ws (e + i) z).1), .int ((drift ws e B.at_ (B.flight.take i)).2 + (windAt ws (e + i) z).2)])) tt (.tup [.int ((e : Int) + (i : Int)), .int (z : Int), .ref r])) (.ref r) (drift ws e B.at_ (B.flight.take (i + 1))) := by
        rw [hd]
        exact ⟨r, rfl, s5 _ _ upd_same⟩
      refine ⟨_, _, r, rfl, Same.upd2 (((s2.trans s3).trans s4).trans s5) nf0, hpr.upd2 hxs5, xs ++ [.ref tt], upd_same, ?_⟩
      rw [take_more (wy_get ws B.flight e B.at_ i z hz)]
      refine paired_app (paired_imp (fun _ _ hs => (((hs.same s3).same s4).same s5).upd2 hxs5) hst) (paired_one (StepAt.upd2 hxs5 ⟨tt, .ref r, rfl, upd_same, hpr⟩))
    · rintro σ H' ⟨v5, v6, pl, rfl, s2, hpl, hway⟩
      rw [nV_len, ← wy_len ws B.flight e B.at_, List.take_length] at hway
      exact ⟨_, rfl, q H' fo s2 nf0 hway⟩
end
end Bal
/-! ### == of data -/
namespace Bal
open PySem PySem.Spec PyProof.Rows L2
/-- data that lies flat enough -/
def Sm (d : PyData) : Prop := d.canLay0 = true ∧ d.depth ≤ 10
theorem sm_int (i : Int) : Sm (.int i) := ⟨by simp only [PyData.canLay0], by simp only [PyData.depth]; omega⟩
theorem all_can : ∀ {ds : List PyData}, (∀ d ∈ ds, Sm d) → PyData.canLayAll0 ds = true
  | [], _ => by simp only [PyData.canLayAll0]
  | d :: ds, h => by
    simp only [PyData.canLayAll0]
    rw [(h d List.mem_cons_self).1, all_can fun e he => h e (List.mem_cons_of_mem _ he)]
    rfl
theorem all_depth {n : Nat} : ∀ {ds : List PyData}, (∀ d ∈ ds, d.depth ≤ n) → PyData.depthAll ds ≤ n
  | [], _ => by simp only [PyData.depthAll]; omega
  | d :: ds, h => by
    simp only [PyData.depthAll]
    have h1 := h d List.mem_cons_self
    have h2 := all_depth (n := n) (ds := ds) fun e he => h e (List.mem_cons_of_mem _ he)
    omega
theorem sm_tup {n : Nat} (hn : n ≤ 9) {ds : List PyData} (h : ∀ d ∈ ds, Sm d ∧ d.depth ≤ n) : Sm (.tuple ds) ∧ (PyData.tuple ds).depth ≤ n + 1 := by
  have hd := all_depth fun d hd => (h d hd).2
  refine ⟨⟨?_, ?_⟩, ?_⟩
  · simp only [PyData.canLay0]
    exact all_can fun d hd => (h d hd).1
  · simp only [PyData.depth]
    omega
  · simp only [PyData.depth]
    omega
theorem shaped_list {ds : List PyData} (h : ∀ d ∈ ds, Sm d) : SeqAt.shaped (.list ds) = true := by
  unfold SeqAt.shaped
  have h1 := all_can h
  have h2 := all_depth fun d hd => (h d hd).2
  rw [Bool.and_eq_true, decide_eq_true_eq]
  exact ⟨by simp only [PyData.canLay0]; exact h1, by simp only [PyData.depth]; omega⟩
theorem shaped_of_sm {d : PyData} (h : Sm d) : SeqAt.shaped d = true := by
  unfold SeqAt.shaped
  rw [h.1, Bool.true_and, decide_eq_true_eq]
  exact Nat.le_trans h.2 (by decide)
theorem sm_ints (k : List Int) : Sm (.tuple (k.map PyData.int)) ∧ (PyData.tuple (k.map PyData.int)).depth ≤ 1 := sm_tup (by decide) fun d hd => by
  obtain ⟨i, _, rfl⟩ := List.mem_map.mp hd
  exact ⟨sm_int i, by simp only [PyData.depth]; omega⟩
theorem eqv_nil (ds : List PyData) : PyData.eqv (.list ds) (.list []) = ds.isEmpty := by
  cases ds with
  | nil => simp only [PyData.eqv, PyData.eqvAll]; rfl
  | cons d ds => simp only [PyData.eqv, PyData.eqvAll]; rfl
theorem eqvAll_ints : ∀ a b : List Int, PyData.eqvAll (a.map PyData.int) (b.map PyData.int) = decide (a = b)
  | [], [] => by simp [PyData.eqvAll]
  | [], y :: b => by simp [PyData.eqvAll]
  | x :: a, [] => by simp [PyData.eqvAll]
  | x :: a, y :: b => by
    simp only [List.map_cons, PyData.eqvAll, PyData.eqv, eqvAll_ints a b]
    by_cases h : x = y
    · subst h
      by_cases h2 : a = b
      · subst h2; simp
      · simp [h2]
    · simp [h]
theorem eqv_tups (a b : List Int) : PyData.eqv (.tuple (a.map PyData.int)) (.tuple (b.map PyData.int)) = decide (a = b) := by
  simp only [PyData.eqv]
  exact eqvAll_ints a b
section
variable {K : PySem.W.Frag} {H : Hp}
theorem dp_ints : ∀ k : List Int, DpAll K H (k.map V.int) (k.map PyData.int)
  | [] => .nil
  | i :: k => .cons (.int i) (dp_ints k)
theorem dp_tup {x : V} {k : List Int} (h : TupI K H x k) : Dp K H x (.tuple (k.map PyData.int)) := by
  obtain ⟨t, rfl, ht⟩ := h
  exact .tup ht (dp_ints k)
theorem dp_each {α : Type} {F : V → α → Prop} (h : ∀ x a, F x a → ∃ d, Dp K H x d ∧ Sm d) : ∀ {xs : List V} {as : List α}, Paired F xs as → ∃ ds, DpAll K H xs ds ∧ (∀ d ∈ ds, Sm d) ∧ ds.length = as.length
  | _, _, .nil => ⟨[], .nil, fun d hd => (nomatch hd), rfl⟩
  | _, _, .cons r t => by
    obtain ⟨d, h1, h2⟩ := h _ _ r
    obtain ⟨ds, h3, h4, h5⟩ := dp_each h t
    refine ⟨d :: ds, .cons h1 h3, fun e he => ?_, by rw [List.length_cons, List.length_cons, h5]⟩
    rcases List.mem_cons.mp he with rfl | he
    · exact h2
    · exact h4 e he
theorem place_data {x : V} {p : Pl} (h : PlaceAt H x p) : Dp K H x (.tuple ([p.1, p.2].map PyData.int)) := by
  obtain ⟨t, rfl, ht⟩ := h
  exact .tup (SqT.of ht) (dp_ints [p.1, p.2])
theorem way_data {p : Addr} {way : List (Nat × Nat × Pl)} (h : WayAt H p way) : ∃ ds, Dp K H (.ref p) (.list ds) ∧ SeqAt.shaped (.list ds) = true ∧ ds.length = way.length := by
  obtain ⟨xs, hx, hs⟩ := h
  obtain ⟨ds, h1, h2, h3⟩ := dp_each (K := K) (H := H) (F := StepAt H) (fun x s hs => by
    obtain ⟨t, y, rfl, ht, hy⟩ := hs
    refine ⟨_, .tup (SqT.of ht) (.cons (.int _) (.cons (.int _) (.cons (place_data hy) .nil))), (sm_tup (n := 1) (by decide) fun d hd => ?_).1⟩
    simp only [List.mem_cons, List.not_mem_nil, or_false] at hd
    rcases hd with rfl | rfl | rfl
    · exact ⟨sm_int _, by simp only [PyData.depth]; omega⟩
    · exact ⟨sm_int _, by simp only [PyData.depth]; omega⟩
    · exact sm_ints [s.2.2.1, s.2.2.2]) hs
  exact ⟨ds, .lst (SqL.of hx) h1, shaped_list h2, h3⟩
end
section
variable {P : Program} {w : World} {K : PySem.W.Frag} {mg : Str → Option Value} {base : Heap} {CB CW CD : Addr}
theorem ok_landing {f : Addr} {fd : FuncData} (F : Fun K "landing" "Winds.landing" sLanding f fd) (T : Txt K mg CB CW CD) (G : Met P w K mg base 2 CW "way_of" (spWay CB CW)) : FnOk P w K mg base CX0 3 f fd ["self", "balloon", "waits"] (spLanding CB CW) := by
  refine F.ok scLanding (fun vs H Q E h => ?_) (fun cdv A outer s H vs Q E hr h => ?_)
  · obtain ⟨w, h, b, n, e, ws, B, rfl, _⟩ := h
    rfl
  · obtain ⟨w, h, b, n, e, ws, B, rfl, hW, hB, hF, hle, q⟩ := h
    refine ⟨_, pss_cons (ps_set (i := 3) scLanding.nd rfl (.inl rfl) (pe_mt G hr (by decide) (pv 0) (pa_cons (pv 1) (pa_cons (pv 2) pa_nil))))
      (pss_cons (ps_if (pt_cmpR (op_eqD hr.units) (pv 3) (pe_lst pa_nil) (nomark _)) (pss_one (ps_ret (pe_tup (pa_cons (pe_fld (pv 1) rfl) (pa_cons (pe_fld (pv 1) rfl) pa_nil))))) pss_nil)
      (pss_one (ps_ret (pe_ix ix_tup (pe_ix ix_list (pv 3) (pe_un un_neg pe_int) (fun _ _ => rfl)) pe_int (fun _ _ => rfl))))), ?_⟩
    obtain ⟨dw, hw⟩ := hW.1
    refine ⟨_, rfl, w, dw, _, rfl, hw, lW_none (by decide +kernel) (by decide +kernel), _, rfl, _, rfl, ?_⟩
    refine ⟨w, h, b, n, e, ws, B, rfl, hW, hB, hF, hle, fun H1 p s1 np hp => ?_⟩
    refine ⟨_, rfl, Nat.zero_le _, fun z nz => ?_⟩
    have s2 : Same H1 (upd H1 z (.lst [])) := same_upd nz
    obtain ⟨ds, d1, d2, d3⟩ := way_data (K := K) (hp.same s2)
    refine ⟨.list ds, .list [], d1, .lst (SqL.of upd_same) .nil, d2, shaped_list (fun d hd => by cases hd), _, rfl, ?_⟩
    rw [eqv_nil]
    obtain ⟨dx, l, hb, hl⟩ := hB.same (s1.trans s2)
    cases hB' : B.flight with
    | nil =>
      have e0 : ds = [] := List.eq_nil_of_length_eq_zero (by rw [d3, wy_len, hB']; rfl)
      subst e0
      refine iteT ?_
      refine ⟨_, rfl, b, CB, dx, _, _, rfl, hb, T.cB, T.nEast, lB_east, _, rfl, b, CB, dx, _, _, rfl, hb, T.cB, T.nNorth, lB_north, (by show 2 ≤ sizeLine; decide), fun r nr => ?_⟩
      refine q _ _ ((s1.trans s2).trans (same_upd nr)) ⟨r, rfl, ?_⟩
      rw [hB']
      exact upd_same
    | cons x0 l0 =>
      have hne : B.flight ≠ [] := by rw [hB']; simp
      have e0 : ds.isEmpty = false := by
        cases ds with
        | nil => rw [wy_len, hB'] at d3; cases d3
        | cons _ _ => rfl
      refine if_false_of e0 ?_
      obtain ⟨xs, hx, hst⟩ := hp.same s2
      obtain ⟨y, h1, h2⟩ := way_last (ws := ws) (e := e) (p := B.at_) hne
      obtain ⟨v, h3, t, v2, rfl, ht, hpl⟩ := paired_get hst h1
      have h4 : atI xs (-1) = some (.ref t) := by
        have hlen := paired_len hst
        have hpos : 0 < xs.length := by rw [hlen, wy_len, hB']; exact Nat.zero_lt_succ _
        have e1 : ixN xs.length (-1) = some (xs.length - 1) := by
          unfold ixN
          rw [if_neg (by decide), if_pos (by omega)]
          congr 1
          omega
        unfold atI
        rw [e1]
        show xs[xs.length - 1]? = _
        rw [hlen]
        exact h3
      refine ⟨_, rfl, _, rfl, p, xs, _, _, rfl, rfl, SqL.of hx, h4, t, _, 2, v2, rfl, rfl, SqT.of ht, rfl, ?_⟩
      rw [h2] at hpl
      exact q _ _ (s1.trans s2) hpl
end
end Bal
/-! ### plans: two that meet -/
namespace Bal
open PySem PySem.Spec PyProof.Rows L2
def sq (p q : Pl) : Int := (p.1 - q.1) ^ 2 + (p.2 - q.2) ^ 2
/-- places that aren't far out -/
def Bd (p : Pl) : Prop := p.1.natAbs ≤ 1000000 ∧ p.2.natAbs ≤ 1000000
abbrev Stp := Nat × Nat × Pl
def hit (near : Int) (a b : Stp) : Bool := (decide (a.1 = b.1) && decide (a.2.1 = b.2.1)) && decide (sq a.2.2 b.2.2 < near)
def meet (one other : List Stp) (near : Int) : Option Nat := one.findSome? fun a => if other.any (hit near a) = true then some a.1 else none
def oV : Option Nat → V
  | none => .non
  | some t => .int (t : Int)
theorem meet_none {one other : List Stp} {near : Int} (h : ∀ a ∈ one, other.any (hit near a) = false) : meet one other near = none := by
  unfold meet
  rw [List.findSome?_eq_none_iff]
  intro a ha
  rw [h a ha, if_neg (by decide)]
theorem meet_some : ∀ {one other : List Stp} {near : Int} {i : Nat} {a : Stp}, (∀ a ∈ one.take i, other.any (hit near a) = false) → one[i]? = some a → other.any (hit near a) = true → meet one other near = some a.1
  | [], _, _, _, _, _, h, _ => by cases h
  | x :: one, other, near, 0, a, _, h, h2 => by
    have e : x = a := Option.some.inj h
    subst e
    unfold meet
    rw [List.findSome?_cons, if_pos h2]
  | x :: one, other, near, i + 1, a, h1, h, h2 => by
    have ih := meet_some (one := one) (other := other) (near := near) (i := i) (a := a) (fun b hb => h1 b (by rw [List.take_succ_cons]; exact List.mem_cons_of_mem _ hb)) h h2
    have hx := h1 x (by rw [List.take_succ_cons]; exact List.mem_cons_self)
    unfold meet at ih ⊢
    rw [List.findSome?_cons, hx, if_neg (by decide)]
    exact ih
theorem any_take_all {other : List Stp} {p : Stp → Bool} (h : ∀ b ∈ other, p b = false) : other.any p = false := by
  rw [List.any_eq_false]
  intro b hb
  rw [h b hb]
  decide
theorem mem_take_more {α : Type} {l : List α} {i : Nat} {x : α} {Pr : α → Prop} (h : ∀ a ∈ l.take i, Pr a) (hx : l[i]? = some x) (hp : Pr x) : ∀ a ∈ l.take (i + 1), Pr a := by
  intro a ha
  rw [take_more hx] at ha
  rcases List.mem_append.mp ha with ha | ha
  · exact h a ha
  · rw [List.mem_singleton.mp ha]
    exact hp
def spSquare : Sp := fun vs H Q _ => ∃ (a b : Addr) (p q : Pl), vs = [.ref a, .ref b] ∧ H a = some (.tup [.int p.1, .int p.2]) ∧ H b = some (.tup [.int q.1, .int q.2]) ∧ Bd p ∧ Bd q ∧ Q (.int (sq p q)) H
def spMeeting : Sp := fun vs H Q _ => ∃ (p1 p2 : Addr) (one other : List Stp) (near : Int), vs = [.ref p1, .ref p2, .int near] ∧ WayAt H p1 one ∧ WayAt H p2 other ∧ (∀ s ∈ one, Bd s.2.2) ∧ (∀ s ∈ other, Bd s.2.2) ∧
  ∀ H', Same H H' → Q (oV (meet one other near)) H'
theorem scSquare : FnScope ["one", "other"] ["one", "other"] (defScope sSquare) := ⟨rfl, rfl, rfl, by decide +kernel, rfl, by decide +kernel, by decide +kernel⟩
theorem scMeeting : FnScope ["one", "other", "near", "hour", "height", "place", "other_hour", "other_height", "other_place"] ["one", "other", "near"] (defScope sMeeting) := ⟨rfl, rfl, rfl, by decide +kernel, rfl, by decide +kernel, by decide +kernel⟩
section
variable {P : Program} {w : World} {K : PySem.W.Frag} {mg : Str → Option Value} {base : Heap} {CB CW CD : Addr}
theorem ok_square {f : Addr} {fd : FuncData} (F : Fun K "square_of" "square_of" sSquare f fd) : FnOk P w K mg base CX0 1 f fd ["one", "other"] spSquare := by
  refine F.ok scSquare (fun vs H Q E h => ?_) (fun cdv A outer s H vs Q E hr h => ?_)
  · obtain ⟨a, b, p, q, rfl, _⟩ := h
    rfl
  · obtain ⟨a, b, p, q, rfl, ha, hb, ⟨p1, p2⟩, ⟨q1, q2⟩, k⟩ := h
    refine ⟨_, pss_one (ps_ret (pe_op op_add
      (pe_op op_pow (pe_op op_sub (pe_ix ix_tup (pv 0) pe_int (fun _ _ => rfl)) (pe_ix ix_tup (pv 1) pe_int (fun _ _ => rfl))) pe_int)
      (pe_op op_pow (pe_op op_sub (pe_ix ix_tup (pv 0) pe_int (fun _ _ => rfl)) (pe_ix ix_tup (pv 1) pe_int (fun _ _ => rfl))) pe_int))), ?_⟩
    have b1 : (p.1 - q.1).natAbs < 2 ^ 64 := by omega
    have b2 : (p.2 - q.2).natAbs < 2 ^ 64 := by omega
    refine ⟨_, rfl, a, _, 0, _, rfl, rfl, SqT.of ha, rfl, _, rfl, b, _, 0, _, rfl, rfl, SqT.of hb, rfl, _, _, rfl, rfl, _, _, rfl, rfl, ⟨by decide, by decide, b1⟩, ?_⟩
    exact ⟨_, rfl, a, _, 1, _, rfl, rfl, SqT.of ha, rfl, _, rfl, b, _, 1, _, rfl, rfl, SqT.of hb, rfl, _, _, rfl, rfl, _, _, rfl, rfl, ⟨by decide, by decide, b2⟩, _, _, rfl, rfl, k⟩
theorem ok_meeting {f : Addr} {fd : FuncData} (F : Fun K "meeting_of" "meeting_of" sMeeting f fd) (G : Cal P w K mg base 1 "square_of" spSquare) : FnOk P w K mg base CX0 2 f fd ["one", "other", "near"] spMeeting := by
  refine F.ok scMeeting (fun vs H Q E h => ?_) (fun cdv A outer s H vs Q E hr h => ?_)
  · obtain ⟨p1, p2, one, other, near, rfl, _⟩ := h
    rfl
  · obtain ⟨p1, p2, one, other, near, rfl, hw1, hw2, bd1, bd2, q⟩ := h
    obtain ⟨xs, hx, hxs⟩ := id hw1
    obtain ⟨ys, hy, hys⟩ := id hw2
    refine ⟨_, pss_cons (ps_for PassesOwn.never rfl (pi_list (pv 0)) (pg_tup rfl (pgs_cons (pg_name (i := 3) scMeeting.nd rfl (.inl rfl)) (pgs_cons (pg_name (i := 4) scMeeting.nd rfl (.inl rfl)) (pgs_cons (pg_name (i := 5) scMeeting.nd rfl (.inl rfl)) pgs_nil))))
      (pss_one (ps_for PassesOwn.never rfl (pi_list (pv 1)) (pg_tup rfl (pgs_cons (pg_name (i := 6) scMeeting.nd rfl (.inl rfl)) (pgs_cons (pg_name (i := 7) scMeeting.nd rfl (.inl rfl)) (pgs_cons (pg_name (i := 8) scMeeting.nd rfl (.inl rfl)) pgs_nil))))
        (pss_one (ps_if (PW.pt (pw_and (pt_cmpR (op_eqD hr.units) (pe_tup (pa_cons (pv 3) (pa_cons (pv 4) pa_nil))) (pe_tup (pa_cons (pv 6) (pa_cons (pv 7) pa_nil))) (nomark _))
            (pw_and1 (pt_cmpR op_lt (pe_c G hr (by decide) (by rfl) (pa_cons (pv 5) (pa_cons (pv 8) pa_nil))) (pv 2) (nomark _)))))
          (pss_one (ps_ret (pv 3))) pss_nil)))))
      (pss_one (ps_ret pe_non)), ?_⟩
    refine ⟨_, rfl, p1, rfl, ⟨_, SqL.of hx⟩, for_list (K := K) (a := p1) (xs := xs) (fun i σ H' => ∃ v3 v4 v5 v6 v7 v8, σ = [some (.ref p1), some (.ref p2), some (.int near), v3, v4, v5, v6, v7, v8] ∧ Same H H' ∧ ∀ a ∈ one.take i, other.any (hit near a) = false)
      ⟨none, none, none, none, none, none, rfl, Same.refl H, fun a ha => by rw [List.take_zero] at ha; cases ha⟩ (fun i σ H' _ ⟨_, _, _, _, _, _, _, s1, _⟩ => SqL.of (s1 _ _ hx)) ?_ ?_⟩
    · rintro i x σ H1 hi ⟨v3, v4, v5, v6, v7, v8, rfl, s1, hn⟩
      obtain ⟨a, ha, t, y, rfl, ht, hp⟩ := paired_get1 hxs hi
      obtain ⟨pa, rfl, hpa⟩ := hp
      refine ⟨t, _, rfl, SqT.of (s1 _ _ ht), rfl, _, _, rfl, _, _, rfl, _, _, rfl, rfl, ?_⟩
      refine ⟨_, rfl, p2, rfl, ⟨_, SqL.of (s1 _ _ hy)⟩, for_list (K := K) (a := p2) (xs := ys) (fun j σ H' => ∃ v6 v7 v8, σ = [some (.ref p1), some (.ref p2), some (.int near), some (.int (a.1 : Int)), some (.int (a.2.1 : Int)), some (.ref pa), v6, v7, v8] ∧ Same H H' ∧ ∀ b ∈ other.take j, hit near a b = false)
        ⟨v6, v7, v8, rfl, s1, fun b hb => by rw [List.take_zero] at hb; cases hb⟩ (fun i σ H' _ ⟨_, _, _, _, s2, _⟩ => SqL.of (s2 _ _ hy)) ?_ ?_⟩
      · rintro j x' σ H2 hj ⟨v6, v7, v8, rfl, s2, hm⟩
        obtain ⟨b, hb, t', y', rfl, ht', hp'⟩ := paired_get1 hys hj
        obtain ⟨pb, rfl, hpb⟩ := hp'
        refine ⟨t', _, rfl, SqT.of (s2 _ _ ht'), rfl, _, _, rfl, _, _, rfl, _, _, rfl, rfl, ?_⟩
        -- (hour, height) == (other_hour, other_height)
        refine ⟨_, rfl, _, rfl, (by show 2 ≤ sizeLine; decide), fun u1 n1 => ?_⟩
        have s3 := s2.trans (same_upd (o := .tup [.int (a.1 : Int), .int (a.2.1 : Int)]) n1)
        refine ⟨_, rfl, _, rfl, (by show 2 ≤ sizeLine; decide), fun u2 n2 => ?_⟩
        have s4' := same_upd (o := .tup [.int (b.1 : Int), .int (b.2.1 : Int)]) n2
        have s4 := s3.trans s4'
        refine ⟨_, _, dp_tup (k := [(a.1 : Int), (a.2.1 : Int)]) ⟨u1, rfl, SqT.of (s4' _ _ upd_same)⟩, dp_tup (k := [(b.1 : Int), (b.2.1 : Int)]) ⟨u2, rfl, SqT.of upd_same⟩, shaped_of_sm (sm_ints _).1, shaped_of_sm (sm_ints _).1, _, rfl, ?_⟩
        rw [eqv_tups]
        have more : hit near a b = false → ∀ c ∈ other.take (j + 1), hit near a c = false := fun h => mem_take_more hm hb h
        by_cases c1 : a.1 = b.1 ∧ a.2.1 = b.2.1
        · refine if_true_of (decide_eq_true (by rw [c1.1, c1.2])) ?_
          refine ⟨_, rfl, _, rfl, pa, pb, _, _, rfl, s4 _ _ hpa, s4 _ _ hpb, bd1 a (List.mem_of_getElem? ha), bd2 b (List.mem_of_getElem? hb), _, rfl, _, _, rfl, rfl, _, rfl, ?_⟩
          by_cases c2 : sq a.2.2 b.2.2 < near
          · refine if_true_of (decide_eq_true c2) ?_
            refine ⟨_, rfl, ?_⟩
            have hh : hit near a b = true := by
              unfold hit
              rw [decide_eq_true c1.1, decide_eq_true c1.2, decide_eq_true c2]
              rfl
            have e := meet_some hn ha (List.any_eq_true.mpr ⟨b, List.mem_of_getElem? hb, hh⟩)
            have q' := q _ s4
            rw [e] at q'
            exact q'
          · refine if_false_of (decide_eq_false c2) ?_
            refine ⟨_, _, _, rfl, s4, more ?_⟩
            unfold hit
            rw [decide_eq_false c2, Bool.and_false]
        · refine if_false_of (decide_eq_false (fun h => c1 ?_)) ?_
          · injection h with e1 e2
            injection e2 with e2 _
            exact ⟨Int.ofNat.inj e1, Int.ofNat.inj e2⟩
          · refine iteF ?_
            refine ⟨_, _, _, rfl, s4, more ?_⟩
            unfold hit
            by_cases c2 : a.1 = b.1
            · have c3 : ¬ a.2.1 = b.2.1 := fun h => c1 ⟨c2, h⟩
              rw [decide_eq_false c3, Bool.and_false, Bool.false_and]
            · rw [decide_eq_false c2, Bool.false_and, Bool.false_and]
      · rintro σ H2 ⟨v6, v7, v8, rfl, s2, hm⟩
        rw [paired_len hys, List.take_length] at hm
        exact ⟨_, _, _, _, _, _, rfl, s2, mem_take_more hn ha (any_take_all hm)⟩
    · rintro σ H1 ⟨v3, v4, v5, v6, v7, v8, rfl, s1, hn⟩
      rw [paired_len hxs, List.take_length] at hn
      have q' := q _ s1
      rw [meet_none hn] at q'
      exact q'
end
end Bal
/-! ### plans: too near -/
namespace Bal
open PySem PySem.Spec PyProof.Rows L2
/-- what is true of a field -/
structure Fine (f : Si93.Field) : Prop where
  rows : ∀ row ∈ f.winds, row.length = f.heights
  small : ∀ row ∈ f.winds, ∀ q ∈ row, q.1.natAbs ≤ 9 ∧ q.2.natAbs ≤ 9
  hours : f.winds.length ≤ 8
  bals : f.balloons.length ≤ 4
  flights : ∀ B ∈ f.balloons, (∀ x ∈ B.flight, x < f.heights) ∧ B.flight.length ≤ 5
  places : ∀ B ∈ f.balloons, B.at_.1.natAbs ≤ 100 ∧ B.at_.2.natAbs ≤ 100
  waits : f.waits ≤ 3
theorem Fine.fits {f : Si93.Field} (F : Fine f) {B : Si93.Balloon} (h : B ∈ f.balloons) : Fits f.heights f.winds B := ⟨F.rows, (F.flights B h).1, (F.flights B h).2⟩
theorem wind_small {ws : List (List Pl)} (h : ∀ row ∈ ws, ∀ q ∈ row, q.1.natAbs ≤ 9 ∧ q.2.natAbs ≤ 9) (t x : Nat) : (windAt ws t x).1.natAbs ≤ 9 ∧ (windAt ws t x).2.natAbs ≤ 9 := by
  unfold windAt
  rw [List.getD_eq_getElem?_getD, List.getD_eq_getElem?_getD]
  cases e : ws[t]? with
  | none =>
    have z : ((([] : List Pl)[x]?).getD (0, 0)) = (0, 0) := rfl
    show (((([] : List Pl)[x]?).getD (0, 0))).1.natAbs ≤ 9 ∧ (((([] : List Pl)[x]?).getD (0, 0))).2.natAbs ≤ 9
    rw [z]
    exact ⟨by decide, by decide⟩
  | some row =>
    show ((row[x]?).getD (0, 0)).1.natAbs ≤ 9 ∧ ((row[x]?).getD (0, 0)).2.natAbs ≤ 9
    cases e2 : row[x]? with
    | none => exact ⟨by decide, by decide⟩
    | some q => exact h row (List.mem_of_getElem? e) q (List.mem_of_getElem? e2)
theorem wy_small {ws : List (List Pl)} (h : ∀ row ∈ ws, ∀ q ∈ row, q.1.natAbs ≤ 9 ∧ q.2.natAbs ≤ 9) : ∀ (l : List Nat) (t c : Nat) (p : Pl), p.1.natAbs ≤ c → p.2.natAbs ≤ c → ∀ s ∈ wy ws t p l, s.2.2.1.natAbs ≤ c + 9 * l.length ∧ s.2.2.2.natAbs ≤ c + 9 * l.length
  | [], _, _, _, _, _, s, hs => by cases hs
  | x :: l, t, c, p, h1, h2, s, hs => by
    obtain ⟨w1, w2⟩ := wind_small h t x
    have m1 : (move ws t p x).1.natAbs ≤ c + 9 := by show (p.1 + (windAt ws t x).1).natAbs ≤ c + 9; omega
    have m2 : (move ws t p x).2.natAbs ≤ c + 9 := by show (p.2 + (windAt ws t x).2).natAbs ≤ c + 9; omega
    have hl : (x :: l).length = l.length + 1 := rfl
    rcases List.mem_cons.mp hs with rfl | hs
    · show (move ws t p x).1.natAbs ≤ _ ∧ (move ws t p x).2.natAbs ≤ _
      omega
    · obtain ⟨a, b⟩ := wy_small h l (t + 1) (c + 9) _ m1 m2 s hs
      omega
theorem Fine.bd {f : Si93.Field} (F : Fine f) {B : Si93.Balloon} (h : B ∈ f.balloons) (e : Nat) : ∀ s ∈ wy f.winds e B.at_ B.flight, Bd s.2.2 := fun s hs => by
  obtain ⟨p1, p2⟩ := F.places B h
  obtain ⟨a, b⟩ := wy_small F.small B.flight e 100 B.at_ p1 p2 s hs
  have hl := (F.flights B h).2
  exact ⟨by omega, by omega⟩
/-- all are down in time -/
def InTime (f : Si93.Field) (plan : List Nat) : Prop := ∀ x ∈ f.balloons.zip plan, x.2 + x.1.flight.length ≤ f.winds.length
def waysOf (f : Si93.Field) (plan : List Nat) : List (List Stp) := (f.balloons.zip plan).map fun x => wy f.winds x.2 x.1.at_ x.1.flight
def clash1 (ways : List (List Stp)) (near : Int) (k m : Nat) : List (List Int) := match meet (ways.getD k []) (ways.getD (k + 1 + m) []) near with
  | none => []
  | some t => [[(t : Int), (k : Int), ((k + 1 + m : Nat) : Int)]]
def clashIn (ways : List (List Stp)) (near : Int) (k n : Nat) : List (List Int) := (List.range n).flatMap (clash1 ways near k)
def clashTo (ways : List (List Stp)) (near : Int) (n : Nat) : List (List Int) := (List.range n).flatMap fun k => clashIn ways near k (ways.length - (k + 1))
def clashes (ways : List (List Stp)) (near : Int) : List (List Int) := clashTo ways near ways.length
theorem clashIn_succ (ways : List (List Stp)) (near : Int) (k n : Nat) : clashIn ways near k (n + 1) = clashIn ways near k n ++ clash1 ways near k n := by
  unfold clashIn
  rw [List.range_succ, List.flatMap_append]
  simp
theorem clashTo_succ (ways : List (List Stp)) (near : Int) (n : Nat) : clashTo ways near (n + 1) = clashTo ways near n ++ clashIn ways near n (ways.length - (n + 1)) := by
  unfold clashTo
  rw [List.range_succ, List.flatMap_append]
  simp
theorem clash1_len (ways : List (List Stp)) (near : Int) (k m : Nat) : (clash1 ways near k m).length ≤ 1 := by
  unfold clash1
  split
  · exact Nat.zero_le _
  · exact Nat.le_refl _
theorem clashIn_len (ways : List (List Stp)) (near : Int) (k : Nat) : ∀ n, (clashIn ways near k n).length ≤ n
  | 0 => by unfold clashIn; simp
  | n + 1 => by
    rw [clashIn_succ, List.length_append]
    have := clashIn_len ways near k n
    have := clash1_len ways near k n
    omega
theorem clashTo_len (ways : List (List Stp)) (near : Int) : ∀ n, (clashTo ways near n).length ≤ n * ways.length
  | 0 => by unfold clashTo; simp
  | n + 1 => by
    rw [clashTo_succ, List.length_append]
    have h1 := clashTo_len ways near n
    have h2 := clashIn_len ways near n (ways.length - (n + 1))
    rw [Nat.succ_mul]
    omega
theorem yes_if {A B : Hp → Prop} {σ : L2.St} {H : Hp} (h : A H) : tYes σ H fun b H3 => if b = true then A H3 else B H3 := by
  show if true = true then A H else B H
  rw [if_pos rfl]
  exact h
/-- at x a tuple of the ints k -/
def TupA (H : Hp) (x : V) (k : List Int) : Prop := ∃ t : Addr, x = .ref t ∧ H t = some (.tup (k.map V.int))
theorem TupA.toI {K : PySem.W.Frag} {H : Hp} {x : V} {k : List Int} (h : TupA H x k) : TupI K H x k := let ⟨t, a, b⟩ := h; ⟨t, a, SqT.of b⟩
theorem TupA.same {H H' : Hp} {x : V} {k : List Int} (e : Same H H') (h : TupA H x k) : TupA H' x k := let ⟨t, a, b⟩ := h; ⟨t, a, e _ _ b⟩
theorem TupA.upd2 {H : Hp} {q : Addr} {ys : List V} {o : HO} {x : V} {k : List Int} (hq : H q = some (.lst ys)) (h : TupA H x k) : TupA (upd H q o) x k := by
  obtain ⟨t, e, ht⟩ := h
  exact ⟨t, e, by rw [upd_ne (ne_of ht hq (by intro z; cases z))]; exact ht⟩
/-- at D a list of ways -/
def WayRef (D : Addr) (H : Hp) (x : V) (way : List Stp) : Prop := ∃ p, x = .ref p ∧ p ≠ D ∧ WayAt H p way
def WaysAt (H : Hp) (D : Addr) (ways : List (List Stp)) : Prop := ∃ xs : List V, H D = some (.lst xs) ∧ Paired (WayRef D H) xs ways
theorem WayRef.same {D : Addr} {H H' : Hp} {x : V} {way : List Stp} (e : Same H H') (h : WayRef D H x way) : WayRef D H' x way := let ⟨p, a, b, c⟩ := h; ⟨p, a, b, c.same e⟩
theorem WayRef.upd2 {D : Addr} {H : Hp} {ys : List V} {o : HO} {x : V} {way : List Stp} (hq : H D = some (.lst ys)) (h : WayRef D H x way) : WayRef D (upd H D o) x way := by
  obtain ⟨p, e, ne, xs, hx, hs⟩ := h
  exact ⟨p, e, ne, xs, by rw [upd_ne ne]; exact hx, paired_imp (fun _ _ => StepAt.upd2 hq) hs⟩
def spTooNear (CB CW : Addr) : Sp := fun vs H Q _ => ∃ (w h bs pl : Addr) (f : Si93.Field) (plan : List Nat), vs = [.ref w, .ref bs, .ref pl, .int (f.near : Int)] ∧ WindsAt CW H w h f.heights f.winds ∧ BalsAt CB H bs f.balloons ∧ H pl = some (.lst (nV plan)) ∧
  Fine f ∧ plan.length = f.balloons.length ∧ InTime f plan ∧
  ∀ H', Same H H' → (clashes (waysOf f plan) f.near = [] → Q .non H') ∧ ∀ y ys x, clashes (waysOf f plan) f.near = y :: ys → TupA H' x (minT y ys) → Q x H'
abbrev nNear : List Str := ["winds", "balloons", "plan", "near", "ways", "found", "k", "one", "j", "hour", "balloon", "waits"]
theorem scTooNear : FnScope nNear ["winds", "balloons", "plan", "near"] (defScope sTooNear) := ⟨rfl, rfl, rfl, by decide +kernel, rfl, by decide +kernel, by decide +kernel⟩
section
variable {P : Program} {w : World} {K : PySem.W.Frag} {mg : Str → Option Value} {base : Heap} {CB CW CD : Addr}
theorem ok_tooNear {f : Addr} {fd : FuncData} (F : Fun K "too_near" "too_near" sTooNear f fd) (T : Txt K mg CB CW CD) (G : Met P w K mg base 2 CW "way_of" (spWay CB CW)) (G2 : Cal P w K mg base 2 "meeting_of" spMeeting) :
    FnOk P w K mg base CX0 3 f fd ["winds", "balloons", "plan", "near"] (spTooNear CB CW) := by
  refine F.ok scTooNear (fun vs H Q E h => ?_) (fun cdv A outer s H vs Q E hr h => ?_)
  · obtain ⟨w, h, bs, pl, f, plan, rfl, _⟩ := h
    rfl
  · obtain ⟨w, h, bs, pl, f, plan, rfl, hW, hB, hpl, hF, hlen, hT, q⟩ := h
    refine ⟨_, pss_cons (ps_setLc (i := 4) (own := [("balloon", 10), ("waits", 11)]) (g := gTup K 2 (gCons (gName 10) (gCons (gName 11) gNil))) (tt := tYes) rfl scTooNear.nd rfl rfl (sw_true rfl rfl rfl (by decide +kernel))
        (pi_zip (by rfl) T.mZip (pa_cons (pv 1) (pa_cons (pv 2) pa_nil))) (blkOk_by (N := nNear) (sc := defScope sTooNear) (by decide +kernel))
        (fun _ _ _ _ _ => pg_tup rfl (pgs_cons (pg_name (i := 10) scTooNear.nd rfl (.inl rfl)) (pgs_cons (pg_name (i := 11) scTooNear.nd rfl (.inl rfl)) pgs_nil))) (fun _ _ _ _ _ => pts_nil)
        (fun _ _ _ _ _ => pe_mt G hr (by decide) (pv 0) (pa_cons (pv 10) (pa_cons (pv 11) pa_nil))))
      (pss_cons (ps_set (i := 5) scTooNear.nd rfl (.inl rfl) (pe_lst pa_nil))
      (pss_cons (ps_for PassesOwn.never rfl (pi_enum (by rfl) T.mEnum (pa_cons (pv 4) pa_nil)) (pg_tup rfl (pgs_cons (pg_name (i := 6) scTooNear.nd rfl (.inl rfl)) (pgs_cons (pg_name (i := 7) scTooNear.nd rfl (.inl rfl)) pgs_nil)))
        (pss_one (ps_for PassesOwn.never rfl (pi_range2 (by rfl) T.mRange (pa_cons (pe_op op_add (pv 6) pe_int) (pa_cons (pe_callB call_len_seq (by rfl) T.mLen PySem.boot_len (pa_cons (pv 4) pa_nil)) pa_nil))) (pg_name (i := 8) scTooNear.nd rfl (.inl rfl))
          (pss_cons (ps_set (i := 9) scTooNear.nd rfl (.inl rfl) (pe_c G2 hr (by decide) (by rfl) (pa_cons (pv 7) (pa_cons (pe_ix ix_list (pv 4) (pv 8) (fun _ _ => rfl)) (pa_cons (pv 3) pa_nil)))))
          (pss_one (ps_if (pt_cmp (pc_notN (pv 9))) (pss_one (ps_expr (pe_bm PySem.F.plainAttrs_list PySem.F.slot_list_append PySem.F.type_list_append mt_append (pv 5) (pa_cons (pe_tup (pa_cons (pv 9) (pa_cons (pv 6) (pa_cons (pv 8) pa_nil)))) pa_nil)))) pss_nil))))))
      (pss_one (ps_ret (pe_callBK (cr_minTD rfl hr.units) (by rfl) T.mMin (by decide +kernel) (pa_cons (pv 5) pa_nil) (pk_cons pe_non pk_nil)))))), ?_⟩
    obtain ⟨bxs, hbs, hbp⟩ := id hB
    have hbl := paired_len hbp
    refine ⟨_, rfl, _, rfl, bs, pl, bxs, nV plan, rfl, SqL.of hbs, SqL.of hpl, fun D nD => lc_it (walk_zip (n := f.balloons.length) (by rw [nV_len, hbl, hlen]; exact (Nat.min_self _).symm)) (fun i H' => Same H H' ∧ WaysAt H' D ((waysOf f plan).take i))
      ⟨same_upd nD, [], upd_same, .nil⟩ (fun i H' _ hp => ⟨SqL.of (hp.1 _ _ hbs), SqL.of (hp.1 _ _ hpl)⟩) ?_ ?_⟩
    · -- one way more
      rintro i x H1 H2 hi ⟨s1, xs, hD, hxs⟩ ⟨T', x', y', rfl, nT, rfl, ex, ey⟩
      obtain ⟨B, hB1, a, rfl, hBa⟩ := paired_get1 hbp ex
      obtain ⟨e, he, rfl⟩ := of_nV ey
      have hz : (f.balloons.zip plan)[i]? = some (B, e) := List.getElem?_zip_eq_some.mpr ⟨hB1, he⟩
      have s2 : Same H1 (upd H1 T' (.tup [.ref a, .int (e : Int)])) := same_upd nT
      obtain ⟨dw, hw⟩ := hW.1
      refine ⟨T', _, rfl, SqT.of upd_same, rfl, _, _, rfl, _, _, rfl, rfl, rfl, ?_⟩
      refine yes_if ?_
      refine ⟨_, rfl, w, dw, _, rfl, s2 _ _ (s1 _ _ hw), lW_none (by decide +kernel) (by decide +kernel), _, rfl, _, rfl, ?_⟩
      refine ⟨w, h, a, f.heights, e, f.winds, B, rfl, (hW.same s1).same s2, (hBa.same s1).same s2, hF.fits (List.mem_of_getElem? hB1), hT _ (List.mem_of_getElem? hz), fun H3 p s3 np hp => ?_⟩
      have hD2 := s2 _ _ hD
      have hD3 := s3 _ _ hD2
      have hl : xs.length ≤ 4 := by
        rw [paired_len hxs, List.length_take]
        exact Nat.le_trans (Nat.min_le_left _ _) (Nat.le_trans (Nat.le_of_lt hi) hF.bals)
      refine ⟨xs, hD3, Nat.lt_of_le_of_lt hl (by decide), Same.upd2 ((s1.trans s2).trans s3) nD, xs ++ [.ref p], upd_same, ?_⟩
      have hm : (waysOf f plan)[i]? = some (wy f.winds e B.at_ B.flight) := by
        unfold waysOf
        rw [List.getElem?_map, hz]
        rfl
      rw [take_more hm]
      have pD : p ≠ D := fun z => by rw [z, hD2] at np; cases np
      exact paired_app (paired_imp (fun _ _ hs => ((hs.same s2).same s3).upd2 hD3) hxs) (paired_one (WayRef.upd2 hD3 ⟨p, rfl, pD, hp⟩))
    · -- found = []
      rintro Hc ⟨s1, hways⟩
      have hwl : (waysOf f plan).length = f.balloons.length := by
        unfold waysOf
        rw [List.length_map, List.length_zip, hlen]
        exact Nat.min_self _
      rw [← hwl, List.take_length] at hways
      obtain ⟨xs, hD, hxs⟩ := id hways
      have hxl := paired_len hxs
      have hbd : ∀ (k : Nat) (way : List Stp), (waysOf f plan)[k]? = some way → ∀ s ∈ way, Bd s.2.2 := fun k way hk => by
        unfold waysOf at hk
        rw [List.getElem?_map] at hk
        cases hz : (f.balloons.zip plan)[k]? with
        | none => rw [hz] at hk; cases hk
        | some be =>
          obtain ⟨B, e0⟩ := be
          rw [hz] at hk
          have e := Option.some.inj hk
          subst e
          exact hF.bd (List.of_mem_zip (List.mem_of_getElem? hz)).1 e0
      refine ⟨Nat.zero_le _, fun fo nfo => ?_⟩
      have sf := same_upd (o := .lst []) nfo
      refine ⟨_, rfl, D, xs, rfl, SqL.of (sf _ _ hD), for_it walk_enum (fun i σ H' => ∃ v6 v7 v8 v9 acc, σ = [some (.ref w), some (.ref bs), some (.ref pl), some (.int (f.near : Int)), some (.ref D), some (.ref fo), v6, v7, v8, v9, none, none] ∧ Same Hc H' ∧ H' fo = some (.lst acc) ∧ Paired (TupA H') acc (clashTo (waysOf f plan) f.near i))
        ⟨none, none, none, none, [], rfl, sf, upd_same, .nil⟩ (fun i σ H' _ ⟨_, _, _, _, _, _, s2, _⟩ => SqL.of (s2 _ _ hD)) ?_ ?_⟩
      · rintro i x σ H1 H2 hi ⟨v6, v7, v8, v9, acc, rfl, s2, hfo, hacc⟩ ⟨T', x', y', rfl, nT, rfl, ex, ey⟩
        obtain rfl : V.int (i : Nat) = x' := Option.some.inj ex
        obtain ⟨way, hway, p, rfl, pD, hp⟩ := paired_get1 hxs ey
        have s3 : Same H1 (upd H1 T' (.tup [.int (i : Nat), .ref p])) := same_upd nT
        rw [hxl, hwl] at hi
        have h4 := hF.bals
        refine ⟨T', _, rfl, SqT.of upd_same, rfl, _, _, rfl, _, _, rfl, rfl, ?_⟩
        refine ⟨_, rfl, _, _, rfl, rfl, _, rfl, D, xs, rfl, .inl (SqL.of (s3 _ _ (s2 _ _ hD))), _, _, rfl, ⟨by omega, by omega, by omega, by omega⟩, ?_⟩
        refine for_range (lo := (i : Int) + 1) (n := ((xs.length : Int) - ((i : Int) + 1)).toNat) (fun m σ H' => ∃ v8 v9 acc, σ = [some (.ref w), some (.ref bs), some (.ref pl), some (.int (f.near : Int)), some (.ref D), some (.ref fo), some (.int (i : Nat)), some (.ref p), v8, v9, none, none] ∧ Same Hc H' ∧ H' fo = some (.lst acc) ∧
            Paired (TupA H') acc (clashTo (waysOf f plan) f.near i ++ clashIn (waysOf f plan) f.near i m))
          ⟨v8, v9, acc, rfl, s2.trans s3, s3 _ _ hfo, ?_⟩ ?_ ?_
        · unfold clashIn
          rw [List.range_zero, List.flatMap_nil, List.append_nil]
          exact paired_imp (fun _ _ => TupA.same s3) hacc
        · rintro m σ H3 hm ⟨v8, v9, acc, rfl, s4, hfo3, hacc3⟩
          have hj : i + 1 + m < (waysOf f plan).length := by omega
          have ej : (i : Int) + 1 + (m : Int) = ((i + 1 + m : Nat) : Int) := by omega
          obtain ⟨way2, hway2⟩ : ∃ w2, (waysOf f plan)[i + 1 + m]? = some w2 := ⟨_, List.getElem?_eq_getElem hj⟩
          obtain ⟨v, hv, p2, rfl, p2D, hp2⟩ := paired_get hxs hway2
          refine ⟨_, rfl, _, rfl, _, rfl, D, xs, _, _, rfl, rfl, SqL.of (s4 _ _ hD), at_of ej hv, _, rfl, ?_⟩
          refine ⟨p, p2, way, way2, f.near, rfl, hp.same s4, hp2.same s4, hbd i way hway, hbd _ way2 hway2, fun H4 s5 => ?_⟩
          have e1 : (waysOf f plan).getD i [] = way := by rw [List.getD_eq_getElem?_getD, hway]; rfl
          have e2 : (waysOf f plan).getD (i + 1 + m) [] = way2 := by rw [List.getD_eq_getElem?_getD, hway2]; rfl
          have s6 := s4.trans s5
          have hfo4 := s5 _ _ hfo3
          cases hmt : meet way way2 f.near with
          | none =>
            refine ⟨_, rfl, _, rfl, iteF ?_⟩
            refine ⟨_, _, acc, rfl, s6, hfo4, ?_⟩
            have ec : clash1 (waysOf f plan) f.near i m = [] := by
              unfold clash1
              rw [e1, e2, hmt]
            rw [clashIn_succ, ec, List.append_nil]
            exact paired_imp (fun _ _ => TupA.same s5) hacc3
          | some t =>
            refine ⟨_, rfl, _, rfl, iteT ?_⟩
            refine ⟨_, rfl, .inl ⟨rfl, _, SqL.of hfo4⟩, _, rfl, _, rfl, _, rfl, (by show 3 ≤ sizeLine; decide), fun r nr => ?_⟩
            have s7 := same_upd (o := .tup [.int (t : Int), .int (i : Nat), .int ((i : Int) + 1 + (m : Int))]) nr
            have hfo5 := s7 _ _ hfo4
            have hal : acc.length ≤ 100 := by
              rw [paired_len hacc3, List.length_append]
              have a1 := clashTo_len (waysOf f plan) f.near i
              have a2 := clashIn_len (waysOf f plan) f.near i m
              have a3 : i * (waysOf f plan).length ≤ 4 * 4 := Nat.mul_le_mul (by omega) (by omega)
              omega
            refine ⟨fo, acc, _, rfl, rfl, hfo5, Nat.lt_of_le_of_lt hal (by decide), ?_⟩
            refine ⟨_, _, acc ++ [.ref r], rfl, Same.upd2 (s6.trans s7) nfo, upd_same, ?_⟩
            have ec : clash1 (waysOf f plan) f.near i m = [[(t : Int), (i : Int), ((i + 1 + m : Nat) : Int)]] := by
              unfold clash1
              rw [e1, e2, hmt]
            rw [clashIn_succ, ec, ← List.append_assoc]
            refine paired_app (paired_imp (fun _ _ ht => ((ht.same s5).same s7).upd2 hfo5) hacc3) (paired_one (TupA.upd2 hfo5 ⟨r, rfl, ?_⟩))
            rw [← ej]
            exact upd_same
        · rintro σ H3 ⟨v8, v9, acc, rfl, s4, hfo3, hacc3⟩
          refine ⟨_, _, _, _, acc, rfl, s4, hfo3, ?_⟩
          rw [clashTo_succ]
          have en : ((xs.length : Int) - ((i : Int) + 1)).toNat = (waysOf f plan).length - (i + 1) := by omega
          rw [en] at hacc3
          exact hacc3
      · rintro σ H1 ⟨v6, v7, v8, v9, acc, rfl, s2, hfo, hacc⟩
        rw [hxl] at hacc
        obtain ⟨q1, q2⟩ := q H1 (s1.trans s2)
        refine ⟨_, rfl, fo, acc, clashes (waysOf f plan) f.near, .non, rfl, rfl, SqL.of hfo, paired_imp (fun _ _ => TupA.toI) hacc, q1, fun y ys i x e hx hk => q2 y ys x e ?_⟩
        obtain ⟨k, hk', ht⟩ := paired_get1 hacc hx
        have hk2 : (clashes (waysOf f plan) f.near)[i]? = some k := hk'
        rw [hk] at hk2
        cases hk2
        exact ht
end
end Bal
/-! ### plans: too late, can be, all down -/
namespace Bal
open PySem PySem.Spec PyProof.Rows L2
/-- too late at a place -/
def lateP (f : Si93.Field) (plan : List Nat) (i : Nat) : Bool := decide (f.winds.length < plan.getD i 0 + (f.balloon i).flight.length)
theorem late_none {f : Si93.Field} {plan : List Nat} (h : ∀ j, j < f.balloons.length → lateP f plan j = false) : f.late plan = none := by
  show (List.range f.balloons.length).find? (lateP f plan) = none
  rw [List.find?_range_eq_none]
  intro j hj
  rw [h j hj]
  rfl
theorem late_some {f : Si93.Field} {plan : List Nat} {i : Nat} (h : ∀ j, j < i → lateP f plan j = false) (hi : i < f.balloons.length) (hp : lateP f plan i = true) : f.late plan = some i := by
  show (List.range f.balloons.length).find? (lateP f plan) = some i
  rw [List.find?_range_eq_some]
  exact ⟨hp, List.mem_range.mpr hi, fun j hj => by rw [h j hj]; rfl⟩
theorem lateP_at {f : Si93.Field} {plan : List Nat} {i : Nat} {B : Si93.Balloon} {e : Nat} (hB : f.balloons[i]? = some B) (he : plan[i]? = some e) : lateP f plan i = decide (f.winds.length < e + B.flight.length) := by
  unfold lateP Si93.Field.balloon
  rw [List.getD_eq_getElem?_getD, List.getD_eq_getElem?_getD, hB, he]
  rfl
theorem inTime_of {f : Si93.Field} {plan : List Nat} (h : f.late plan = none) : InTime f plan := by
  intro x hx
  obtain ⟨i, hi⟩ := List.getElem?_of_mem hx
  obtain ⟨h1, h2⟩ := List.getElem?_zip_eq_some.mp hi
  have h' : (List.range f.balloons.length).find? (lateP f plan) = none := h
  rw [List.find?_range_eq_none] at h'
  have hl := h' i (List.getElem?_eq_some_iff.mp h1).1
  rw [lateP_at h1 h2] at hl
  have : ¬ f.winds.length < x.2 + x.1.flight.length := fun c => by
    rw [decide_eq_true c] at hl
    cases hl
  omega
def okP (f : Si93.Field) (plan : List Nat) : Bool := (f.late plan).isNone && (clashes (waysOf f plan) f.near).isEmpty
def downs (f : Si93.Field) (plan : List Nat) : List Nat := (f.balloons.zip plan).map fun x => x.2 + x.1.flight.length
theorem range_at {n i : Nat} (h : i < n) : (List.range n)[i]? = some i := by
  rw [List.getElem?_eq_getElem (by rw [List.length_range]; exact h), List.getElem_range]
theorem downs_eq {f : Si93.Field} {plan : List Nat} (h : plan.length = f.balloons.length) : downs f plan = (List.range f.count).map fun i => plan.getD i 0 + (f.balloon i).flight.length := by
  apply List.ext_getElem?
  intro i
  unfold downs
  rw [List.getElem?_map, List.getElem?_map]
  by_cases hi : i < f.balloons.length
  · have h1 : (f.balloons.zip plan)[i]? = some (f.balloons[i], plan[i]'(by rw [h]; exact hi)) := List.getElem?_zip_eq_some.mpr ⟨List.getElem?_eq_getElem hi, List.getElem?_eq_getElem _⟩
    rw [h1, range_at (n := f.count) hi]
    refine congrArg some ?_
    show _ = plan.getD i 0 + (f.balloons.getD i ⟨(0, 0), []⟩).flight.length
    rw [List.getD_eq_getElem?_getD, List.getD_eq_getElem?_getD, List.getElem?_eq_getElem hi, List.getElem?_eq_getElem (by rw [h]; exact hi)]
    rfl
  · have h1 : (f.balloons.zip plan)[i]? = none := List.getElem?_eq_none (by rw [List.length_zip, h, Nat.min_self]; omega)
    have h2 : (List.range f.count)[i]? = none := List.getElem?_eq_none (by rw [List.length_range]; show f.balloons.length ≤ i; omega)
    rw [h1, h2]
    rfl
theorem down_eq {f : Si93.Field} {plan : List Nat} (h : plan.length = f.balloons.length) : f.down plan = (downs f plan).foldl max 0 := by
  rw [downs_eq h]
  rfl
theorem max_ints : ∀ (l : List Nat) (a : Nat), (Si93.ints l).foldl (fun a y => if PySem.W.DatumOrd.lt a y = true then y else a) (a : Int) = ((l.foldl max a : Nat) : Int)
  | [], a => rfl
  | b :: l, a => by
    show (Si93.ints l).foldl _ (if decide ((a : Int) < (b : Int)) = true then (b : Int) else (a : Int)) = ((l.foldl max (max a b) : Nat) : Int)
    rw [← max_ints l (max a b)]
    congr 1
    by_cases c : a < b
    · rw [decide_eq_true (by omega), if_pos rfl]
      omega
    · rw [decide_eq_false (by omega), if_neg (by decide)]
      omega
def spTooLate (CB CW : Addr) : Sp := fun vs H Q _ => ∃ (w h bs pl : Addr) (f : Si93.Field) (plan : List Nat), vs = [.ref w, .ref bs, .ref pl] ∧ WindsAt CW H w h f.heights f.winds ∧ BalsAt CB H bs f.balloons ∧ H pl = some (.lst (nV plan)) ∧
  plan.length = f.balloons.length ∧ ∀ H', Same H H' → Q (oV (f.late plan)) H'
def spCanBe (CB CW : Addr) : Sp := fun vs H Q _ => ∃ (w h bs pl : Addr) (f : Si93.Field) (plan : List Nat), vs = [.ref w, .ref bs, .ref pl, .int (f.near : Int)] ∧ WindsAt CW H w h f.heights f.winds ∧ BalsAt CB H bs f.balloons ∧ H pl = some (.lst (nV plan)) ∧
  Fine f ∧ plan.length = f.balloons.length ∧ ∀ H', Same H H' → Q (.bl (okP f plan)) H'
def spAllDown (CB : Addr) : Sp := fun vs H Q _ => ∃ (bs pl : Addr) (f : Si93.Field) (plan : List Nat), vs = [.ref bs, .ref pl] ∧ BalsAt CB H bs f.balloons ∧ H pl = some (.lst (nV plan)) ∧
  f.balloons.length ≤ 4 ∧ plan.length = f.balloons.length ∧ ∀ H', Same H H' → Q (.int (f.down plan : Int)) H'
theorem scTooLate : FnScope ["winds", "balloons", "plan", "k", "balloon", "waits"] ["winds", "balloons", "plan"] (defScope sTooLate) := ⟨rfl, rfl, rfl, by decide +kernel, rfl, by decide +kernel, by decide +kernel⟩
theorem scCanBe : FnScope ["winds", "balloons", "plan", "near"] ["winds", "balloons", "plan", "near"] (defScope sCanBe) := ⟨rfl, rfl, rfl, by decide +kernel, rfl, by decide +kernel, by decide +kernel⟩
abbrev nDown : List Str := ["balloons", "plan", "balloon", "waits"]
theorem scAllDown : FnScope nDown ["balloons", "plan"] (defScope sAllDown) := ⟨rfl, rfl, rfl, by decide +kernel, rfl, by decide +kernel, by decide +kernel⟩
section
variable {P : Program} {w : World} {K : PySem.W.Frag} {mg : Str → Option Value} {base : Heap} {CB CW CD : Addr}
theorem ok_tooLate {f : Addr} {fd : FuncData} (F : Fun K "too_late" "too_late" sTooLate f fd) (T : Txt K mg CB CW CD) (G : Met P w K mg base 1 CB "down_behind" (spDown CB)) (G2 : Met P w K mg base 1 CW "many_hours" (spMany CW)) :
    FnOk P w K mg base CX0 2 f fd ["winds", "balloons", "plan"] (spTooLate CB CW) := by
  refine F.ok scTooLate (fun vs H Q E h => ?_) (fun cdv A outer s H vs Q E hr h => ?_)
  · obtain ⟨w, h, bs, pl, f, plan, rfl, _⟩ := h
    rfl
  · obtain ⟨w, h, bs, pl, f, plan, rfl, hW, hB, hpl, hlen, q⟩ := h
    refine ⟨_, pss_cons (ps_for PassesOwn.never rfl (pi_ez (by rfl) T.mEnum (by rfl) T.mZip (pa_cons (pv 1) (pa_cons (pv 2) pa_nil)))
        (pg_tup rfl (pgs_cons (pg_name (i := 3) scTooLate.nd rfl (.inl rfl)) (pgs_cons (pg_tup rfl (pgs_cons (pg_name (i := 4) scTooLate.nd rfl (.inl rfl)) (pgs_cons (pg_name (i := 5) scTooLate.nd rfl (.inl rfl)) pgs_nil))) pgs_nil)))
        (pss_one (ps_if (pt_cmp (pc_gt (pe_mt G hr (by decide) (pv 4) (pa_cons (pv 5) pa_nil)) (pe_mt0 G2 hr (by decide) (pv 0)))) (pss_one (ps_ret (pv 3))) pss_nil)))
      (pss_one (ps_ret pe_non)), ?_⟩
    obtain ⟨bxs, hbs, hbp⟩ := id hB
    have hbl := paired_len hbp
    refine ⟨_, rfl, _, rfl, bs, pl, bxs, nV plan, rfl, SqL.of hbs, SqL.of hpl, for_it (walk_ez (n := f.balloons.length) (by rw [nV_len, hbl, hlen]; exact (Nat.min_self _).symm)) (fun i σ H' => ∃ v3 v4 v5, σ = [some (.ref w), some (.ref bs), some (.ref pl), v3, v4, v5] ∧ Same H H' ∧ ∀ j, j < i → lateP f plan j = false)
      ⟨none, none, none, rfl, Same.refl H, fun j hj => absurd hj (Nat.not_lt_zero j)⟩ (fun i σ H' _ ⟨_, _, _, _, s1, _⟩ => ⟨SqL.of (s1 _ _ hbs), SqL.of (s1 _ _ hpl)⟩) ?_ ?_⟩
    · rintro i x σ H1 H2 hi ⟨v3, v4, v5, rfl, s1, hn⟩ ⟨T', U, x', y', rfl, nT, nU, UT, rfl, ex, ey⟩
      obtain ⟨B, hB1, a, rfl, hBa⟩ := paired_get1 hbp ex
      obtain ⟨e, he, rfl⟩ := of_nV ey
      have s2 : Same H1 (upd H1 T' (.tup [.ref a, .int (e : Int)])) := same_upd nT
      have s3 : Same (upd H1 T' (.tup [.ref a, .int (e : Int)])) (upd (upd H1 T' (.tup [.ref a, .int (e : Int)])) U (.tup [.int (i : Nat), .ref T'])) := same_upd (by rw [upd_ne UT]; exact nU)
      have s4 := (s1.trans s2).trans s3
      obtain ⟨db, lb, hb1, hb2⟩ := id (hBa.same s4)
      obtain ⟨dw, hw⟩ := (hW.same s4).1
      refine ⟨U, _, rfl, SqT.of upd_same, rfl, _, _, rfl, _, _, rfl, T', _, rfl, SqT.of (s3 _ _ upd_same), rfl, _, _, rfl, _, _, rfl, rfl, rfl, ?_⟩
      refine ⟨_, rfl, a, db, _, rfl, hb1, lB_down, _, rfl, ?_⟩
      refine ⟨a, B, e, rfl, hBa.same s4, ?_⟩
      refine ⟨_, rfl, w, dw, _, rfl, hw, lW_none (by decide +kernel) (by decide +kernel), ?_⟩
      refine ⟨w, h, f.heights, f.winds, rfl, hW.same s4, ?_⟩
      have e1 := lateP_at hB1 he
      by_cases c : f.winds.length < e + B.flight.length
      · refine ⟨_, _, rfl, rfl, _, rfl, if_true_of (decide_eq_true (by omega)) ?_⟩
        refine ⟨_, rfl, ?_⟩
        rw [decide_eq_true c] at e1
        have q' := q _ s4
        rw [late_some hn hi e1] at q'
        exact q'
      · refine ⟨_, _, rfl, rfl, _, rfl, if_false_of (decide_eq_false (by omega)) ?_⟩
        refine ⟨_, _, _, rfl, s4, fun j hj => ?_⟩
        rcases Nat.lt_succ_iff_lt_or_eq.mp hj with hj | rfl
        · exact hn j hj
        · rw [e1, decide_eq_false c]
    · rintro σ H1 ⟨v3, v4, v5, rfl, s1, hn⟩
      have q' := q _ s1
      rw [late_none hn] at q'
      exact q'
theorem ok_canBe {f : Addr} {fd : FuncData} (F : Fun K "can_be" "can_be" sCanBe f fd) (G : Cal P w K mg base 2 "too_late" (spTooLate CB CW)) (G2 : Cal P w K mg base 3 "too_near" (spTooNear CB CW)) :
    FnOk P w K mg base CX0 4 f fd ["winds", "balloons", "plan", "near"] (spCanBe CB CW) := by
  refine F.ok scCanBe (fun vs H Q E h => ?_) (fun cdv A outer s H vs Q E hr h => ?_)
  · obtain ⟨w, h, bs, pl, f, plan, rfl, _⟩ := h
    rfl
  · obtain ⟨w, h, bs, pl, f, plan, rfl, hW, hB, hpl, hF, hlen, q⟩ := h
    refine ⟨_, pss_one (ps_ret (pe_and (pe_cmp (pc_isN (pe_c G hr (by decide) (by rfl) (pa_cons (pv 0) (pa_cons (pv 1) (pa_cons (pv 2) pa_nil)))))) (pe_one (pe_cmp (pc_isN (pe_c G2 hr (by decide) (by rfl) (pa_cons (pv 0) (pa_cons (pv 1) (pa_cons (pv 2) (pa_cons (pv 3) pa_nil)))))))))), ?_⟩
    refine ⟨_, rfl, _, rfl, _, rfl, w, h, bs, pl, f, plan, rfl, hW, hB, hpl, hlen, fun H1 s1 => ?_⟩
    refine ⟨_, rfl, ?_⟩
    cases hl : f.late plan with
    | some i =>
      refine if_false_of rfl ?_
      have q' := q _ s1
      unfold okP at q'
      rw [hl] at q'
      exact q'
    | none =>
      refine if_true_of rfl ?_
      refine ⟨_, rfl, _, rfl, _, rfl, _, rfl, w, h, bs, pl, f, plan, rfl, hW.same s1, hB.same s1, s1 _ _ hpl, hF, hlen, inTime_of hl, fun H2 s2 => ⟨fun e => ?_, fun y ys x e hx => ?_⟩⟩
      · have q' := q _ (s1.trans s2)
        unfold okP at q'
        rw [hl, e] at q'
        exact q'
      · have q' := q _ (s1.trans s2)
        unfold okP at q'
        rw [hl, e] at q'
        obtain ⟨t, rfl, _⟩ := hx
        exact q'
theorem ok_allDown {f : Addr} {fd : FuncData} (F : Fun K "all_down" "all_down" sAllDown f fd) (T : Txt K mg CB CW CD) (G : Met P w K mg base 1 CB "down_behind" (spDown CB)) :
    FnOk P w K mg base CX0 2 f fd ["balloons", "plan"] (spAllDown CB) := by
  refine F.ok scAllDown (fun vs H Q E h => ?_) (fun cdv A outer s H vs Q E hr h => ?_)
  · obtain ⟨bs, pl, f, plan, rfl, _⟩ := h
    rfl
  · obtain ⟨bs, pl, f, plan, rfl, hB, hpl, h4, hlen, q⟩ := h
    refine ⟨_, pss_one (ps_ret (pe_callBK (cr_maxID rfl hr.units) (by rfl) T.mMax (by decide +kernel) (pa_cons (pe_lc (own := [("balloon", 2), ("waits", 3)]) (g := gTup K 2 (gCons (gName 2) (gCons (gName 3) gNil))) (tt := tYes) rfl scAllDown.nd
        (pi_zip (by rfl) T.mZip (pa_cons (pv 0) (pa_cons (pv 1) pa_nil))) (blkOk_by (N := nDown) (sc := defScope sAllDown) (by decide +kernel))
        (fun _ _ _ _ _ => pg_tup rfl (pgs_cons (pg_name (i := 2) scAllDown.nd rfl (.inl rfl)) (pgs_cons (pg_name (i := 3) scAllDown.nd rfl (.inl rfl)) pgs_nil))) (fun _ _ _ _ _ => pts_nil)
        (fun _ _ _ _ _ => pe_mt G hr (by decide) (pv 2) (pa_cons (pv 3) pa_nil))) pa_nil) (pk_cons pe_int pk_nil))), ?_⟩
    obtain ⟨bxs, hbs, hbp⟩ := id hB
    have hbl := paired_len hbp
    have hdl : (downs f plan).length = f.balloons.length := by
      unfold downs
      rw [List.length_map, List.length_zip, hlen]
      exact Nat.min_self _
    refine ⟨_, rfl, _, rfl, bs, pl, bxs, nV plan, rfl, SqL.of hbs, SqL.of hpl, fun D nD => lc_it (walk_zip (n := f.balloons.length) (by rw [nV_len, hbl, hlen]; exact (Nat.min_self _).symm)) (fun i H' => Same H H' ∧ H' D = some (.lst (nV ((downs f plan).take i))))
      ⟨same_upd nD, by rw [List.take_zero]; exact upd_same⟩ (fun i H' _ hp => ⟨SqL.of (hp.1 _ _ hbs), SqL.of (hp.1 _ _ hpl)⟩) ?_ ?_⟩
    · rintro i x H1 H2 hi ⟨s1, hD⟩ ⟨T', x', y', rfl, nT, rfl, ex, ey⟩
      obtain ⟨B, hB1, a, rfl, hBa⟩ := paired_get1 hbp ex
      obtain ⟨e, he, rfl⟩ := of_nV ey
      have s2 : Same H1 (upd H1 T' (.tup [.ref a, .int (e : Int)])) := same_upd nT
      obtain ⟨db, lb, hb1, hb2⟩ := id ((hBa.same s1).same s2)
      refine ⟨T', _, rfl, SqT.of upd_same, rfl, _, _, rfl, _, _, rfl, rfl, rfl, ?_⟩
      refine yes_if ?_
      refine ⟨_, rfl, a, db, _, rfl, hb1, lB_down, _, rfl, ?_⟩
      refine ⟨a, B, e, rfl, (hBa.same s1).same s2, ?_⟩
      have hD2 := s2 _ _ hD
      refine ⟨_, hD2, ?_, Same.upd2 (s1.trans s2) nD, ?_⟩
      · rw [nV_len, List.length_take]
        exact Nat.lt_of_le_of_lt (Nat.min_le_right _ _) (Nat.lt_of_le_of_lt (by rw [hdl]; exact h4) (by decide))
      · have hm : (downs f plan)[i]? = some (e + B.flight.length) := by
          have hz : (f.balloons.zip plan)[i]? = some (B, e) := List.getElem?_zip_eq_some.mpr ⟨hB1, he⟩
          unfold downs
          rw [List.getElem?_map, hz]
          rfl
        rw [take_more hm, nV_append]
        exact upd_same
    · rintro Hc ⟨s1, hD⟩
      rw [← hdl, List.take_length] at hD
      refine ⟨D, Si93.ints (downs f plan), _, rfl, rfl, SqL.of hD, fun e => ?_, fun y ys e => ?_⟩
      · have q' := q _ s1
        rw [down_eq hlen] at q'
        cases hd : downs f plan with
        | nil =>
          rw [hd] at q'
          exact q'
        | cons a l => rw [hd] at e; cases e
      · have q' := q _ s1
        rw [down_eq hlen] at q'
        cases hd : downs f plan with
        | nil => rw [hd] at e; cases e
        | cons a l =>
          rw [hd] at e q'
          cases e
          show Q (.int (PySem.W.maxOf (a : Int) (Si93.ints l))) Hc
          have em : PySem.W.maxOf (a : Int) (Si93.ints l) = ((l.foldl max a : Nat) : Int) := max_ints l a
          rw [em]
          have z : max 0 a = a := Nat.zero_max a
          rw [List.foldl_cons, z] at q'
          exact q'
end
end Bal
/-! ### plans: all, that can be, the least -/
namespace Bal
open PySem PySem.Spec PyProof.Rows L2
/-- rows of numbers, one more behind -/
theorem rows_behind (k : Nat) : ∀ n, (Si93.rows k n).flatMap (fun l => (List.range (k + 1)).map fun t => l ++ [t]) = Si93.rows k (n + 1)
  | 0 => by
    show ([[]] : List (List Nat)).flatMap _ = (List.range (k + 1)).flatMap fun t => ([[]] : List (List Nat)).map fun l => t :: l
    rw [List.flatMap_cons, List.flatMap_nil, List.append_nil]
    show (List.range (k + 1)).map (fun t => [t]) = (List.range (k + 1)).flatMap fun t => [[t]]
    generalize List.range (k + 1) = r
    induction r with
    | nil => rfl
    | cons a r ih => rw [List.map_cons, List.flatMap_cons, ih]; rfl
  | n + 1 => by
    show ((List.range (k + 1)).flatMap fun t => (Si93.rows k n).map fun l => t :: l).flatMap _ = (List.range (k + 1)).flatMap fun t => (Si93.rows k (n + 1)).map fun l => t :: l
    rw [List.flatMap_assoc]
    congr 1
    funext t
    rw [← rows_behind k n, List.flatMap_map, List.map_flatMap]
    congr 1
    funext l
    rw [List.map_map]
    rfl
theorem rows_len (k : Nat) : ∀ n, ∀ l ∈ Si93.rows k n, l.length = n
  | 0, l, h => by
    rw [List.mem_singleton.mp h]
    rfl
  | n + 1, l, h => by
    obtain ⟨t, _, h⟩ := List.mem_flatMap.mp h
    obtain ⟨l', h', rfl⟩ := List.mem_map.mp h
    rw [List.length_cons, rows_len k n l' h']
theorem rows_count (k : Nat) : ∀ n, (Si93.rows k n).length = (k + 1) ^ n
  | 0 => rfl
  | n + 1 => by
    show ((List.range (k + 1)).flatMap fun t => (Si93.rows k n).map fun l => t :: l).length = _
    have ih := rows_count k n
    have : ∀ r : List Nat, (r.flatMap fun t => (Si93.rows k n).map fun l => t :: l).length = r.length * (k + 1) ^ n := by
      intro r
      induction r with
      | nil => simp
      | cons a r ihr => rw [List.flatMap_cons, List.length_append, ihr, List.length_map, ih, List.length_cons, Nat.succ_mul]; omega
    rw [this, List.length_range, Nat.pow_succ, Nat.mul_comm]
theorem rows_le {k n : Nat} (hk : k ≤ 3) (hn : n ≤ 4) : (Si93.rows k n).length ≤ 256 := by
  rw [rows_count]
  calc (k + 1) ^ n ≤ 4 ^ n := Nat.pow_le_pow_left (by omega) n
    _ ≤ 4 ^ 4 := Nat.pow_le_pow_right (by omega) hn
    _ = 256 := rfl
/-- lists of plans -/
def PlanRef (D : Addr) (H : Hp) (x : V) (l : List Nat) : Prop := ∃ p, x = .ref p ∧ p ≠ D ∧ H p = some (.lst (nV l))
def PlansAt (H : Hp) (D : Addr) (ls : List (List Nat)) : Prop := ∃ xs : List V, H D = some (.lst xs) ∧ Paired (PlanRef D H) xs ls
theorem PlanRef.same {D : Addr} {H H' : Hp} {x : V} {l : List Nat} (e : Same H H') (h : PlanRef D H x l) : PlanRef D H' x l := let ⟨p, a, b, c⟩ := h; ⟨p, a, b, e _ _ c⟩
theorem PlansAt.same {D : Addr} {H H' : Hp} {ls : List (List Nat)} (e : Same H H') (h : PlansAt H D ls) : PlansAt H' D ls := let ⟨xs, a, b⟩ := h; ⟨xs, e _ _ a, paired_imp (fun _ _ => PlanRef.same e) b⟩
theorem PlanRef.upd2 {D : Addr} {H : Hp} {o : HO} {x : V} {l : List Nat} (h : PlanRef D H x l) : PlanRef D (upd H D o) x l := by
  obtain ⟨p, e, ne, hp⟩ := h
  exact ⟨p, e, ne, by rw [upd_ne ne]; exact hp⟩
/-- fresh plans -/
def PlanNew (Hs : Hp) (D : Addr) (H : Hp) (x : V) (l : List Nat) : Prop := ∃ p, x = .ref p ∧ p ≠ D ∧ Hs p = none ∧ H p = some (.lst (nV l))
theorem PlanNew.same {Hs : Hp} {D : Addr} {H H' : Hp} {x : V} {l : List Nat} (h : PlanNew Hs D H x l) (e : Same H H') : PlanNew Hs D H' x l := let ⟨p, a, b, n, c⟩ := h; ⟨p, a, b, n, e _ _ c⟩
theorem PlanNew.upd2 {Hs : Hp} {D : Addr} {H : Hp} {o : HO} {x : V} {l : List Nat} (h : PlanNew Hs D H x l) : PlanNew Hs D (upd H D o) x l := by
  obtain ⟨p, e, ne, n, hp⟩ := h
  exact ⟨p, e, ne, n, by rw [upd_ne ne]; exact hp⟩
theorem none_of_same {H H' : Hp} {a : Addr} (s : Same H H') (h : H' a = none) : H a = none := by
  cases e : H a with
  | none => rfl
  | some o => rw [s _ _ e] at h; cases h
def spAllPlans : Sp := fun vs H Q _ => ∃ (many most : Nat), vs = [.int (many : Int), .int (most : Int)] ∧ many ≤ 4 ∧ most ≤ 3 ∧ ∀ H' a, Same H H' → H a = none → PlansAt H' a (Si93.rows most many) → Q (.ref a) H'
def spPlansThat (CB CW : Addr) : Sp := fun vs H Q _ => ∃ (w h bs : Addr) (f : Si93.Field), vs = [.ref w, .ref bs, .int (f.waits : Int), .int (f.near : Int)] ∧ WindsAt CW H w h f.heights f.winds ∧ BalsAt CB H bs f.balloons ∧ Fine f ∧
  ∀ H' a, Same H H' → H a = none → PlansAt H' a ((Si93.rows f.waits f.count).filter (okP f)) → Q (.ref a) H'
def sames (y : List Int) (worths : List (List Int)) (plans : List (List Nat)) : List (List Nat) := ((plans.zip worths).filter fun x => decide (x.2 = y)).map (·.1)
def spLeast : Sp := fun vs H Q _ => ∃ (ps ws : Addr) (plans : List (List Nat)) (wxs : List V) (y : List Int) (ys : List (List Int)), vs = [.ref ps, .ref ws] ∧ PlansAt H ps plans ∧ H ws = some (.lst wxs) ∧ Paired (TupA H) wxs (y :: ys) ∧
  plans.length = (y :: ys).length ∧ plans.length ≤ 256 ∧
  ∀ H' t x p first rest, Same H H' → sames (minT y ys) (y :: ys) plans = first :: rest → H' t = some (.tup [x, .int ((first :: rest).length : Nat), .ref p]) → TupA H' x (minT y ys) → H' p = some (.lst (nV first)) → Q (.ref t) H'
abbrev nAll : List Str := ["many", "most", "found", "k", "longer", "plan", "waits"]
theorem scAllPlans : FnScope nAll ["many", "most"] (defScope sAllPlans) := ⟨rfl, rfl, rfl, by decide +kernel, rfl, by decide +kernel, by decide +kernel⟩
abbrev nThat : List Str := ["winds", "balloons", "most", "near", "plan"]
theorem scPlansThat : FnScope nThat ["winds", "balloons", "most", "near"] (defScope sPlansThat) := ⟨rfl, rfl, rfl, by decide +kernel, rfl, by decide +kernel, by decide +kernel⟩
abbrev nLeast : List Str := ["plans", "worths", "least", "some", "plan", "worth"]
theorem scLeast : FnScope nLeast ["plans", "worths"] (defScope sLeast) := ⟨rfl, rfl, rfl, by decide +kernel, rfl, by decide +kernel, by decide +kernel⟩
/-- the plans so far, one behind -/
def longer (most : Nat) (ls : List (List Nat)) : List (List Nat) := ls.flatMap fun l => (List.range (most + 1)).map fun t => l ++ [t]
theorem longer_len (most : Nat) : ∀ ls : List (List Nat), (longer most ls).length = ls.length * (most + 1)
  | [] => by simp [longer]
  | l :: ls => by
    have ih := longer_len most ls
    unfold longer at ih ⊢
    rw [List.flatMap_cons, List.length_append, ih, List.length_map, List.length_range, List.length_cons, Nat.succ_mul]
    omega
theorem longer_more {most : Nat} {ls : List (List Nat)} {i : Nat} {l : List Nat} (h : ls[i]? = some l) : longer most (ls.take (i + 1)) = longer most (ls.take i) ++ (List.range (most + 1)).map fun t => l ++ [t] := by
  unfold longer
  rw [take_more h, List.flatMap_append]
  simp
section
variable {P : Program} {w : World} {K : PySem.W.Frag} {mg : Str → Option Value} {base : Heap} {CB CW CD : Addr}
theorem ok_allPlans {f : Addr} {fd : FuncData} (F : Fun K "all_plans" "all_plans" sAllPlans f fd) (T : Txt K mg CB CW CD) : FnOk P w K mg base CX0 1 f fd ["many", "most"] spAllPlans := by
  refine F.ok scAllPlans (fun vs H Q E h => ?_) (fun cdv A outer s H vs Q E hr h => ?_)
  · obtain ⟨many, most, rfl, _⟩ := h
    rfl
  · obtain ⟨many, most, rfl, h4, h3, q⟩ := h
    refine ⟨_, pss_cons (ps_set (i := 2) scAllPlans.nd rfl (.inl rfl) (pe_lst (pa_cons (pe_lst pa_nil) pa_nil)))
      (pss_cons (ps_for PassesOwn.never rfl (pi_range1 (by rfl) T.mRange (pa_cons (pv 0) pa_nil)) (pg_name (i := 3) scAllPlans.nd rfl (.inl rfl))
        (pss_cons (ps_set (i := 4) scAllPlans.nd rfl (.inl rfl) (pe_lst pa_nil))
        (pss_cons (ps_for PassesOwn.never rfl (pi_list (pv 2)) (pg_name (i := 5) scAllPlans.nd rfl (.inr rfl))
          (pss_one (ps_expr (pe_bm PySem.F.plainAttrs_list PySem.F.slot_list_extend PySem.F.type_list_extend mt_extend (pv 4) (pa_cons
            (pe_lc (own := [("waits", 6)]) (g := gName 6) (tt := tYes) rfl scAllPlans.nd (pi_range1 (by rfl) T.mRange (pa_cons (pe_op op_add (pv 1) pe_int) pa_nil)) (blkOk_by (N := nAll) (sc := defScope sAllPlans) (by decide +kernel))
              (fun _ _ _ _ _ => pg_name (i := 6) scAllPlans.nd rfl (.inl rfl)) (fun _ _ _ _ _ => pts_nil) (fun _ _ _ _ _ => pe_op op_cat (pv 5) (pe_lst (pa_cons (pv 6) pa_nil)))) pa_nil)))))
        (pss_one (ps_set (i := 2) scAllPlans.nd rfl (.inl rfl) (pv 4))))))
      (pss_one (ps_ret (pv 2)))), ?_⟩
    refine ⟨Nat.zero_le _, fun r0 n0 => ⟨(by show 1 ≤ sizeLine; decide), fun f0 nf0 => ?_⟩⟩
    have s0 := (same_upd (o := .lst []) n0).trans (same_upd (o := .lst [.ref r0]) nf0)
    have r0f : r0 ≠ f0 := fun z => by rw [z, upd_same] at nf0; cases nf0
    have n0f : H f0 = none := by rw [upd_ne (Ne.symm r0f)] at nf0; exact nf0
    refine ⟨_, rfl, (many : Int), rfl, by omega, by omega, for_range (lo := 0) (n := (many : Int).toNat) (fun k σ H' => ∃ (fo : Addr) (v3 v4 v5 : Option V), σ = [some (.int (many : Int)), some (.int (most : Int)), some (.ref fo), v3, v4, v5, none] ∧ Same H H' ∧ H fo = none ∧ PlansAt H' fo (Si93.rows most k))
      ⟨f0, none, none, none, rfl, s0, n0f, [.ref r0], upd_same, paired_one ⟨r0, rfl, r0f, by rw [upd_ne r0f]; exact upd_same⟩⟩ ?_ ?_⟩
    · rintro k σ H1 hk ⟨fo, v3, v4, v5, rfl, s1, nfo, xs, hfo, hxs⟩
      have hk4 : k ≤ 4 := by omega
      have hxl := paired_len hxs
      have hr256 := rows_le h3 hk4
      refine ⟨Nat.zero_le _, fun lo nlo => ?_⟩
      have sl := same_upd (o := .lst []) nlo
      refine ⟨_, rfl, fo, rfl, ⟨_, SqL.of (sl _ _ hfo)⟩, for_list (K := K) (a := fo) (xs := xs) (fun i σ H' => ∃ (v5 : Option V) (acc : List V), σ = [some (.int (many : Int)), some (.int (most : Int)), some (.ref fo), some (.int (0 + (k : Int))), some (.ref lo), v5, none] ∧ Same H1 H' ∧ H' lo = some (.lst acc) ∧ Paired (PlanRef lo H') acc (longer most ((Si93.rows most k).take i)))
        ⟨v5, [], rfl, sl, upd_same, by rw [List.take_zero]; exact .nil⟩ (fun i σ H' _ ⟨_, _, _, s2, _⟩ => SqL.of (s2 _ _ hfo)) ?_ ?_⟩
      · rintro i x σ H2 hi ⟨v5, acc, rfl, s2, hlo, hacc⟩
        obtain ⟨l, hl, p, rfl, pfo, hp⟩ := paired_get1 hxs hi
        refine ⟨_, rfl, .inl ⟨rfl, _, SqL.of hlo⟩, _, rfl, _, _, rfl, rfl, _, rfl, by omega, by omega, fun D nD => lc_range (fun t H' => Same H2 H' ∧ ∃ acc2, H' D = some (.lst acc2) ∧ Paired (PlanNew H2 D H') acc2 ((List.range t).map fun u => l ++ [u])) ⟨same_upd nD, [], upd_same, .nil⟩ ?_ ?_⟩
        · rintro t H3 ht ⟨s3, acc2, hD, hacc2⟩
          refine ⟨rfl, yes_if ?_⟩
          refine ⟨_, rfl, _, rfl, (by show 1 ≤ sizeLine; decide), fun r nr => ?_⟩
          have s4 := same_upd (o := .lst [.int (0 + (t : Int))]) nr
          have hp4 := s4 _ _ (s3 _ _ (s2 _ _ hp))
          have hll : l.length ≤ 4 := by rw [rows_len most k l (List.mem_of_getElem? hl)]; exact hk4
          refine ⟨p, r, _, _, rfl, rfl, hp4, upd_same, Nat.le_trans (show (nV l).length + 1 ≤ 5 by rw [nV_len]; omega) (by decide), fun q nq => ?_⟩
          have s5 := same_upd (o := .lst (nV l ++ [.int (0 + (t : Int))])) nq
          have s6 := (s3.trans s4).trans s5
          have hD6 := s5 _ _ (s4 _ _ hD)
          have hal : acc2.length ≤ 4 := by rw [paired_len hacc2, List.length_map, List.length_range]; omega
          refine ⟨acc2, hD6, Nat.lt_of_le_of_lt hal (by decide), Same.upd2 s6 nD, acc2 ++ [.ref q], upd_same, ?_⟩
          have nq2 : H2 q = none := none_of_same (s3.trans s4) nq
          have qD : q ≠ D := fun z => by rw [z, s4 _ _ hD] at nq; cases nq
          rw [List.range_succ, List.map_append]
          refine paired_app (paired_imp (fun _ _ hz => ((hz.same s4).same s5).upd2) hacc2) (paired_one (PlanNew.upd2 ⟨q, rfl, qD, nq2, ?_⟩))
          rw [upd_same, nV_append, Int.zero_add]
          rfl
        · rintro Hc ⟨s3, acc2, hD, hacc2⟩
          have hlo3 := s3 _ _ hlo
          have hl1 : acc.length ≤ 1024 := by
            rw [paired_len hacc, longer_len, List.length_take]
            have : min i (Si93.rows most k).length ≤ 256 := Nat.le_trans (Nat.min_le_right _ _) hr256
            calc _ ≤ 256 * 4 := Nat.mul_le_mul this (by omega)
              _ = 1024 := rfl
          have hl2 : acc2.length ≤ 4 := by rw [paired_len hacc2, List.length_map, List.length_range]; omega
          refine ⟨lo, D, acc, acc2, rfl, rfl, hlo3, hD, Nat.le_trans (show acc.length + acc2.length ≤ 1028 by omega) (by decide), ?_⟩
          refine ⟨_, acc ++ acc2, rfl, Same.upd2 (s2.trans s3) nlo, upd_same, ?_⟩
          rw [longer_more hl]
          have em : ((List.range ((most : Int) + 1).toNat).map fun u => l ++ [u]) = (List.range (most + 1)).map fun t => l ++ [t] := by
            congr 2
          rw [em] at hacc2
          refine paired_app (paired_imp (fun _ _ hz => (PlanRef.same s3 hz).upd2) hacc) (paired_imp (fun _ _ hz => ?_) hacc2)
          obtain ⟨p', e', _, n', hp'⟩ := hz
          have pl : p' ≠ lo := fun z => by rw [z, hlo] at n'; cases n'
          exact ⟨p', e', pl, by rw [upd_ne pl]; exact hp'⟩
      · rintro σ H2 ⟨v5, acc, rfl, s2, hlo, hacc⟩
        rw [hxl, List.take_length] at hacc
        refine ⟨_, rfl, lo, _, _, _, rfl, s1.trans s2, none_of_same s1 nlo, acc, hlo, ?_⟩
        have e := rows_behind most k
        unfold longer at hacc
        rw [e] at hacc
        exact hacc
    · rintro σ H1 ⟨fo, v3, v4, v5, rfl, s1, nfo, hP⟩
      exact ⟨_, rfl, q H1 fo s1 nfo hP⟩
end
end Bal
/-! ### plans: that can be, the least -/
namespace Bal
open PySem PySem.Spec PyProof.Rows L2
theorem filter_more {α : Type} {l : List α} {i : Nat} {x : α} {p : α → Bool} (h : l[i]? = some x) : (l.take (i + 1)).filter p = (l.take i).filter p ++ if p x = true then [x] else [] := by
  rw [take_more h, List.filter_append, List.filter_cons, List.filter_nil]
theorem sames_more {worths : List (List Int)} {plans : List (List Nat)} {i : Nat} {k m : List Int} {l : List Nat} (h : (plans.zip worths)[i]? = some (l, k)) :
    (((plans.zip worths).take (i + 1)).filter fun x => decide (x.2 = m)).map (·.1) = (((plans.zip worths).take i).filter fun x => decide (x.2 = m)).map (·.1) ++ if k = m then [l] else [] := by
  rw [filter_more h, List.map_append]
  congr 1
  by_cases c : k = m
  · rw [if_pos c, if_pos (decide_eq_true c)]
    rfl
  · rw [if_neg c, decide_eq_false c, if_neg (by decide)]
    rfl
section
variable {P : Program} {w : World} {K : PySem.W.Frag} {mg : Str → Option Value} {base : Heap} {CB CW CD : Addr}
theorem ok_plansThat {f : Addr} {fd : FuncData} (F : Fun K "plans_that_can" "plans_that_can" sPlansThat f fd) (T : Txt K mg CB CW CD) (G : Cal P w K mg base 1 "all_plans" spAllPlans) (G2 : Cal P w K mg base 4 "can_be" (spCanBe CB CW)) :
    FnOk P w K mg base CX0 5 f fd ["winds", "balloons", "most", "near"] (spPlansThat CB CW) := by
  refine F.ok scPlansThat (fun vs H Q E h => ?_) (fun cdv A outer s H vs Q E hr h => ?_)
  · obtain ⟨w, h, bs, f, rfl, _⟩ := h
    rfl
  · obtain ⟨w, h, bs, f, rfl, hW, hB, hF, q⟩ := h
    refine ⟨_, pss_one (ps_ret (pe_lc (own := [("plan", 4)]) (g := gName 4) rfl scPlansThat.nd
      (pi_list (pe_c G hr (by decide) (by rfl) (pa_cons (pe_callB call_len_seq (by rfl) T.mLen PySem.boot_len (pa_cons (pv 1) pa_nil)) (pa_cons (pv 2) pa_nil)))) (blkOk_by (N := nThat) (sc := defScope sPlansThat) (by decide +kernel))
      (fun _ _ _ _ _ => pg_name (i := 4) scPlansThat.nd rfl (.inl rfl)) (fun _ _ _ _ _ => pts_one (pt_val (pe_c G2 hr (by decide) (by rfl) (pa_cons (pv 0) (pa_cons (pv 1) (pa_cons (pv 4) (pa_cons (pv 3) pa_nil)))))))
      (fun _ _ _ _ _ => pv 4))), ?_⟩
    obtain ⟨bxs, hbs, hbp⟩ := id hB
    have hbl := paired_len hbp
    refine ⟨_, rfl, bs, bxs, rfl, .inl (SqL.of hbs), _, rfl, f.balloons.length, f.waits, by rw [hbl]; rfl, hF.bals, hF.waits, fun H1 a s1 na hP => ?_⟩
    obtain ⟨xs, ha, hxs⟩ := hP
    have hr256 := rows_le hF.waits hF.bals
    have hxl := paired_len hxs
    refine ⟨a, rfl, ⟨_, SqL.of ha⟩, fun D nD => lc_list (fun i H' => Same H1 H' ∧ ∃ acc, H' D = some (.lst acc) ∧ Paired (PlanRef D H') acc (((Si93.rows f.waits f.balloons.length).take i).filter (okP f)))
      ⟨same_upd nD, [], upd_same, by rw [List.take_zero]; exact .nil⟩ (fun i H' _ ⟨s2, _⟩ => SqL.of (s2 _ _ ha)) ?_ ?_⟩
    · rintro i x H2 hi ⟨s2, acc, hD, hacc⟩
      obtain ⟨l, hl, p, rfl, pa, hp⟩ := paired_get1 hxs hi
      have s3 := s1.trans s2
      refine ⟨rfl, ?_⟩
      refine ⟨_, rfl, _, rfl, _, rfl, _, rfl, w, h, bs, p, f, l, rfl, hW.same s3, hB.same s3, s2 _ _ hp, hF, rows_len _ _ l (List.mem_of_getElem? hl), fun H3 s4 => ⟨_, rfl, ?_⟩⟩
      have hD3 := s4 _ _ hD
      have hal : acc.length ≤ 256 := by
        rw [paired_len hacc]
        refine Nat.le_trans (List.length_filter_le _ _) ?_
        rw [List.length_take]
        exact Nat.le_trans (Nat.min_le_right _ _) hr256
      rw [filter_more hl]
      cases hk : okP f l with
      | true =>
        refine if_true_of rfl ?_
        have pD : p ≠ D := fun z => by rw [z, nD] at hp; cases hp
        refine ⟨_, rfl, acc, hD3, Nat.lt_of_le_of_lt hal (by decide), Same.upd2 (s2.trans s4) nD, acc ++ [.ref p], upd_same, ?_⟩
        rw [if_pos rfl]
        exact paired_app (paired_imp (fun _ _ hz => (PlanRef.same s4 hz).upd2) hacc) (paired_one (PlanRef.upd2 ⟨p, rfl, pD, s4 _ _ (s2 _ _ hp)⟩))
      | false =>
        refine if_false_of rfl ?_
        refine ⟨s2.trans s4, acc, hD3, ?_⟩
        rw [if_neg Bool.false_ne_true, List.append_nil]
        exact paired_imp (fun _ _ hz => PlanRef.same s4 hz) hacc
    · rintro Hc ⟨s2, acc, hD, hacc⟩
      rw [hxl, List.take_length] at hacc
      exact q Hc D (s1.trans s2) (none_of_same s1 nD) ⟨acc, hD, hacc⟩
theorem ok_least {f : Addr} {fd : FuncData} (F : Fun K "least_of" "least_of" sLeast f fd) (T : Txt K mg CB CW CD) : FnOk P w K mg base CX0 1 f fd ["plans", "worths"] spLeast := by
  refine F.ok scLeast (fun vs H Q E h => ?_) (fun cdv A outer s H vs Q E hr h => ?_)
  · obtain ⟨ps, ws, plans, wxs, y, ys, rfl, _⟩ := h
    rfl
  · obtain ⟨ps, ws, plans, wxs, y, ys, rfl, hP, hws, hwx, hlen, h256, q⟩ := h
    refine ⟨_, pss_cons (ps_set (i := 2) scLeast.nd rfl (.inr rfl) (pe_callB (cr_minT rfl hr.units) (by rfl) T.mMin (by decide +kernel) (pa_cons (pv 1) pa_nil)))
      (pss_cons (ps_setLc (i := 3) (own := [("plan", 4), ("worth", 5)]) (g := gTup K 2 (gCons (gName 4) (gCons (gName 5) gNil))) (tt := tTest (tOp (rEqD K) (tVar 5) (tVar 2))) rfl scLeast.nd rfl rfl (sw_true rfl rfl rfl (by decide +kernel))
        (pi_zip (by rfl) T.mZip (pa_cons (pv 0) (pa_cons (pv 1) pa_nil))) (blkOk_by (N := nLeast) (sc := defScope sLeast) (by decide +kernel))
        (fun _ _ _ _ _ => pg_tup rfl (pgs_cons (pg_name (i := 4) scLeast.nd rfl (.inl rfl)) (pgs_cons (pg_name (i := 5) scLeast.nd rfl (.inl rfl)) pgs_nil))) (fun _ _ _ _ _ => pts_one (pt_cmpR (op_eqD hr.units) (pv 5) (pv 2) (nomark _)))
        (fun _ _ _ _ _ => pv 4))
      (pss_one (ps_ret (pe_tup (pa_cons (pv 2) (pa_cons (pe_callB call_len_seq (by rfl) T.mLen PySem.boot_len (pa_cons (pv 3) pa_nil)) (pa_cons (pe_ix ix_list (pv 3) pe_int (fun _ _ => rfl)) pa_nil))))))), ?_⟩
    obtain ⟨xs, hps, hxs⟩ := id hP
    have hxl := paired_len hxs
    have hwl := paired_len hwx
    refine ⟨_, rfl, ws, wxs, y, ys, rfl, SqL.of hws, paired_imp (fun _ _ => TupA.toI) hwx, fun m x hm1 hm2 => ?_⟩
    obtain ⟨k0, hk0, hx⟩ := paired_get1 hwx hm1
    have ek : k0 = minT y ys := by rw [hk0] at hm2; exact Option.some.inj hm2
    subst ek
    have hzl : (plans.zip (y :: ys)).length = plans.length := by rw [List.length_zip, hlen, Nat.min_self]
    refine ⟨_, rfl, _, rfl, ps, ws, xs, wxs, rfl, SqL.of hps, SqL.of hws, fun D nD => lc_it (walk_zip (n := plans.length) (by rw [hxl, hwl, ← hlen, Nat.min_self]))
      (fun i H' => Same H H' ∧ ∃ acc, H' D = some (.lst acc) ∧ Paired (PlanRef D H') acc ((((plans.zip (y :: ys)).take i).filter fun z => decide (z.2 = minT y ys)).map (·.1)))
      ⟨same_upd nD, [], upd_same, by rw [List.take_zero]; exact .nil⟩ (fun i H' _ hp => ⟨SqL.of (hp.1 _ _ hps), SqL.of (hp.1 _ _ hws)⟩) ?_ ?_⟩
    · rintro i v H1 H2 hi ⟨s1, acc, hD, hacc⟩ ⟨T', x', y', rfl, nT, rfl, ex, ey⟩
      obtain ⟨l, hl, p, rfl, pps, hp⟩ := paired_get1 hxs ex
      obtain ⟨k, hk, hy⟩ := paired_get1 hwx ey
      have hz : (plans.zip (y :: ys))[i]? = some (l, k) := List.getElem?_zip_eq_some.mpr ⟨hl, hk⟩
      have s2 : Same H1 (upd H1 T' (.tup [.ref p, y'])) := same_upd nT
      have s3 := s1.trans s2
      refine ⟨T', _, rfl, SqT.of upd_same, rfl, _, _, rfl, _, _, rfl, rfl, rfl, ?_⟩
      refine ⟨_, rfl, _, rfl, _, _, dp_tup (TupA.toI (hy.same s3)), dp_tup (TupA.toI (hx.same s3)), shaped_of_sm (sm_ints _).1, shaped_of_sm (sm_ints _).1, _, rfl, ?_⟩
      rw [eqv_tups]
      have hD2 := s2 _ _ hD
      have hal : acc.length ≤ 256 := by
        rw [paired_len hacc, List.length_map]
        refine Nat.le_trans (List.length_filter_le _ _) ?_
        rw [List.length_take]
        exact Nat.le_trans (Nat.min_le_right _ _) (by rw [hzl]; exact h256)
      rw [sames_more hz]
      by_cases c : k = minT y ys
      · refine if_true_of (decide_eq_true c) ?_
        have pD : p ≠ D := fun z => by rw [z, nD] at hp; cases hp
        refine ⟨_, rfl, acc, hD2, Nat.lt_of_le_of_lt hal (by decide), Same.upd2 s3 nD, acc ++ [.ref p], upd_same, ?_⟩
        rw [if_pos c]
        exact paired_app (paired_imp (fun _ _ hz => (PlanRef.same s2 hz).upd2) hacc) (paired_one (PlanRef.upd2 ⟨p, rfl, pD, s3 _ _ hp⟩))
      · refine if_false_of (decide_eq_false c) ?_
        refine ⟨s3, acc, hD2, ?_⟩
        rw [if_neg c, List.append_nil]
        exact paired_imp (fun _ _ hz => PlanRef.same s2 hz) hacc
    · rintro Hc ⟨s1, acc, hD, hacc⟩
      rw [← hzl, List.take_length] at hacc
      have hacc' : Paired (PlanRef D Hc) acc (sames (minT y ys) (y :: ys) plans) := hacc
      -- there is one
      have hm3 : m < plans.length := by rw [hlen]; exact (List.getElem?_eq_some_iff.mp hm2).1
      have hzm : (plans.zip (y :: ys))[m]? = some (plans[m], minT y ys) := List.getElem?_zip_eq_some.mpr ⟨List.getElem?_eq_getElem hm3, hm2⟩
      have hmem : plans[m] ∈ sames (minT y ys) (y :: ys) plans := List.mem_map.mpr ⟨_, List.mem_filter.mpr ⟨List.mem_of_getElem? hzm, decide_eq_true rfl⟩, rfl⟩
      cases hs : sames (minT y ys) (y :: ys) plans with
      | nil => rw [hs] at hmem; cases hmem
      | cons first rest =>
        rw [hs] at hacc'
        have hal := paired_len hacc'
        obtain ⟨v, hv, p, rfl, pD, hp⟩ := paired_get hacc' (i := 0) (y := first) rfl
        refine ⟨_, rfl, _, rfl, D, acc, rfl, .inl (SqL.of hD), _, rfl, D, acc, 0, _, rfl, rfl, SqL.of hD, at_of (j := 0) rfl hv, (by show 3 ≤ sizeLine; decide), fun t nt => ?_⟩
        have s2 := same_upd (o := .tup [x, .int (acc.length : Int), .ref p]) nt
        refine q _ t x p first rest (s1.trans s2) hs ?_ (hx.same (s1.trans s2)) (s2 _ _ hp)
        rw [← hal]
        exact upd_same
end
end Bal
/-! ### the desk: refusals, what it holds -/
namespace Bal
open PySem PySem.Spec PyProof.Rows L2
/-- the numbers of a refusal as the exception at its own dict d holds them -/
def Refuse (CR : Addr) (H : Hp) (E : XK) (code : Int) : Prop := ∀ (H' : Hp) (d l : Addr), Same H H' → H' d = some (.xd [("told", .ref l)]) → H' l = some (.lst [.int code]) → H l = none → E (.ref CR) (some d) H'
theorem Refuse.same {CR : Addr} {H H1 : Hp} {E : XK} {code : Int} (s : Same H H1) (h : Refuse CR H E code) : Refuse CR H1 E code := fun H' d l s' e1 e2 n => h H' d l (s.trans s') e1 e2 (none_of_same s n)
def deskF (w bs : Addr) (near wait : Nat) : List (Str × V) := [("winds", .ref w), ("balloons", .ref bs), ("near", .int (near : Int)), ("most_wait", .int (wait : Int))]
/-- at d the desk: winds at w, their hours at h, balloons at bs; what lies within these: in G -/
structure DeskS (CB CW CD : Addr) (G H : Hp) (d dx w dw h bs : Addr) (hxs bxs : List V) (f : Si93.Field) : Prop where
  sub : Same G H
  gd : G d = none
  gh : G h = none
  gb : G bs = none
  ne : h ≠ bs
  hd : H d = some (.ins CD dx (deskF w bs f.near f.waits))
  gw : G w = some (.ins CW dw (winF f.heights h))
  hh : H h = some (.lst hxs)
  ph : Paired (HourAt G) hxs f.winds
  hb : H bs = some (.lst bxs)
  pb : Paired (BalRef CB G) bxs f.balloons
def DeskIn (CB CW CD : Addr) (G H : Hp) (d h bs : Addr) (f : Si93.Field) : Prop := ∃ dx w dw hxs bxs, DeskS CB CW CD G H d dx w dw h bs hxs bxs f
section
variable {CB CW CD CR : Addr} {G H H' : Hp} {d dx w dw h bs : Addr} {hxs bxs : List V} {f : Si93.Field}
theorem DeskS.same (D : DeskS CB CW CD G H d dx w dw h bs hxs bxs f) (s : Same H H') : DeskS CB CW CD G H' d dx w dw h bs hxs bxs f :=
  ⟨D.sub.trans s, D.gd, D.gh, D.gb, D.ne, s _ _ D.hd, D.gw, s _ _ D.hh, D.ph, s _ _ D.hb, D.pb⟩
theorem DeskIn.same (D : DeskIn CB CW CD G H d h bs f) (s : Same H H') : DeskIn CB CW CD G H' d h bs f := let ⟨dx, w, dw, hxs, bxs, D⟩ := D; ⟨dx, w, dw, hxs, bxs, D.same s⟩
theorem DeskS.winds (D : DeskS CB CW CD G H d dx w dw h bs hxs bxs f) : WindsAt CW H w h f.heights f.winds := ⟨⟨dw, D.sub _ _ D.gw⟩, hxs, D.hh, paired_imp (fun _ _ => HourAt.same D.sub) D.ph⟩
theorem DeskS.bals (D : DeskS CB CW CD G H d dx w dw h bs hxs bxs f) : BalsAt CB H bs f.balloons := ⟨bxs, D.hb, paired_imp (fun _ _ => BalRef.same D.sub) D.pb⟩
/-- another list of the balloons at the same place, or none changed, or the fields of the desk renewed: what a call may end with -/
def Answers (CB CW CD : Addr) (G H : Hp) (d h bs : Addr) (f' : Si93.Field) (r : List Int) (Q : VK) : Prop := ∀ (G' H' : Hp) (h' bs' p : Addr), DeskIn CB CW CD G' H' d h' bs' f' → (∀ b o, G' b = some o → G b = some o ∨ H b = none) →
  (∀ b o, H b = some o → b ≠ d → b ≠ h → b ≠ bs → H' b = some o) → (h' = h ∨ H h' = none) → (bs' = bs ∨ H bs' = none) → H' p = some (.lst (r.map V.int)) → H p = none → Q (.ref p) H'
theorem Answers.stays {r : List Int} {Q : VK} (A : Answers CB CW CD G H d h bs f r Q) (D : DeskIn CB CW CD G H d h bs f) (s : Same H H') {p : Addr} (hp : H' p = some (.lst (r.map V.int))) (np : H p = none) : Q (.ref p) H' :=
  A G H' h bs p (D.same s) (fun _ _ e => .inl e) (fun b o e _ _ _ => s _ _ e) (.inl rfl) (.inl rfl) hp np
def res (a : Si93.Ans) : List Int := a.v :: a.l
/-- a call's two ways out; where it is refused both are granted -/
def Does (CB CW CD CR : Addr) (G H : Hp) (d h bs : Addr) (f : Si93.Field) (c : Si93.Call) (Q : VK) (E : XK) : Prop := (∀ v, Si93.step f c = (f, Si93.ok v) → Refuse CR H E v) ∧ Answers CB CW CD G H d h bs (Si93.step f c).1 (res (Si93.step f c).2) Q
/-- the fields' look-ups -/
theorem lD_winds {w bs : Addr} {n k : Nat} : (deskF w bs n k).lookup ("winds" : Str) = some (.ref w) := lk_here
theorem lD_bals {w bs : Addr} {n k : Nat} : (deskF w bs n k).lookup ("balloons" : Str) = some (.ref bs) := (lk_past (by decide +kernel)).trans lk_here
theorem lD_near {w bs : Addr} {n k : Nat} : (deskF w bs n k).lookup ("near" : Str) = some (.int (n : Int)) := (lk_past (by decide +kernel)).trans ((lk_past (by decide +kernel)).trans lk_here)
theorem lD_wait {w bs : Addr} {n k : Nat} : (deskF w bs n k).lookup ("most_wait" : Str) = some (.int (k : Int)) := (lk_past (by decide +kernel)).trans ((lk_past (by decide +kernel)).trans ((lk_past (by decide +kernel)).trans lk_here))
theorem lD_none {w bs : Addr} {n k : Nat} {m : Str} (h1 : (m == ("winds" : Str)) = false) (h2 : (m == ("balloons" : Str)) = false) (h3 : (m == ("near" : Str)) = false) (h4 : (m == ("most_wait" : Str)) = false) : (deskF w bs n k).lookup m = none :=
  (lk_past h1).trans ((lk_past h2).trans ((lk_past h3).trans ((lk_past h4).trans rfl)))
/-- where winds, hours and balloons are new -/
theorem desk_new {p : Addr} {X X3 : HO} {o0 : HO} {n near wait : Nat} (hp : H p = some o0) (nw : H w = none) (nd : H dw = none) (wd : dw ≠ w)
    (nh : upd (upd H dw (.own w)) w (.ins CW dw []) h = none) (nb : upd (upd (upd (upd (upd (upd H dw (.own w)) w (.ins CW dw [])) w X) h (.lst [])) w (.ins CW dw (winF n h))) p X3 bs = none) {H' : Hp}
    (e : H' = upd (upd (upd (upd (upd (upd (upd (upd H dw (.own w)) w (.ins CW dw [])) w X) h (.lst [])) w (.ins CW dw (winF n h))) p X3) bs (.lst [])) p (.ins CD dx (deskF w bs near wait))) :
    DeskIn CB CW CD (upd (fun _ => none) w (.ins CW dw (winF n h))) H' p h bs ⟨n, near, wait, [], []⟩ ∧ (∀ b o, H b = some o → b ≠ p → H' b = some o) ∧ H h = none ∧ H bs = none := by
  have wp : w ≠ p := fun z => by rw [z, hp] at nw; cases nw
  have dp : dw ≠ p := fun z => by rw [z, hp] at nd; cases nd
  have hw : h ≠ w := fun z => by rw [z, upd_same] at nh; cases nh
  rw [upd_ne hw] at nh
  have hdw : h ≠ dw := fun z => by rw [z, upd_same] at nh; cases nh
  rw [upd_ne hdw] at nh
  have hp' : h ≠ p := fun z => by rw [z, hp] at nh; cases nh
  have bp : bs ≠ p := fun z => by rw [z, upd_same] at nb; cases nb
  rw [upd_ne bp] at nb
  have bw : bs ≠ w := fun z => by rw [z, upd_same] at nb; cases nb
  rw [upd_ne bw] at nb
  have bh : bs ≠ h := fun z => by rw [z, upd_same] at nb; cases nb
  rw [upd_ne bh, upd_ne bw, upd_ne bw] at nb
  have bd : bs ≠ dw := fun z => by rw [z, upd_same] at nb; cases nb
  rw [upd_ne bd] at nb
  refine ⟨⟨dx, w, dw, [], [], ⟨fun b o z => ?_, upd_ne (Ne.symm wp), upd_ne hw, upd_ne bw, Ne.symm bh, ?_, upd_same, ?_, .nil, ?_, .nil⟩⟩, fun b o z hb => ?_, nh, nb⟩
  · by_cases c : b = w
    · subst c
      rw [upd_same] at z
      rw [e, upd_ne wp, upd_ne (Ne.symm bw), upd_ne wp, upd_same]
      exact z
    · rw [upd_ne c] at z
      cases z
  · rw [e, upd_same]
  · rw [e, upd_ne hp', upd_ne (Ne.symm bh), upd_ne hp', upd_ne hw, upd_same]
  · rw [e, upd_ne bp, upd_same]
  · have c1 : b ≠ w := fun y => by rw [y, nw] at z; cases z
    have c2 : b ≠ dw := fun y => by rw [y, nd] at z; cases z
    have c3 : b ≠ h := fun y => by rw [y, nh] at z; cases z
    have c4 : b ≠ bs := fun y => by rw [y, nb] at z; cases z
    rw [e, upd_ne hb, upd_ne c4, upd_ne hb, upd_ne c1, upd_ne c3, upd_ne c1, upd_ne c1, upd_ne c2]
    exact z
end
/-- a def that may raise -/
structure CalX (P : Program) (w : World) (K : PySem.W.Frag) (mg : Str → Option Value) (base : Heap) (k : Nat) (x : Str) (sp : Sp) : Prop where
  ex : ∃ (f : Addr) (fd : FuncData) (ps : List Str), FnOk P w K mg base (L2.CX P w) k f fd ps sp ∧ mg x = some (.ref f) ∧ PySem.W.keepIn K (.ref f) = true ∧ Binds K fd ps []
structure MetX (P : Program) (w : World) (K : PySem.W.Frag) (mg : Str → Option Value) (base : Heap) (k : Nat) (C : Addr) (m : Str) (sp : Sp) : Prop where
  ex : ∃ (f : Addr) (fd : FuncData) (ps : List Str), Cls K C ∧ Meth K C m f ∧ FnOk P w K mg base (L2.CX P w) k f fd ps sp ∧ Binds K fd ps []
/-- o.m(e, ..) within a try -/
def tMethS (C : Addr) (m : Str) (sp : Sp) (E : L2.St → XK) (ta : TE) (t : TA) : TE := fun σ H Q => ta σ H fun x H1 => ∃ a dx fs, x = .ref a ∧ H1 a = some (.ins C dx fs) ∧ fs.lookup m = none ∧ t σ H1 fun vs H2 => sp (x :: vs) H2 Q (E σ)
section
variable {X : Cx} {k j : Nat} {C : Addr} {x m : Str} {sp : Sp} {p pos apos : Pos} {e o : Expr} {es : List Expr} {ta : TE} {t : TA} {E : XK}
theorem pass_of (hs : X.stack = X.env :: X.outer) (hf : X.env.frame = some X.env.locals) (hex : X.ex = []) {E₁ : Value → Shared → Prop}
    (hx : X.xe = fun e s' => wpAny (model X.prog X.w) X.A (leaving X.env e) (fun _ s'' => L2.CX X.prog X.w X.outer X.H_0 X.s_0 E e s'') E₁ s') : Passes (L2.CX X.prog X.w) X E := fun pins σ H s e s' I c => passAt (takes_of hs hf hex hx) σ pins H s e s' I c
theorem pe_cx (c : CalX X.prog X.w X.K X.mg X.base k x sp) (hr : Room j X.A) (hk : k ≤ j) (hx : Passes (L2.CX X.prog X.w) X E) (hg : Gl X x) (ha : PA X (e :: es) t)
    (hdb : (x == ("__debug__" : Str)) = false := by decide) (he : starEach (e :: es) X.env = (false, eval e X.env) :: starEach es X.env := by rfl) (hpl : (backTo pos (starEach es X.env)).any (·.1) = false := by rfl) :
    PE X (.Call (.Name x p) (e :: es) [] pos) (tCall sp [] E t) := by
  obtain ⟨f, fd, ps, F, hm, kp, b⟩ := c.ex
  exact pe_call F (hr.mono hk) hg hm kp b .nil hx ha hdb he hpl
theorem pe_mtx {pl : Sem Bool} (c : MetX X.prog X.w X.K X.mg X.base k C m sp) (hr : Room j X.A) (hk : k ≤ j) (hx : Passes (L2.CX X.prog X.w) X E) (he : PE X o ta) (ha : PA X (e :: es) t)
    (hst : starEach (e :: es) X.env = (false, eval e X.env) :: starEach es X.env := by rfl) (hpl : (backTo pos (starEach es X.env)).any (·.1) = false := by rfl)
    (ht : eval (.Call (.Attribute o m apos) (e :: es) [] pos) X.env = (do
      let ov ← eval o X.env
      standAt apos.atName
      let (f, first) ← holding [ov] (getMethod ov m pl)
      callWith pos f first (backTo pos (starEach (e :: es) X.env)) (backToKw pos (keywordEach [] X.env))) := by rfl) :
    PE X (.Call (.Attribute o m apos) (e :: es) [] pos) (tMeth C m sp [] E ta t) := by
  obtain ⟨f, fd, ps, hc, hm, F, b⟩ := c.ex
  exact pe_meth (pl := pl) he hc hm F (hr.mono hk) b .nil hx ha hst hpl ht
theorem pe_mtx0 {pl : Sem Bool} (c : MetX X.prog X.w X.K X.mg X.base k C m sp) (hr : Room j X.A) (hk : k ≤ j) (hx : Passes (L2.CX X.prog X.w) X E) (he : PE X o ta)
    (ht : eval (.Call (.Attribute o m apos) [] [] pos) X.env = (do
      let ov ← eval o X.env
      standAt apos.atName
      let (f, first) ← holding [ov] (getMethod ov m pl)
      callWith pos f first (backTo pos (starEach [] X.env)) (backToKw pos (keywordEach [] X.env))) := by rfl) :
    PE X (.Call (.Attribute o m apos) [] [] pos) (tMeth C m sp [] E ta tNil) := by
  obtain ⟨f, fd, ps, hc, hm, F, b⟩ := c.ex
  exact pe_meth0 (pl := pl) he hc hm F (hr.mono hk) b .nil hx ht
theorem pe_mts {W : WX} {pl : Sem Bool} (c : MetX X.prog X.w X.K X.mg X.base k C m sp) (hr : Room j X.A) (hk : k ≤ j) (tk : Takes X W) (he : PE X o ta) (ha : PA X (e :: es) t)
    (hst : starEach (e :: es) X.env = (false, eval e X.env) :: starEach es X.env := by rfl) (hpl : (backTo pos (starEach es X.env)).any (·.1) = false := by rfl)
    (ht : eval (.Call (.Attribute o m apos) (e :: es) [] pos) X.env = (do
      let ov ← eval o X.env
      standAt apos.atName
      let (f, first) ← holding [ov] (getMethod ov m pl)
      callWith pos f first (backTo pos (starEach (e :: es) X.env)) (backToKw pos (keywordEach [] X.env))) := by rfl) :
    PE X (.Call (.Attribute o m apos) (e :: es) [] pos) (tMethS C m sp (WE W) ta t) := by
  obtain ⟨f, fd, ps, hc, hm, F, b⟩ := c.ex
  refine ⟨fun pins s σ H Q I h => ?_⟩
  refine PySem.W.methodCall_KW (pl := pl) (thn (he.run pins s σ H _ I h) fun u s1 ⟨x, H1, I1, rx, a, dx, fs, ex, ea, l, q⟩ => ?_) ht
  subst ex
  obtain rfl : u = Value.ref a := rx
  refine getmeth_ok I1 ea hc hm l ?_
  refine PySem.W.callWith_K (first := [.ref a]) (h₀ := X.base) I.ok.mod.kin hm.kp (thn (ha.run pos pins s1 σ H1 _ I1 q) fun us s2 ⟨vs, H2, I2, r, q2⟩ => ⟨I2.kIn, ?_⟩) hst hpl
  exact run_fnS (us := .ref a :: us) (vs := .ref a :: vs) F (hr.mono hk) b (passAt tk σ) I2 (.cons rfl r) q2
end
/-- what the top has written of Refused -/
structure TxtR (K : PySem.W.Frag) (mg : Str → Option Value) (CR : Addr) : Prop where
  ox : OexC K CR
  xf : XfC K CR
  no : PySem.W.findIn K (.ref CR) "told" = some none
  gR : mg "Refused" = some (.ref CR)
  mV : mg "ValueError" = none
  vV : PySem.W.findCls K (.type "ValueError") (.type "type") "__init__" = some (.val (.builtin "ValueError.__init__"))
  te : PySem.W.exmOne K (.ref CR) (.ref CR) = some true
def spRefInit (K : PySem.W.Frag) : Sp := fun vs H Q _ => ∃ (e C : Addr) (y : V), vs = [.ref e, y] ∧ H e = some (exo e C none) ∧ OexC K C ∧ PySem.W.findIn K (.ref C) "told" = some none ∧
  ∀ dx, H dx = none → dx ≠ e → Q .non (upd (upd H dx (exd dx [("told", y)])) e (exo e C (some dx)))
def spNeed (CR : Addr) : Sp := fun vs H Q E => ∃ (b : Bool) (code : Int), vs = [.bl b, .int code] ∧ (b = true → Q .non H) ∧ (b = false → Refuse CR H E code)
def spDeskInit (CB CW CD : Addr) : Sp := fun vs H Q _ => ∃ (p dx : Addr), vs = [.ref p] ∧ H p = some (.ins CD dx []) ∧
  ∀ (G H' : Hp) (h bs : Addr), DeskIn CB CW CD G H' p h bs Si93.init → (∀ b o, G b = some o → H b = none) → (∀ b o, H b = some o → b ≠ p → H' b = some o) → H h = none → H bs = none → Q .non H'
theorem scRefInit : FnScope ["self", "told"] ["self", "told"] (defScope sRefInit) := ⟨rfl, rfl, rfl, by decide +kernel, rfl, by decide +kernel, by decide +kernel⟩
theorem scNeed : FnScope ["holds", "code"] ["holds", "code"] (defScope sNeed) := ⟨rfl, rfl, rfl, by decide +kernel, rfl, by decide +kernel, by decide +kernel⟩
theorem scDeskInit : FnScope ["self"] ["self"] (defScope sDeskInit) := ⟨rfl, rfl, rfl, by decide +kernel, rfl, by decide +kernel, by decide +kernel⟩
section
variable {P : Program} {w : World} {K : PySem.W.Frag} {mg : Str → Option Value} {base : Heap} {CB CW CD CR : Addr}
theorem ok_refInit {f : Addr} {fd : FuncData} (F : Fun K "__init__" "Refused.__init__" sRefInit f fd) (T : TxtR K mg CR) : FnOk P w K mg base CX0 1 f fd ["self", "told"] (spRefInit K) := by
  refine F.ok scRefInit (fun vs H Q E h => ?_) (fun cdv A outer s H vs Q E hr h => ?_)
  · obtain ⟨e, C, y, rfl, _⟩ := h
    rfl
  · obtain ⟨e, C, y, rfl, he, hC, hno, q⟩ := h
    refine ⟨_, pss_cons (ps_expr (pe_veinit (by rfl) T.mV T.vV (pa_cons (pv 0) (pa_cons pe_str pa_nil)))) (pss_one (ps_ost (pv 0) (pv 1))), ?_⟩
    refine ⟨_, rfl, e, C, _, rfl, (by show 1 ≤ 1000; decide), hC, he, ?_⟩
    exact ⟨_, rfl, _, rfl, e, C, rfl, hC, hno, .inl ⟨he, q⟩⟩
theorem ok_need {f fI : Addr} {fd fdI : FuncData} (F : Fun K "need" "need" sNeed f fd) (T : TxtR K mg CR) (FI : FnOk P w K mg base CX0 1 fI fdI ["self", "told"] (spRefInit K)) (bI : Binds K fdI ["self", "told"] [])
    (iC : PySem.W.findIn K (.ref CR) "__init__" = some (some (.ref fI))) (tI : PySem.W.typeIn K (.ref fI) = some (.type "function")) : FnOk P w K mg base (L2.CX P w) 3 f fd ["holds", "code"] (spNeed CR) := by
  refine F.okX scNeed (fun vs H Q E h => ?_) (fun cdv A outer s H vs Q E hr h => ?_)
  · obtain ⟨b, code, rfl, _⟩ := h
    rfl
  · obtain ⟨b, code, rfl, q, qE⟩ := h
    refine ⟨_, pss_one (ps_if (pt_not (pt_val (pv 0))) (pss_one (ps_raise rfl (takes_of rfl rfl rfl rfl) (pmk_oex (k := 1) T.ox iC tI FI hr bI .nil L2.pass0 (by rfl) T.gR (pa_cons (pe_lst (pa_cons (pv 1) pa_nil)) pa_nil)))) pss_nil), ?_⟩
    refine ⟨_, rfl, b, rfl, ?_⟩
    cases b with
    | true => exact if_false_of rfl (q rfl)
    | false =>
      refine if_true_of rfl ?_
      refine ⟨_, rfl, (by show 1 ≤ sizeLine; decide), fun l nl => ⟨(by show 1 ≤ 1000; decide), fun a na => ?_⟩⟩
      have s1 := same_upd (o := .lst [.int code]) nl
      have al : a ≠ l := fun z => by rw [z, upd_same] at na; cases na
      refine ⟨a, CR, .ref l, rfl, upd_same, T.ox, T.no, fun dx ndx ne => ⟨rfl, dx, [("told", .ref l)], upd_same, ?_, ?_, ?_⟩⟩
      · rw [upd_ne ne, upd_same]
      · rw [upd_ne ne] at ndx
        exact ndx
      · rw [upd_ne ne] at ndx
        have dl : dx ≠ l := fun z => by rw [z, upd_same] at ndx; cases ndx
        refine qE rfl _ dx l (fun b o z => ?_) upd_same ?_ nl
        · have b1 := s1 _ _ z
          have bd : b ≠ dx := fun y => by rw [y, ndx] at b1; cases b1
          have ba : b ≠ a := fun y => by rw [y, na] at b1; cases b1
          rw [upd_ne bd, del_ne ba, upd_ne ba, upd_ne bd, upd_ne ba]
          exact b1
        · rw [upd_ne (Ne.symm dl), del_ne (Ne.symm al), upd_ne (Ne.symm al), upd_ne (Ne.symm dl), upd_ne (Ne.symm al), upd_same]
theorem ok_deskInit {f : Addr} {fd : FuncData} (F : Fun K "__init__" "Desk.__init__" sDeskInit f fd) (T : Txt K mg CB CW CD) (G : Mak P w K mg base 1 "Winds" CW (spWinInit CW)) : FnOk P w K mg base CX0 3 f fd ["self"] (spDeskInit CB CW CD) := by
  refine F.ok scDeskInit (fun vs H Q E h => ?_) (fun cdv A outer s H vs Q E hr h => ?_)
  · obtain ⟨p, dx, rfl, _⟩ := h
    rfl
  · obtain ⟨p, dx, rfl, hp, q⟩ := h
    refine ⟨_, pss_cons (ps_fld (pv 0) (pe_mk G hr (by decide) (by rfl) (pa_cons pe_int pa_nil)) rfl) (pss_cons (ps_fld (pv 0) (pe_lst pa_nil) rfl) (pss_cons (ps_fld (pv 0) pe_int rfl) (pss_one (ps_fld (pv 0) pe_int rfl)))), ?_⟩
    intro w dw nw nd wd
    have wp : w ≠ p := fun z => by rw [z, hp] at nw; cases nw
    have dp : dw ≠ p := fun z => by rw [z, hp] at nd; cases nd
    refine ⟨w, dw, 1, rfl, upd_same, fun h nh => ⟨rfl, ?_⟩⟩
    have hw : h ≠ w := fun z => by rw [z, upd_same] at nh; cases nh
    have nh' := nh
    rw [upd_ne hw] at nh'
    have hdw : h ≠ dw := fun z => by rw [z, upd_same] at nh'; cases nh'
    rw [upd_ne hdw] at nh'
    have hp' : h ≠ p := fun z => by rw [z, hp] at nh'; cases nh'
    refine ⟨_, rfl, p, CD, dx, [], rfl, ?_, T.cD, T.nWinds, (by show 0 < 1000; decide), ?_⟩
    · rw [upd_ne (Ne.symm wp), upd_ne (Ne.symm hp'), upd_ne (Ne.symm wp), upd_ne (Ne.symm wp), upd_ne (Ne.symm dp)]
      exact hp
    refine ⟨Nat.zero_le _, fun bs nb => ?_⟩
    have bp : bs ≠ p := fun z => by rw [z, upd_same] at nb; cases nb
    refine ⟨_, rfl, p, CD, dx, _, rfl, (upd_ne (Ne.symm bp)).trans upd_same, T.cD, T.nBals, (by show 1 < 1000; decide), ?_⟩
    refine ⟨_, rfl, p, CD, dx, _, rfl, upd_same, T.cD, T.nNear, (by show 2 < 1000; decide), ?_⟩
    refine ⟨_, rfl, p, CD, dx, _, rfl, upd_same, T.cD, T.nWait, (by show 3 < 1000; decide), ?_⟩
    rw [upd_upd, upd_upd]
    obtain ⟨D, fr, n1, n2⟩ := desk_new (CB := CB) (CD := CD) (dx := dx) (near := 0) (wait := 0) hp nw nd wd nh nb rfl
    refine q _ _ h bs D (fun b o z => ?_) fr n1 n2
    by_cases c : b = w
    · rw [c]
      exact nw
    · rw [upd_ne c] at z
      cases z
end
end Bal
/-! ### begins -/
namespace Bal
open PySem PySem.Spec PyProof.Rows L2
theorem bl_f {p : Prop} [Decidable p] {c : Int} (h : ¬ p) : [V.bl (decide p), V.int c] = [V.bl false, V.int c] := by rw [decide_eq_false h]
theorem bl_t {p : Prop} [Decidable p] {c : Int} (h : p) : [V.bl (decide p), V.int c] = [V.bl true, V.int c] := by rw [decide_eq_true h]
structure Con (mg : Str → Option Value) : Prop where
  bad : IsC mg "BAD" (-1)
  strange : IsC mg "STRANGE" (-2)
  full : IsC mg "FULL" (-5)
  none_ : IsC mg "NONE" (-6)
  late : IsC mg "LATE" (-7)
  mHeights : IsC mg "MOST_HEIGHTS" 4
  mNear : IsC mg "MOST_NEAR" 1000
  mWait : IsC mg "MOST_WAIT" 3
  mHours : IsC mg "MOST_HOURS" 8
  mBals : IsC mg "MOST_BALLOONS" 4
  mFlight : IsC mg "MOST_FLIGHT" 5
  windA : IsC mg "WIND_ADDED" 9
  placeA : IsC mg "PLACE_ADDED" 100
/-- what a method of the desk is handed: the desk, numbers; c the call that they tell -/
def spCall (CB CW CD CR : Addr) (tell : List Nat → Option Si93.Call) : Sp := fun vs H Q E => ∃ (G : Hp) (d h bs np : Addr) (f : Si93.Field) (ns : List Nat) (c : Si93.Call), vs = [.ref d, .ref np] ∧ DeskIn CB CW CD G H d h bs f ∧ H np = some (.lst (nV ns)) ∧
  tell ns = some c ∧ Fine f ∧ Does CB CW CD CR G H d h bs f c Q E
def tBegins : List Nat → Option Si93.Call
  | [a, b, c] => some (.begins a b c)
  | _ => none
theorem begins_bad {f : Si93.Field} {a b c : Nat} (h : a < 1 ∨ 4 < a ∨ 1000 < b ∨ 3 < c) : Si93.step f (.begins a b c) = (f, Si93.ok (-1)) := if_pos h
theorem begins_ok {f : Si93.Field} {a b c : Nat} (h : ¬ (a < 1 ∨ 4 < a ∨ 1000 < b ∨ 3 < c)) : Si93.step f (.begins a b c) = (⟨a, b, c, [], []⟩, Si93.ok 0) := if_neg h
theorem scBegins : FnScope ["self", "numbers", "heights", "near", "wait"] ["self", "numbers"] (defScope sBegins) := ⟨rfl, rfl, rfl, by decide +kernel, rfl, by decide +kernel, by decide +kernel⟩
section
variable {P : Program} {w : World} {K : PySem.W.Frag} {mg : Str → Option Value} {base : Heap} {CB CW CD CR : Addr}
theorem ok_begins {f : Addr} {fd : FuncData} (F : Fun K "begins" "Desk.begins" sBegins f fd) (T : Txt K mg CB CW CD) (C : Con mg) (G1 : CalX P w K mg base 3 "need" (spNeed CR)) (G2 : Mak P w K mg base 1 "Winds" CW (spWinInit CW)) :
    FnOk P w K mg base (L2.CX P w) 4 f fd ["self", "numbers"] (spCall CB CW CD CR tBegins) := by
  refine F.okX scBegins (fun vs H Q E h => ?_) (fun cdv A outer s H vs Q E hr h => ?_)
  · obtain ⟨G, d, h, bs, np, f, ns, c, rfl, _⟩ := h
    rfl
  · obtain ⟨G, d, h, bs, np, f, ns, cl, rfl, D, hnp, ht, hF, qE, q⟩ := h
    obtain ⟨a, b, c, rfl, rfl⟩ : ∃ a b c, ns = [a, b, c] ∧ cl = .begins a b c := by
      match ns, ht with
      | [a, b, c], ht => exact ⟨a, b, c, rfl, (Option.some.inj ht).symm⟩
    refine ⟨_, pss_cons (ps_asg (pv 1) (pg_lst rfl (pgs_cons (pg_name (i := 2) scBegins.nd rfl (.inl rfl)) (pgs_cons (pg_name (i := 3) scBegins.nd rfl (.inl rfl)) (pgs_cons (pg_name (i := 4) scBegins.nd rfl (.inl rfl)) pgs_nil)))))
      (pss_cons (ps_expr (pe_cx G1 hr (by decide) (pass_of (E := E) rfl rfl rfl rfl) (by rfl) (pa_cons (pe_and (pe_chain op_le op_le pe_int (pv 2) (pe_const C.mHeights (by rfl))) (pe_and (pe_cmpR op_le (pv 3) (pe_const C.mNear (by rfl)) (nomark _)) (pe_one (pe_cmpR op_le (pv 4) (pe_const C.mWait (by rfl)) (nomark _)))))
        (pa_cons (pe_const C.bad (by rfl)) pa_nil))))
      (pss_cons (ps_fld (pv 0) (pe_mk G2 hr (by decide) (by rfl) (pa_cons (pv 2) pa_nil)) rfl) (pss_cons (ps_fld (pv 0) (pe_lst pa_nil) rfl) (pss_cons (ps_fld (pv 0) (pv 3) rfl) (pss_cons (ps_fld (pv 0) (pv 4) rfl)
      (pss_one (ps_ret (pe_lst (pa_cons pe_int pa_nil))))))))), ?_⟩
    refine ⟨_, rfl, np, _, rfl, SqL.of hnp, rfl, _, _, rfl, _, _, rfl, _, _, rfl, rfl, ?_⟩
    refine ⟨_, rfl, _, _, rfl, rfl, _, rfl, ?_⟩
    by_cases c1 : 1 ≤ a
    case neg => exact if_false_of (decide_eq_false (show ¬ (1 : Int) ≤ (a : Int) by omega)) ⟨_, rfl, if_false_of rfl ⟨false, -1, rfl, fun z => (nomatch z), fun _ => qE (-1) (begins_bad (by omega))⟩⟩
    refine if_true_of (decide_eq_true (show (1 : Int) ≤ (a : Int) by omega)) ⟨_, _, rfl, rfl, _, rfl, ?_⟩
    by_cases c2 : a ≤ 4
    case neg => exact if_false_of (decide_eq_false (show ¬ (a : Int) ≤ 4 by omega)) ⟨false, -1, rfl, fun z => (nomatch z), fun _ => qE (-1) (begins_bad (by omega))⟩
    refine if_true_of (decide_eq_true (show (a : Int) ≤ 4 by omega)) ⟨_, rfl, _, _, rfl, rfl, _, rfl, ?_⟩
    by_cases c3 : b ≤ 1000
    case neg => exact if_false_of (decide_eq_false (show ¬ (b : Int) ≤ 1000 by omega)) ⟨false, -1, rfl, fun z => (nomatch z), fun _ => qE (-1) (begins_bad (by omega))⟩
    refine if_true_of (decide_eq_true (show (b : Int) ≤ 1000 by omega)) ⟨_, rfl, _, _, rfl, rfl, ?_⟩
    by_cases c4 : c ≤ 3
    case neg => exact ⟨false, -1, bl_f (show ¬ (c : Int) ≤ 3 by omega), fun z => (nomatch z), fun _ => qE (-1) (begins_bad (by omega))⟩
    refine ⟨true, -1, bl_t (show (c : Int) ≤ 3 by omega), fun _ => ?_, fun z => (nomatch z)⟩
    rw [begins_ok (by omega)] at q
    obtain ⟨dx, w0, dw0, hxs, bxs, D⟩ := D
    have hp := D.hd
    refine ⟨_, rfl, ?_⟩
    intro w dw nw nd wd
    have wp : w ≠ d := fun z => by rw [z, hp] at nw; cases nw
    have dp : dw ≠ d := fun z => by rw [z, hp] at nd; cases nd
    refine ⟨w, dw, a, rfl, upd_same, fun h' nh => ⟨rfl, ?_⟩⟩
    have hw : h' ≠ w := fun z => by rw [z, upd_same] at nh; cases nh
    have nh' := nh
    rw [upd_ne hw] at nh'
    have hdw : h' ≠ dw := fun z => by rw [z, upd_same] at nh'; cases nh'
    rw [upd_ne hdw] at nh'
    have hp' : h' ≠ d := fun z => by rw [z, hp] at nh'; cases nh'
    refine ⟨_, rfl, d, CD, dx, deskF w0 bs f.near f.waits, rfl, ?_, T.cD, T.nWinds, (by show 4 < 1000; decide), ?_⟩
    · rw [upd_ne (Ne.symm wp), upd_ne (Ne.symm hp'), upd_ne (Ne.symm wp), upd_ne (Ne.symm wp), upd_ne (Ne.symm dp)]
      exact hp
    refine ⟨Nat.zero_le _, fun bs' nb => ?_⟩
    have bp : bs' ≠ d := fun z => by rw [z, upd_same] at nb; cases nb
    refine ⟨_, rfl, d, CD, dx, _, rfl, (upd_ne (Ne.symm bp)).trans upd_same, T.cD, T.nBals, (by show 4 < 1000; decide), ?_⟩
    refine ⟨_, rfl, _, rfl, d, CD, dx, _, rfl, upd_same, T.cD, T.nNear, (by show 4 < 1000; decide), ?_⟩
    refine ⟨_, rfl, _, rfl, d, CD, dx, _, rfl, upd_same, T.cD, T.nWait, (by show 4 < 1000; decide), ?_⟩
    rw [upd_upd, upd_upd]
    refine ⟨(by show 1 ≤ sizeLine; decide), fun p np => ?_⟩
    obtain ⟨D', fr, n1, n2⟩ := desk_new (CB := CB) (CD := CD) (dx := dx) (near := b) (wait := c) hp nw nd wd nh nb rfl
    have sp := same_upd (o := .lst [.int 0]) np
    have np0 : H p = none := by
      cases e : H p with
      | none => rfl
      | some o =>
        have pd : p ≠ d := fun z => by rw [z, upd_same] at np; cases np
        have z3 : none = some o := np.symm.trans (fr p o e pd)
        cases z3
    refine q _ _ h' bs' p (D'.same sp) (fun x o z => ?_) (fun x o z y1 y2 y3 => sp _ _ (fr x o z y1)) (.inr n1) (.inr n2) upd_same np0
    by_cases e : x = w
    · rw [e]
      exact .inr nw
    · rw [upd_ne e] at z
      cases z
end
end Bal
/-! ### add_hour -/
namespace Bal
open PySem PySem.Spec PyProof.Rows L2
/-- a comprehension that reads numbers and makes flat values -/
theorem lc_flat {K : PySem.W.Frag} {a : Addr} {xs ys : List V} {g : TG} {tt : TT} {te : TE} {vs : List Nat} {σ : L2.St} {H1 : Hp} {D : Addr} {Qd : Hp → Prop} (nD : H1 D = none) (ha : H1 a = some (.lst xs)) (hn : ys.length = xs.length) (hz : xs.length < sizeLine)
    (hs : ∀ (i : Nat) (x y : V) (H : Hp) (R : VK) (Z : Hp → Prop), xs[i]? = some x → ys[i]? = some y → Same H1 H → R y H → g x (wipe σ vs) H fun σ2 H2 => wipe σ2 vs = wipe σ vs ∧ tt σ2 H2 fun b H3 => if b = true then te σ2 H3 R else Z H3) (hd : ∀ H, Same H1 H → H D = some (.lst ys) → Qd H) :
    ∃ W : Nat → Nat → Hp → Prop, (∃ m, W 0 m (upd H1 D (.lst []))) ∧ ∀ i m H, W i m H →
      ((Itl K a).stop i H ∧ Qd H) ∨ ((Itl K a).go i H ∧ ∃ Nx : Hp → Prop, (∀ H', Nx H' → ∃ m', m' < m ∧ W (i + 1) m' H') ∧ ∀ x H', (Itl K a).yld i H x H' → g x (wipe σ vs) H' fun σ2 H2 => wipe σ2 vs = wipe σ vs ∧ tt σ2 H2 fun b H3 =>
        if b = true then te σ2 H3 fun y H4 => ∃ acc, H4 D = some (.lst acc) ∧ acc.length < sizeLine ∧ Nx (upd H4 D (.lst (acc ++ [y]))) else Nx H3) := by
  refine lc_list (fun i H' => Same H1 H' ∧ H' D = some (.lst (ys.take i))) ⟨same_upd nD, by rw [List.take_zero]; exact upd_same⟩ (fun i H' _ h => SqL.of (h.1 _ _ ha)) (fun i x H hx h => ?_) fun H h => ?_
  · obtain ⟨s1, hD⟩ := h
    have hi : i < ys.length := by rw [hn]; exact (List.getElem?_eq_some_iff.mp hx).1
    refine hs i x ys[i] H _ _ hx (List.getElem?_eq_getElem hi) s1 ⟨_, hD, ?_, Same.upd2 s1 nD, ?_⟩
    · rw [List.length_take]
      exact Nat.lt_of_le_of_lt (Nat.min_le_right _ _) (by rw [hn]; exact hz)
    · rw [take_more (List.getElem?_eq_getElem hi)]
      exact upd_same
  · obtain ⟨s1, hD⟩ := h
    rw [← hn, List.take_length] at hD
    exact hd H s1 hD
/-- what lay within and what has come since -/
def grow (G H H' : Hp) : Hp := fun b => match H b with
  | none => H' b
  | some _ => G b
theorem grow_new {G H H' : Hp} {b : Addr} (h : H b = none) : grow G H H' b = H' b := by
  unfold grow
  rw [h]
theorem grow_old {G H H' : Hp} {b : Addr} {o : HO} (h : H b = some o) : grow G H H' b = G b := by
  unfold grow
  rw [h]
theorem grow_from {G H H' : Hp} (b : Addr) (o : HO) (h : grow G H H' b = some o) : G b = some o ∨ H b = none := by
  cases e : H b with
  | none => exact .inr rfl
  | some u =>
    rw [grow_old e] at h
    exact .inl h
theorem same_grow {G H H' : Hp} (s : Same G H) : Same G (grow G H H') := fun b o e => by rw [grow_old (s _ _ e)]; exact e
theorem grow_sub {G H H' : Hp} {d h bs : Addr} (s : Same G H) (gd : G d = none) (gh : G h = none) (gb : G bs = none) (fr : ∀ b o, H b = some o → b ≠ d → b ≠ h → b ≠ bs → H' b = some o) : Same (grow G H H') H' := fun b o e => by
  cases hb : H b with
  | none =>
    rw [grow_new hb] at e
    exact e
  | some u =>
    rw [grow_old hb] at e
    refine fr b o (s _ _ e) (fun z => ?_) (fun z => ?_) (fun z => ?_)
    · rw [z, gd] at e; cases e
    · rw [z, gh] at e; cases e
    · rw [z, gb] at e; cases e
def tHour (l : List Nat) : Option Si93.Call := if l.length ≤ 10 then some (.hour l) else none
theorem hour_bad {f : Si93.Field} {l : List Nat} (h : l.length ≠ 2 * f.heights ∨ (l.all fun n => decide (n ≤ 18)) = false) : Si93.step f (.hour l) = (f, Si93.ok (-1)) := if_pos h
theorem hour_full {f : Si93.Field} {l : List Nat} (h : ¬ (l.length ≠ 2 * f.heights ∨ (l.all fun n => decide (n ≤ 18)) = false)) (h2 : 8 ≤ f.winds.length) : Si93.step f (.hour l) = (f, Si93.ok (-5)) := (if_neg h).trans (if_pos h2)
theorem hour_ok {f : Si93.Field} {l : List Nat} (h : ¬ (l.length ≠ 2 * f.heights ∨ (l.all fun n => decide (n ≤ 18)) = false)) (h2 : ¬ 8 ≤ f.winds.length) :
    Si93.step f (.hour l) = ({ f with winds := f.winds ++ [Si93.pairsOf l] }, Si93.ok ((f.winds.length : Nat) : Int)) := (if_neg h).trans (if_neg h2)
/-- the numbers less 9 -/
def lessV (l : List Nat) : List V := l.map fun (n : Nat) => V.int ((n : Int) - 9)
theorem pairs_zip (l : List Nat) {n : Nat} (h : l.length = 2 * n) (h10 : l.length ≤ 10) :
    (pickV (lessV l) none none (some 2)).zip (pickV (lessV l) (some 1) none (some 2)) = (Si93.pairsOf l).map fun p => (V.int p.1, V.int p.2) := by
  match l, h, h10 with
  | [], _, _ => rfl
  | [a, b], _, _ =>
    have e1 : sliceRange (sliceBounds none none (some 2) 2).1 (sliceBounds none none (some 2) 2).2.1 (sliceBounds none none (some 2) 2).2.2 = [0] := by decide
    have e2 : sliceRange (sliceBounds (some 1) none (some 2) 2).1 (sliceBounds (some 1) none (some 2) 2).2.1 (sliceBounds (some 1) none (some 2) 2).2.2 = [1] := by decide
    have p1 : pickV (lessV [a, b]) none none (some 2) = [V.int ((a : Int) - 9)] := by
      show (sliceRange (sliceBounds none none (some 2) 2).1 (sliceBounds none none (some 2) 2).2.1 (sliceBounds none none (some 2) 2).2.2).filterMap ((lessV [a, b])[·]?) = _
      rw [e1]
      rfl
    have p2 : pickV (lessV [a, b]) (some 1) none (some 2) = [V.int ((b : Int) - 9)] := by
      show (sliceRange (sliceBounds (some 1) none (some 2) 2).1 (sliceBounds (some 1) none (some 2) 2).2.1 (sliceBounds (some 1) none (some 2) 2).2.2).filterMap ((lessV [a, b])[·]?) = _
      rw [e2]
      rfl
    rw [p1, p2]
    rfl
  | [a, b, c, d], _, _ =>
    have e1 : sliceRange (sliceBounds none none (some 2) 4).1 (sliceBounds none none (some 2) 4).2.1 (sliceBounds none none (some 2) 4).2.2 = [0, 2] := by decide
    have e2 : sliceRange (sliceBounds (some 1) none (some 2) 4).1 (sliceBounds (some 1) none (some 2) 4).2.1 (sliceBounds (some 1) none (some 2) 4).2.2 = [1, 3] := by decide
    have p1 : pickV (lessV [a, b, c, d]) none none (some 2) = [V.int ((a : Int) - 9), V.int ((c : Int) - 9)] := by
      show (sliceRange (sliceBounds none none (some 2) 4).1 (sliceBounds none none (some 2) 4).2.1 (sliceBounds none none (some 2) 4).2.2).filterMap ((lessV [a, b, c, d])[·]?) = _
      rw [e1]
      rfl
    have p2 : pickV (lessV [a, b, c, d]) (some 1) none (some 2) = [V.int ((b : Int) - 9), V.int ((d : Int) - 9)] := by
      show (sliceRange (sliceBounds (some 1) none (some 2) 4).1 (sliceBounds (some 1) none (some 2) 4).2.1 (sliceBounds (some 1) none (some 2) 4).2.2).filterMap ((lessV [a, b, c, d])[·]?) = _
      rw [e2]
      rfl
    rw [p1, p2]
    rfl
  | [a, b, c, d, e, f], _, _ =>
    have e1 : sliceRange (sliceBounds none none (some 2) 6).1 (sliceBounds none none (some 2) 6).2.1 (sliceBounds none none (some 2) 6).2.2 = [0, 2, 4] := by decide
    have e2 : sliceRange (sliceBounds (some 1) none (some 2) 6).1 (sliceBounds (some 1) none (some 2) 6).2.1 (sliceBounds (some 1) none (some 2) 6).2.2 = [1, 3, 5] := by decide
    have p1 : pickV (lessV [a, b, c, d, e, f]) none none (some 2) = [V.int ((a : Int) - 9), V.int ((c : Int) - 9), V.int ((e : Int) - 9)] := by
      show (sliceRange (sliceBounds none none (some 2) 6).1 (sliceBounds none none (some 2) 6).2.1 (sliceBounds none none (some 2) 6).2.2).filterMap ((lessV [a, b, c, d, e, f])[·]?) = _
      rw [e1]
      rfl
    have p2 : pickV (lessV [a, b, c, d, e, f]) (some 1) none (some 2) = [V.int ((b : Int) - 9), V.int ((d : Int) - 9), V.int ((f : Int) - 9)] := by
      show (sliceRange (sliceBounds (some 1) none (some 2) 6).1 (sliceBounds (some 1) none (some 2) 6).2.1 (sliceBounds (some 1) none (some 2) 6).2.2).filterMap ((lessV [a, b, c, d, e, f])[·]?) = _
      rw [e2]
      rfl
    rw [p1, p2]
    rfl
  | [a, b, c, d, e, f, g, i], _, _ =>
    have e1 : sliceRange (sliceBounds none none (some 2) 8).1 (sliceBounds none none (some 2) 8).2.1 (sliceBounds none none (some 2) 8).2.2 = [0, 2, 4, 6] := by decide
    have e2 : sliceRange (sliceBounds (some 1) none (some 2) 8).1 (sliceBounds (some 1) none (some 2) 8).2.1 (sliceBounds (some 1) none (some 2) 8).2.2 = [1, 3, 5, 7] := by decide
    have p1 : pickV (lessV [a, b, c, d, e, f, g, i]) none none (some 2) = [V.int ((a : Int) - 9), V.int ((c : Int) - 9), V.int ((e : Int) - 9), V.int ((g : Int) - 9)] := by
      show (sliceRange (sliceBounds none none (some 2) 8).1 (sliceBounds none none (some 2) 8).2.1 (sliceBounds none none (some 2) 8).2.2).filterMap ((lessV [a, b, c, d, e, f, g, i])[·]?) = _
      rw [e1]
      rfl
    have p2 : pickV (lessV [a, b, c, d, e, f, g, i]) (some 1) none (some 2) = [V.int ((b : Int) - 9), V.int ((d : Int) - 9), V.int ((f : Int) - 9), V.int ((i : Int) - 9)] := by
      show (sliceRange (sliceBounds (some 1) none (some 2) 8).1 (sliceBounds (some 1) none (some 2) 8).2.1 (sliceBounds (some 1) none (some 2) 8).2.2).filterMap ((lessV [a, b, c, d, e, f, g, i])[·]?) = _
      rw [e2]
      rfl
    rw [p1, p2]
    rfl
  | [a, b, c, d, e, f, g, i, j, k], _, _ =>
    have e1 : sliceRange (sliceBounds none none (some 2) 10).1 (sliceBounds none none (some 2) 10).2.1 (sliceBounds none none (some 2) 10).2.2 = [0, 2, 4, 6, 8] := by decide
    have e2 : sliceRange (sliceBounds (some 1) none (some 2) 10).1 (sliceBounds (some 1) none (some 2) 10).2.1 (sliceBounds (some 1) none (some 2) 10).2.2 = [1, 3, 5, 7, 9] := by decide
    have p1 : pickV (lessV [a, b, c, d, e, f, g, i, j, k]) none none (some 2) = [V.int ((a : Int) - 9), V.int ((c : Int) - 9), V.int ((e : Int) - 9), V.int ((g : Int) - 9), V.int ((j : Int) - 9)] := by
      show (sliceRange (sliceBounds none none (some 2) 10).1 (sliceBounds none none (some 2) 10).2.1 (sliceBounds none none (some 2) 10).2.2).filterMap ((lessV [a, b, c, d, e, f, g, i, j, k])[·]?) = _
      rw [e1]
      rfl
    have p2 : pickV (lessV [a, b, c, d, e, f, g, i, j, k]) (some 1) none (some 2) = [V.int ((b : Int) - 9), V.int ((d : Int) - 9), V.int ((f : Int) - 9), V.int ((i : Int) - 9), V.int ((k : Int) - 9)] := by
      show (sliceRange (sliceBounds (some 1) none (some 2) 10).1 (sliceBounds (some 1) none (some 2) 10).2.1 (sliceBounds (some 1) none (some 2) 10).2.2).filterMap ((lessV [a, b, c, d, e, f, g, i, j, k])[·]?) = _
      rw [e2]
      rfl
    rw [p1, p2]
    rfl
  | [_], h, _ => exact absurd h (by simp only [List.length]; omega)
  | [_, _, _], h, _ => exact absurd h (by simp only [List.length]; omega)
  | [_, _, _, _, _], h, _ => exact absurd h (by simp only [List.length]; omega)
  | [_, _, _, _, _, _, _], h, _ => exact absurd h (by simp only [List.length]; omega)
  | [_, _, _, _, _, _, _, _, _], h, _ => exact absurd h (by simp only [List.length]; omega)
  | _ :: _ :: _ :: _ :: _ :: _ :: _ :: _ :: _ :: _ :: _ :: _, _, h10 => exact absurd h10 (by simp only [List.length]; omega)
theorem pick_len (xs : List V) (lo hi st : Option Int) : (pickV xs lo hi st).length ≤ (sliceRange (sliceBounds lo hi st xs.length).1 (sliceBounds lo hi st xs.length).2.1 (sliceBounds lo hi st xs.length).2.2).length := List.length_filterMap_le _ _
theorem pick_small {l : List Nat} (h10 : l.length ≤ 10) : (pickV (lessV l) none none (some 2)).length ≤ 10 ∧ (pickV (lessV l) (some 1) none (some 2)).length ≤ 10 := by
  have e : (lessV l).length = l.length := List.length_map _
  refine ⟨Nat.le_trans (pick_len _ _ _ _) ?_, Nat.le_trans (pick_len _ _ _ _) ?_⟩
  · rw [e]
    generalize l.length = n at *
    have : n = 0 ∨ n = 1 ∨ n = 2 ∨ n = 3 ∨ n = 4 ∨ n = 5 ∨ n = 6 ∨ n = 7 ∨ n = 8 ∨ n = 9 ∨ n = 10 := by omega
    rcases this with rfl | rfl | rfl | rfl | rfl | rfl | rfl | rfl | rfl | rfl | rfl <;> decide
  · rw [e]
    generalize l.length = n at *
    have : n = 0 ∨ n = 1 ∨ n = 2 ∨ n = 3 ∨ n = 4 ∨ n = 5 ∨ n = 6 ∨ n = 7 ∨ n = 8 ∨ n = 9 ∨ n = 10 := by omega
    rcases this with rfl | rfl | rfl | rfl | rfl | rfl | rfl | rfl | rfl | rfl | rfl <;> decide
theorem paired_imp_mem {α β : Type} {F G : α → β → Prop} : ∀ {xs : List α} {ys : List β}, (∀ a ∈ xs, ∀ b, F a b → G a b) → Paired F xs ys → Paired G xs ys
  | _, _, _, .nil => .nil
  | _, _, h, .cons r t => .cons (h _ List.mem_cons_self _ r) (paired_imp_mem (fun a ha => h a (List.mem_cons_of_mem _ ha)) t)
theorem hour_at {H : Hp} : ∀ {ts : List Addr} {ps : List Pl}, Paired (fun (t : Addr) (q : V × V) => H t = some (.tup [q.1, q.2])) ts (ps.map fun p => (V.int p.1, V.int p.2)) → Paired (PlaceAt H) (ts.map V.ref) ps
  | [], [], _ => .nil
  | [], _ :: _, h => by cases h
  | _ :: _, [], h => by cases h
  | t :: ts, p :: ps, h => by
    cases h with
    | cons a b => exact .cons ⟨t, rfl, a⟩ (hour_at b)
theorem all_bits (l : List Nat) (k : Nat) : ((l.map fun (n : Nat) => decide ((n : Int) ≤ (k : Int))).all id) = l.all fun n => decide (n ≤ k) := by
  rw [List.all_map]
  congr 1
  funext n
  exact decide_eq_decide.mpr (by omega)
theorem bl_e {b b' : Bool} {c : Int} (h : b = b') : [V.bl b, V.int c] = [V.bl b', V.int c] := by rw [h]
theorem beq_t {i j : Int} (h : i = j) : (i == j) = true := beq_iff_eq.mpr h
theorem beq_f {i j : Int} (h : ¬ i = j) : (i == j) = false := beq_eq_false_iff_ne.mpr h
abbrev nHour : List Str := ["self", "numbers", "told", "number"]
theorem scAddHour : FnScope nHour ["self", "numbers"] (defScope sAddHour) := ⟨rfl, rfl, rfl, by decide +kernel, rfl, by decide +kernel, by decide +kernel⟩
section
variable {P : Program} {w : World} {K : PySem.W.Frag} {mg : Str → Option Value} {base : Heap} {CB CW CD CR : Addr}
theorem ok_addHour {f : Addr} {fd : FuncData} (F : Fun K "add_hour" "Desk.add_hour" sAddHour f fd) (T : Txt K mg CB CW CD) (C : Con mg) (G1 : CalX P w K mg base 3 "need" (spNeed CR)) (G2 : Met P w K mg base 1 CW "many_hours" (spMany CW)) :
    FnOk P w K mg base (L2.CX P w) 4 f fd ["self", "numbers"] (spCall CB CW CD CR tHour) := by
  refine F.okX scAddHour (fun vs H Q E h => ?_) (fun cdv A outer s H vs Q E hr h => ?_)
  · obtain ⟨G, d, h, bs, np, f, ns, c, rfl, _⟩ := h
    rfl
  · obtain ⟨G, d, h, bs, np, f, ns, cl, rfl, D, hnp, ht, hF, qE, q⟩ := h
    obtain ⟨h10, rfl⟩ : ns.length ≤ 10 ∧ cl = .hour ns := by
      unfold tHour at ht
      by_cases c : ns.length ≤ 10
      · rw [if_pos c] at ht
        exact ⟨c, (Option.some.inj ht).symm⟩
      · rw [if_neg c] at ht
        cases ht
    refine ⟨_, pss_cons (ps_expr (pe_cx G1 hr (by decide) (pass_of (E := E) rfl rfl rfl rfl) (by rfl) (pa_cons (pe_cmp (pc_eqI (pe_callB call_len_seq (by rfl) T.mLen PySem.boot_len (pa_cons (pv 1) pa_nil)) (pe_op op_mul pe_int (pe_fld (pe_fld (pv 0) rfl) rfl)))) (pa_cons (pe_const C.bad (by rfl)) pa_nil))))
      (pss_cons (ps_expr (pe_cx G1 hr (by decide) (pass_of (E := E) rfl rfl rfl rfl) (by rfl) (pa_cons (pe_callB (cr_all rfl) (by rfl) T.mAll (by decide +kernel) (pa_cons (pe_lc (own := [("number", 3)]) (g := gName 3) (tt := tYes) rfl scAddHour.nd
          (pi_list (pv 1)) (blkOk_by (N := nHour) (sc := defScope sAddHour) (by decide +kernel)) (fun _ _ _ _ _ => pg_name (i := 3) scAddHour.nd rfl (.inl rfl)) (fun _ _ _ _ _ => pts_nil)
          (fun _ _ _ _ _ => pe_cmpR op_le (pv 3) (pe_op op_mul pe_int (pe_const C.windA (by rfl))) (nomark _))) pa_nil)) (pa_cons (pe_const C.bad (by rfl)) pa_nil))))
      (pss_cons (ps_expr (pe_cx G1 hr (by decide) (pass_of (E := E) rfl rfl rfl rfl) (by rfl) (pa_cons (pe_cmpR op_lt (pe_mt0 G2 hr (by decide) (pe_fld (pv 0) rfl)) (pe_const C.mHours (by rfl)) (nomark _)) (pa_cons (pe_const C.full (by rfl)) pa_nil))))
      (pss_cons (ps_setLc (i := 2) (own := [("number", 3)]) (g := gName 3) (tt := tYes) rfl scAddHour.nd rfl rfl (sw_true rfl rfl rfl (by decide +kernel)) (pi_list (pv 1)) (blkOk_by (N := nHour) (sc := defScope sAddHour) (by decide +kernel))
          (fun _ _ _ _ _ => pg_name (i := 3) scAddHour.nd rfl (.inl rfl)) (fun _ _ _ _ _ => pts_nil) (fun _ _ _ _ _ => pe_op op_sub (pv 3) (pe_const C.windA (by rfl))))
      (pss_cons (ps_expr (pe_bm PySem.F.plainAttrs_list PySem.F.slot_list_append PySem.F.type_list_append mt_append (pe_fld (pe_fld (pv 0) rfl) rfl) (pa_cons
          (pe_listZip rfl (by rfl) T.mList (by decide +kernel) (by rfl) T.mZip (pa_cons (pe_slice3 (pv 2) po_none po_none (po_some pe_int)) (pa_cons (pe_slice3 (pv 2) (po_some pe_int) po_none (po_some pe_int)) pa_nil))) pa_nil)))
      (pss_one (ps_ret (pe_lst (pa_cons (pe_op op_sub (pe_mt0 G2 hr (by decide) (pe_fld (pv 0) rfl)) pe_int) pa_nil)))))))), ?_⟩
    obtain ⟨dx, w0, dw0, hxs, bxs, D⟩ := D
    have hw0 := D.sub _ _ D.gw
    have hxl := paired_len D.ph
    have hns : (nV ns).length = ns.length := nV_len ns
    have hd := D.hd
    refine ⟨_, rfl, np, _, rfl, .inl (SqL.of hnp), _, rfl, d, CD, dx, _, _, rfl, hd, T.cD, T.nWinds, lD_winds, w0, CW, dw0, _, _, rfl, hw0, T.cW, T.nHeights, lW_heights, _, _, rfl, rfl, .inl ⟨by decide, by decide⟩, _, _, rfl, rfl, ?_⟩
    by_cases c1 : ns.length = 2 * f.heights
    case neg => exact ⟨false, -1, bl_e (beq_f (show ¬ ((nV ns).length : Int) = 2 * (f.heights : Int) by omega)), fun z => (nomatch z), fun _ => qE (-1) (hour_bad (.inl c1))⟩
    refine ⟨true, -1, bl_e (beq_t (show ((nV ns).length : Int) = 2 * (f.heights : Int) by omega)), fun _ => ?_, fun z => (nomatch z)⟩
    have hsz : (nV ns).length < sizeLine := Nat.lt_of_le_of_lt (by rw [hns]; exact h10) (by decide)
    refine ⟨_, rfl, np, rfl, ⟨_, SqL.of hnp⟩, fun D1 nD1 => lc_flat (ys := (ns.map fun (n : Nat) => decide ((n : Int) ≤ ((18 : Nat) : Int))).map V.bl) nD1 hnp (by rw [List.length_map, List.length_map, hns]) hsz ?_ ?_⟩
    · rintro i x y H1 R Z hx hy s1 r
      obtain ⟨n, hn, rfl⟩ := of_nV hx
      rw [List.getElem?_map, List.getElem?_map, hn] at hy
      obtain rfl := Option.some.inj hy
      exact ⟨rfl, yes_if ⟨_, rfl, _, _, rfl, rfl, .inl ⟨by decide, by decide⟩, _, _, rfl, rfl, r⟩⟩
    intro H1 s1 hD1
    refine ⟨D1, _, rfl, SqL.of hD1, ?_⟩
    rw [all_bits ns 18]
    cases c2 : ns.all fun n => decide (n ≤ 18) with
    | false => exact ⟨false, -1, rfl, fun z => (nomatch z), fun _ => (qE (-1) (hour_bad (.inr c2))).same s1⟩
    | true =>
    have c12 : ¬ (ns.length ≠ 2 * f.heights ∨ (ns.all fun n => decide (n ≤ 18)) = false) := fun z => by
      rcases z with z | z
      · exact z c1
      · rw [c2] at z
        cases z
    refine ⟨true, -1, rfl, fun _ => ?_, fun z => (nomatch z)⟩
    refine ⟨_, rfl, d, CD, dx, _, _, rfl, s1 _ _ hd, T.cD, T.nWinds, lD_winds, w0, dw0, _, rfl, s1 _ _ hw0, lW_none (by decide +kernel) (by decide +kernel), w0, h, f.heights, f.winds, rfl, (D.same s1).winds, _, _, rfl, rfl, ?_⟩
    by_cases c3 : f.winds.length < 8
    case neg => exact ⟨false, -5, bl_f (show ¬ (f.winds.length : Int) < 8 by omega), fun z => (nomatch z), fun _ => (qE (-5) (hour_full c12 (by omega))).same s1⟩
    refine ⟨true, -5, bl_t (show (f.winds.length : Int) < 8 by omega), fun _ => ?_, fun z => (nomatch z)⟩
    rw [hour_ok c12 (by omega)] at q
    have hnp1 := s1 _ _ hnp
    refine ⟨_, rfl, np, rfl, ⟨_, SqL.of hnp1⟩, fun D2 nD2 => lc_flat (ys := lessV ns) nD2 hnp1 (by rw [hns]; exact List.length_map _) hsz ?_ ?_⟩
    · rintro i x y H2 R Z hx hy s2 r
      obtain ⟨n, hn, rfl⟩ := of_nV hx
      unfold lessV at hy
      rw [List.getElem?_map, hn] at hy
      obtain rfl := Option.some.inj hy
      exact ⟨rfl, yes_if ⟨_, rfl, _, _, rfl, rfl, r⟩⟩
    intro H2 s2 hD2
    have s12 := s1.trans s2
    have DD2 := D.same s12
    obtain ⟨l1, l2⟩ := pick_small h10
    refine ⟨_, rfl, d, CD, dx, _, _, rfl, DD2.hd, T.cD, T.nWinds, lD_winds, w0, CW, dw0, _, _, rfl, DD2.sub _ _ D.gw, T.cW, T.nHours, lW_hours, .inl ⟨rfl, _, SqL.of DD2.hh⟩, ?_⟩
    refine ⟨_, rfl, _, rfl, (fun z => nomatch z), D2, _, rfl, SqL.of hD2, Nat.le_trans l1 (by decide), fun p1 np1 => ?_⟩
    have s3 := same_upd (o := .lst (pickV (lessV ns) none none (some 2))) np1
    refine ⟨_, rfl, _, rfl, _, rfl, (fun z => nomatch z), D2, _, rfl, SqL.of (s3 _ _ hD2), Nat.le_trans l2 (by decide), fun p2 np2 => ?_⟩
    have s4 := same_upd (o := .lst (pickV (lessV ns) (some 1) none (some 2))) np2
    refine ⟨p1, p2, _, _, rfl, SqL.of (s4 _ _ upd_same), SqL.of upd_same, fun H4 p ts s5 newp newts hp hts => ?_⟩
    have s14 : Same H (upd (upd H2 p1 (.lst (pickV (lessV ns) none none (some 2)))) p2 (.lst (pickV (lessV ns) (some 1) none (some 2)))) := s12.trans (s3.trans s4)
    have sA : Same H H4 := s14.trans s5
    have DA := D.same sA
    have hph : p ≠ h := fun z => by rw [z, s14 _ _ D.hh] at newp; cases newp
    refine ⟨h, hxs, .ref p, rfl, rfl, DA.hh, Nat.lt_of_le_of_lt (by rw [hxl]; exact hF.hours) (by decide), ?_⟩
    rw [pairs_zip ns c1 h10] at hts
    have fr : ∀ b o, H b = some o → b ≠ d → b ≠ h → b ≠ bs → (upd H4 h (.lst (hxs ++ [.ref p]))) b = some o := fun b o e _ y _ => by
      rw [upd_ne y]
      exact sA _ _ e
    have hdh : d ≠ h := fun z => by rw [z, D.hh] at hd; cases hd
    have D5 : DeskS CB CW CD (grow G H (upd H4 h (.lst (hxs ++ [.ref p])))) (upd H4 h (.lst (hxs ++ [.ref p]))) d dx w0 dw0 h bs (hxs ++ [.ref p]) bxs { f with winds := f.winds ++ [Si93.pairsOf ns] } := by
      have sg := same_grow (H' := upd H4 h (.lst (hxs ++ [.ref p]))) D.sub
      refine ⟨grow_sub D.sub D.gd D.gh D.gb fr, by rw [grow_old hd]; exact D.gd, by rw [grow_old D.hh]; exact D.gh, by rw [grow_old D.hb]; exact D.gb, D.ne, by rw [upd_ne hdh]; exact DA.hd, sg _ _ D.gw, upd_same, ?_, by rw [upd_ne (Ne.symm D.ne)]; exact DA.hb, paired_imp (fun _ _ => BalRef.same sg) D.pb⟩
      refine paired_app (paired_imp (fun _ _ => HourAt.same sg) D.ph) (paired_one ⟨p, ts.map V.ref, rfl, ?_, hour_at (paired_imp_mem (fun t ht b e => ?_) hts)⟩)
      · rw [grow_new (none_of_same s14 newp), upd_ne hph]
        exact hp
      · have nt := none_of_same s14 (newts t ht)
        have th : t ≠ h := fun z => by rw [z, D.hh] at nt; cases nt
        rw [grow_new nt, upd_ne th]
        exact e
    refine ⟨_, rfl, d, CD, dx, _, _, rfl, D5.hd, T.cD, T.nWinds, lD_winds, w0, dw0, _, rfl, D5.sub _ _ D5.gw, lW_none (by decide +kernel) (by decide +kernel), w0, h, f.heights, f.winds ++ [Si93.pairsOf ns], rfl, D5.winds, _, _, rfl, rfl, (by show 1 ≤ sizeLine; decide), fun r nr => ?_⟩
    have s6 := same_upd (o := .lst [.int (((f.winds ++ [Si93.pairsOf ns]).length : Int) - 1)]) nr
    have nr0 : H r = none := by
      have rh : r ≠ h := fun z => by rw [z, upd_same] at nr; cases nr
      rw [upd_ne rh] at nr
      exact none_of_same sA nr
    refine q _ _ h bs r ⟨dx, w0, dw0, _, _, D5.same s6⟩ grow_from (fun b o e y1 y2 y3 => s6 _ _ (fr b o e y1 y2 y3)) (.inl rfl) (.inl rfl) ?_ nr0
    have e : (((f.winds ++ [Si93.pairsOf ns]).length : Nat) : Int) - 1 = ((f.winds.length : Nat) : Int) := by
      rw [List.length_append]
      show ((f.winds.length + 1 : Nat) : Int) - 1 = _
      omega
    show _ = some (HO.lst [V.int ((f.winds.length : Nat) : Int)])
    rw [← e]
    exact upd_same
end
end Bal
/-! ### add_balloon -/
namespace Bal
open PySem PySem.Spec PyProof.Rows L2
def tBal : List Nat → Option Si93.Call
  | x :: y :: l => if l.length ≤ 8 then some (.balloon x y l) else none
  | _ => none
theorem bal_bad {f : Si93.Field} {x y : Nat} {l : List Nat} (h : 200 < x ∨ 200 < y ∨ 5 < l.length ∨ (l.all fun h => decide (h < f.heights)) = false) : Si93.step f (.balloon x y l) = (f, Si93.ok (-1)) := if_pos h
theorem bal_full {f : Si93.Field} {x y : Nat} {l : List Nat} (h : ¬ (200 < x ∨ 200 < y ∨ 5 < l.length ∨ (l.all fun h => decide (h < f.heights)) = false)) (h2 : 4 ≤ f.balloons.length) : Si93.step f (.balloon x y l) = (f, Si93.ok (-5)) := (if_neg h).trans (if_pos h2)
theorem bal_ok {f : Si93.Field} {x y : Nat} {l : List Nat} (h : ¬ (200 < x ∨ 200 < y ∨ 5 < l.length ∨ (l.all fun h => decide (h < f.heights)) = false)) (h2 : ¬ 4 ≤ f.balloons.length) :
    Si93.step f (.balloon x y l) = ({ f with balloons := f.balloons ++ [⟨(Si93.told x 100, Si93.told y 100), l⟩] }, Si93.ok ((f.balloons.length : Nat) : Int)) := (if_neg h).trans (if_neg h2)
theorem cut2 (x y : Nat) (l : List Nat) : cutV (nV (x :: y :: l)) (some 2) none = nV l := by
  unfold cutV
  have e : HT.sIx (nV (x :: y :: l)).length 0 (some 2) = 2 := by
    rw [show (2 : Int) = ((2 : Nat) : Int) from rfl, HT.sIx_nat, nV_len]
    show min 2 (l.length + 2) = 2
    omega
  rw [e, HT.sIx_none]
  show (nV l).take _ = nV l
  rw [List.take_of_length_le]
  rw [nV_len, nV_len]
  show l.length ≤ l.length + 2 - 2
  omega
theorem all_lt (l : List Nat) (k : Nat) : ((l.map fun (n : Nat) => decide ((n : Int) < (k : Int))).all id) = l.all fun n => decide (n < k) := by
  rw [List.all_map]
  congr 1
  funext n
  exact decide_eq_decide.mpr (by omega)
abbrev nBal : List Str := ["self", "numbers", "flight", "height"]
theorem scAddBal : FnScope nBal ["self", "numbers"] (defScope sAddBal) := ⟨rfl, rfl, rfl, by decide +kernel, rfl, by decide +kernel, by decide +kernel⟩
section
variable {P : Program} {w : World} {K : PySem.W.Frag} {mg : Str → Option Value} {base : Heap} {CB CW CD CR : Addr}
theorem ok_addBal {f : Addr} {fd : FuncData} (F : Fun K "add_balloon" "Desk.add_balloon" sAddBal f fd) (T : Txt K mg CB CW CD) (C : Con mg) (G1 : CalX P w K mg base 3 "need" (spNeed CR)) (G2 : Mak P w K mg base 1 "Balloon" CB (spBalInit CB)) :
    FnOk P w K mg base (L2.CX P w) 4 f fd ["self", "numbers"] (spCall CB CW CD CR tBal) := by
  refine F.okX scAddBal (fun vs H Q E h => ?_) (fun cdv A outer s H vs Q E hr h => ?_)
  · obtain ⟨G, d, h, bs, np, f, ns, c, rfl, _⟩ := h
    rfl
  · obtain ⟨G, d, h, bs, np, f, ns, cl, rfl, D, hnp, ht, hF, qE, q⟩ := h
    obtain ⟨x, y, l, rfl, h8, rfl⟩ : ∃ x y l, ns = x :: y :: l ∧ l.length ≤ 8 ∧ cl = .balloon x y l := by
      match ns, ht with
      | x :: y :: l, ht =>
        have ht' : (if l.length ≤ 8 then some (Si93.Call.balloon x y l) else none) = some cl := ht
        by_cases c : l.length ≤ 8
        · rw [if_pos c] at ht'
          exact ⟨x, y, l, rfl, c, (Option.some.inj ht').symm⟩
        · rw [if_neg c] at ht'
          cases ht'
    refine ⟨_, pss_cons (ps_set (i := 2) scAddBal.nd rfl (.inl rfl) (pe_slice sl_list (pv 1) (po_some pe_int) po_none))
      (pss_cons (ps_expr (pe_cx G1 hr (by decide) (pass_of (E := E) rfl rfl rfl rfl) (by rfl) (pa_cons (pe_and (pe_cmpR op_le (pe_ix ix_list (pv 1) pe_int (fun _ _ => rfl)) (pe_op op_mul pe_int (pe_const C.placeA (by rfl))) (nomark _))
          (pe_one (pe_cmpR op_le (pe_ix ix_list (pv 1) pe_int (fun _ _ => rfl)) (pe_op op_mul pe_int (pe_const C.placeA (by rfl))) (nomark _)))) (pa_cons (pe_const C.bad (by rfl)) pa_nil))))
      (pss_cons (ps_expr (pe_cx G1 hr (by decide) (pass_of (E := E) rfl rfl rfl rfl) (by rfl) (pa_cons (pe_and (pe_cmpR op_le (pe_callB call_len_seq (by rfl) T.mLen PySem.boot_len (pa_cons (pv 2) pa_nil)) (pe_const C.mFlight (by rfl)) (nomark _))
          (pe_one (pe_callB (cr_all rfl) (by rfl) T.mAll (by decide +kernel) (pa_cons (pe_lc (own := [("height", 3)]) (g := gName 3) (tt := tYes) (te := tOp (rI0 fun i j => .bl (decide (i < j))) (tVar 3) (tFld K (tFld K (tVar 0) "winds") "heights")) rfl scAddBal.nd
          (pi_list (pv 2)) (blkOk_by (N := nBal) (sc := defScope sAddBal) (by decide +kernel)) (fun _ _ _ _ _ => pg_name (i := 3) scAddBal.nd rfl (.inl rfl)) (fun _ _ _ _ _ => pts_nil)
          (fun _ _ _ _ _ => pe_cmpR op_lt (pv 3) (pe_fld (pe_fld (pv 0) rfl) rfl) (nomark _))) pa_nil)))) (pa_cons (pe_const C.bad (by rfl)) pa_nil))))
      (pss_cons (ps_expr (pe_cx G1 hr (by decide) (pass_of (E := E) rfl rfl rfl rfl) (by rfl) (pa_cons (pe_cmpR op_lt (pe_callB call_len_seq (by rfl) T.mLen PySem.boot_len (pa_cons (pe_fld (pv 0) rfl) pa_nil)) (pe_const C.mBals (by rfl)) (nomark _)) (pa_cons (pe_const C.full (by rfl)) pa_nil))))
      (pss_cons (ps_expr (pe_bm PySem.F.plainAttrs_list PySem.F.slot_list_append PySem.F.type_list_append mt_append (pe_fld (pv 0) rfl) (pa_cons
          (pe_mk G2 hr (by decide) (by rfl) (pa_cons (pe_op op_sub (pe_ix ix_list (pv 1) pe_int (fun _ _ => rfl)) (pe_const C.placeA (by rfl))) (pa_cons (pe_op op_sub (pe_ix ix_list (pv 1) pe_int (fun _ _ => rfl)) (pe_const C.placeA (by rfl))) (pa_cons (pv 2) pa_nil)))) pa_nil)))
      (pss_one (ps_ret (pe_lst (pa_cons (pe_op op_sub (pe_callB call_len_seq (by rfl) T.mLen PySem.boot_len (pa_cons (pe_fld (pv 0) rfl) pa_nil)) pe_int) pa_nil)))))))), ?_⟩
    obtain ⟨dx, w0, dw0, hxs, bxs, D⟩ := D
    have hd := D.hd
    have hbl := paired_len D.pb
    refine ⟨_, rfl, _, rfl, np, _, rfl, SqL.of hnp, fun fl nfl => ?_⟩
    rw [cut2]
    have s1 := same_upd (o := .lst (nV l)) nfl
    have hnp1 := s1 _ _ hnp
    have D1 := D.same s1
    have hfl : (upd H fl (.lst (nV l))) fl = some (.lst (nV l)) := upd_same
    generalize upd H fl (.lst (nV l)) = H1 at *
    refine ⟨_, rfl, np, _, 0, _, rfl, rfl, SqL.of hnp1, at_of (j := 0) rfl (by rfl), _, _, rfl, rfl, .inl ⟨by decide, by decide⟩, _, _, rfl, rfl, _, rfl, ?_⟩
    by_cases c1 : x ≤ 200
    case neg => exact if_false_of (decide_eq_false (show ¬ (x : Int) ≤ 2 * 100 by omega)) ⟨false, -1, rfl, fun z => (nomatch z), fun _ => (qE (-1) (bal_bad (by omega))).same s1⟩
    refine if_true_of (decide_eq_true (show (x : Int) ≤ 2 * 100 by omega)) ⟨_, rfl, np, _, 1, _, rfl, rfl, SqL.of hnp1, at_of (j := 1) rfl (by rfl), _, _, rfl, rfl, .inl ⟨by decide, by decide⟩, _, _, rfl, rfl, ?_⟩
    by_cases c2 : y ≤ 200
    case neg => exact ⟨false, -1, bl_f (show ¬ (y : Int) ≤ 2 * 100 by omega), fun z => (nomatch z), fun _ => (qE (-1) (bal_bad (by omega))).same s1⟩
    refine ⟨true, -1, bl_t (show (y : Int) ≤ 2 * 100 by omega), fun _ => ?_, fun z => (nomatch z)⟩
    refine ⟨_, rfl, fl, _, rfl, .inl (SqL.of hfl), _, _, rfl, rfl, _, rfl, ?_⟩
    have hll : (nV l).length = l.length := nV_len l
    by_cases c3 : l.length ≤ 5
    case neg => exact if_false_of (decide_eq_false (show ¬ ((nV l).length : Int) ≤ 5 by omega)) ⟨false, -1, rfl, fun z => (nomatch z), fun _ => (qE (-1) (bal_bad (by omega))).same s1⟩
    refine if_true_of (decide_eq_true (show ((nV l).length : Int) ≤ 5 by omega)) ?_
    refine ⟨_, rfl, fl, rfl, ⟨_, SqL.of hfl⟩, fun X1 nX1 => lc_flat (ys := (l.map fun (n : Nat) => decide ((n : Int) < (f.heights : Int))).map V.bl) nX1 hfl (by rw [List.length_map, List.length_map, hll]) (Nat.lt_of_le_of_lt (by rw [hll]; exact h8) (by decide)) ?_ ?_⟩
    · rintro i v z H2 R Z hx hy s2 r
      obtain ⟨n, hn, rfl⟩ := of_nV hx
      rw [List.getElem?_map, List.getElem?_map, hn] at hy
      obtain rfl := Option.some.inj hy
      exact ⟨rfl, yes_if ⟨_, rfl, _, rfl, d, CD, dx, _, _, rfl, s2 _ _ D1.hd, T.cD, T.nWinds, lD_winds, w0, CW, dw0, _, _, rfl, s2 _ _ (D1.sub _ _ D1.gw), T.cW, T.nHeights, lW_heights, _, _, rfl, rfl, r⟩⟩
    intro H2 s2 hX1
    refine ⟨X1, _, rfl, SqL.of hX1, ?_⟩
    rw [all_lt l f.heights]
    have s12 := s1.trans s2
    have D2 := D1.same s2
    cases c4 : l.all fun n => decide (n < f.heights) with
    | false => exact ⟨false, -1, rfl, fun z => (nomatch z), fun _ => (qE (-1) (bal_bad (.inr (.inr (.inr c4))))).same s12⟩
    | true =>
    have c14 : ¬ (200 < x ∨ 200 < y ∨ 5 < l.length ∨ (l.all fun h => decide (h < f.heights)) = false) := fun z => by
      rcases z with z | z | z | z
      · omega
      · omega
      · omega
      · rw [c4] at z
        cases z
    refine ⟨true, -1, rfl, fun _ => ?_, fun z => (nomatch z)⟩
    refine ⟨_, rfl, d, CD, dx, _, _, rfl, D2.hd, T.cD, T.nBals, lD_bals, bs, bxs, rfl, .inl (SqL.of D2.hb), _, _, rfl, rfl, ?_⟩
    by_cases c5 : f.balloons.length < 4
    case neg => exact ⟨false, -5, bl_f (show ¬ (bxs.length : Int) < 4 by omega), fun z => (nomatch z), fun _ => (qE (-5) (bal_full c14 (by omega))).same s12⟩
    refine ⟨true, -5, bl_t (show (bxs.length : Int) < 4 by omega), fun _ => ?_, fun z => (nomatch z)⟩
    rw [bal_ok c14 (by omega)] at q
    refine ⟨_, rfl, d, CD, dx, _, _, rfl, D2.hd, T.cD, T.nBals, lD_bals, .inl ⟨rfl, _, SqL.of D2.hb⟩, ?_⟩
    refine ⟨_, rfl, np, _, 0, _, rfl, rfl, SqL.of (s2 _ _ hnp1), at_of (j := 0) rfl (by rfl), _, _, rfl, rfl, _, rfl, np, _, 1, _, rfl, rfl, SqL.of (s2 _ _ hnp1), at_of (j := 1) rfl (by rfl), _, _, rfl, rfl, _, rfl, ?_⟩
    intro b db nb ndb neb
    refine ⟨b, db, _, _, fl, rfl, upd_same, rfl, ?_⟩
    rw [upd_upd]
    have s3 : Same H2 (upd (upd H2 db (.own b)) b (.ins CB db [("east", .int ((x : Int) - 100)), ("north", .int ((y : Int) - 100)), ("flight", .ref fl)])) := Same.upd2 (same_upd ndb) nb
    have hb3 : (upd (upd H2 db (.own b)) b (.ins CB db [("east", .int ((x : Int) - 100)), ("north", .int ((y : Int) - 100)), ("flight", .ref fl)])) b = some (.ins CB db [("east", .int ((x : Int) - 100)), ("north", .int ((y : Int) - 100)), ("flight", .ref fl)]) := upd_same
    have sA := s12.trans s3
    have D3 := D2.same s3
    have hfl3 := s3 _ _ (s2 _ _ hfl)
    have nb0 := none_of_same s12 nb
    generalize upd (upd H2 db (.own b)) b (.ins CB db [("east", .int ((x : Int) - 100)), ("north", .int ((y : Int) - 100)), ("flight", .ref fl)]) = H3 at *
    refine ⟨bs, bxs, .ref b, rfl, rfl, D3.hb, Nat.lt_of_le_of_lt (by rw [hbl]; exact hF.bals) (by decide), ?_⟩
    have fr : ∀ u o, H u = some o → u ≠ d → u ≠ h → u ≠ bs → (upd H3 bs (.lst (bxs ++ [.ref b]))) u = some o := fun u o e _ _ y => by
      rw [upd_ne y]
      exact sA _ _ e
    have hdb : d ≠ bs := fun z => by rw [z, D.hb] at hd; cases hd
    have D5 : DeskS CB CW CD (grow G H (upd H3 bs (.lst (bxs ++ [.ref b])))) (upd H3 bs (.lst (bxs ++ [.ref b]))) d dx w0 dw0 h bs hxs (bxs ++ [.ref b]) { f with balloons := f.balloons ++ [⟨(Si93.told x 100, Si93.told y 100), l⟩] } := by
      have sg := same_grow (H' := upd H3 bs (.lst (bxs ++ [.ref b]))) D.sub
      refine ⟨grow_sub D.sub D.gd D.gh D.gb fr, by rw [grow_old hd]; exact D.gd, by rw [grow_old D.hh]; exact D.gh, by rw [grow_old D.hb]; exact D.gb, D.ne, by rw [upd_ne hdb]; exact D3.hd, sg _ _ D.gw, by rw [upd_ne D.ne]; exact D3.hh, paired_imp (fun _ _ => HourAt.same sg) D.ph, upd_same, ?_⟩
      refine paired_app (paired_imp (fun _ _ => BalRef.same sg) D.pb) (paired_one ⟨b, rfl, db, fl, ?_, ?_⟩)
      · have e : b ≠ bs := fun z => by rw [z, D.hb] at nb0; cases nb0
        rw [grow_new nb0, upd_ne e]
        exact hb3
      · have e : fl ≠ bs := fun z => by rw [z, D.hb] at nfl; cases nfl
        rw [grow_new nfl, upd_ne e]
        exact hfl3
    refine ⟨_, rfl, d, CD, dx, _, _, rfl, D5.hd, T.cD, T.nBals, lD_bals, bs, _, rfl, .inl (SqL.of D5.hb), _, _, rfl, rfl, (by show 1 ≤ sizeLine; decide), fun r nr => ?_⟩
    have s6 := same_upd (o := .lst [.int (((bxs ++ [V.ref b]).length : Int) - 1)]) nr
    have nr0 : H r = none := by
      have rh : r ≠ bs := fun z => by rw [z, upd_same] at nr; cases nr
      rw [upd_ne rh] at nr
      exact none_of_same sA nr
    refine q _ _ h bs r ⟨dx, w0, dw0, _, _, D5.same s6⟩ grow_from (fun b o e y1 y2 y3 => s6 _ _ (fr b o e y1 y2 y3)) (.inl rfl) (.inl rfl) ?_ nr0
    have e : (((bxs ++ [V.ref b]).length : Nat) : Int) - 1 = ((f.balloons.length : Nat) : Int) := by
      rw [List.length_append, hbl]
      show ((f.balloons.length + 1 : Nat) : Int) - 1 = _
      omega
    show _ = some (HO.lst [V.int ((f.balloons.length : Nat) : Int)])
    rw [← e]
    exact upd_same
end
end Bal
/-! ### plans, lands -/
namespace Bal
open PySem PySem.Spec PyProof.Rows L2
theorem drift_field (f : Si93.Field) : ∀ (l : List Nat) (t : Nat) (p : Pl), drift f.winds t p l = f.drift t p l
  | [], _, _ => rfl
  | h :: l, t, p => drift_field f l (t + 1) _
theorem eqv_nil' (ds : List PyData) : PyData.eqv (.list ds) (.list []) = ds.isEmpty := eqv_nil ds
def okPlans (f : Si93.Field) : List (List Nat) := (Si93.rows f.waits f.count).filter (okP f)
theorem plans_data {K : PySem.W.Frag} {H : Hp} {a : Addr} {ls : List (List Nat)} (h : PlansAt H a ls) : ∃ ds, Dp K H (.ref a) (.list ds) ∧ SeqAt.shaped (.list ds) = true ∧ ds.length = ls.length := by
  obtain ⟨xs, hx, hs⟩ := h
  obtain ⟨ds, h1, h2, h3⟩ := dp_each (K := K) (H := H) (F := PlanRef a H) (fun x l hs => by
    obtain ⟨p, rfl, _, hp⟩ := hs
    refine ⟨.list ((Si93.ints l).map PyData.int), .lst (SqL.of hp) (dp_ints (Si93.ints l)), ?_, ?_⟩
    · simp only [PyData.canLay0]
      exact all_can fun d hd => by
        obtain ⟨i, _, rfl⟩ := List.mem_map.mp hd
        exact sm_int i
    · simp only [PyData.depth]
      have := all_depth (n := 0) (ds := (Si93.ints l).map PyData.int) fun d hd => by
        obtain ⟨i, _, rfl⟩ := List.mem_map.mp hd
        simp only [PyData.depth]; omega
      omega) hs
  exact ⟨ds, .lst (SqL.of hx) h1, shaped_list h2, h3⟩
def spPlans (CB CW CD CR : Addr) : Sp := fun vs H Q E => ∃ (G : Hp) (d h bs : Addr) (f : Si93.Field), vs = [.ref d] ∧ DeskIn CB CW CD G H d h bs f ∧ Fine f ∧
  (okPlans f = [] → Refuse CR H E (-6)) ∧ ∀ H' a, Same H H' → H a = none → okPlans f ≠ [] → PlansAt H' a (okPlans f) → Q (.ref a) H'
def spLands (CB CW CD CR : Addr) : Sp := fun vs H Q E => ∃ (G : Hp) (d h bs : Addr) (f : Si93.Field) (i e : Nat), vs = [.ref d, .int (i : Int), .int (e : Int)] ∧ DeskIn CB CW CD G H d h bs f ∧ Fine f ∧ Does CB CW CD CR G H d h bs f (.lands i e) Q E
theorem lands_none {f : Si93.Field} {i e : Nat} (h : f.balloons.length ≤ i) : Si93.step f (.lands i e) = (f, Si93.ok (-2)) := if_pos h
theorem lands_bad {f : Si93.Field} {i e : Nat} (h : ¬ f.balloons.length ≤ i) (h2 : f.waits < e) : Si93.step f (.lands i e) = (f, Si93.ok (-1)) := (if_neg h).trans (if_pos h2)
theorem lands_late {f : Si93.Field} {i e : Nat} (h : ¬ f.balloons.length ≤ i) (h2 : ¬ f.waits < e) (h3 : f.winds.length < e + (f.balloon i).flight.length) : Si93.step f (.lands i e) = (f, Si93.ok (-7)) := (if_neg h).trans ((if_neg h2).trans (if_pos h3))
theorem lands_ok {f : Si93.Field} {i e : Nat} (h : ¬ f.balloons.length ≤ i) (h2 : ¬ f.waits < e) (h3 : ¬ f.winds.length < e + (f.balloon i).flight.length) :
    Si93.step f (.lands i e) = (f, ⟨((e + (f.balloon i).flight.length : Nat) : Int), [(f.lands i e).1, (f.lands i e).2]⟩) := (if_neg h).trans ((if_neg h2).trans (if_neg h3))
theorem balloon_at {f : Si93.Field} {i : Nat} {B : Si93.Balloon} (h : f.balloons[i]? = some B) : f.balloon i = B := by
  unfold Si93.Field.balloon
  rw [List.getD_eq_getElem?_getD, h]
  rfl
theorem scPlans : FnScope ["self", "found"] ["self"] (defScope sPlans) := ⟨rfl, rfl, rfl, by decide +kernel, rfl, by decide +kernel, by decide +kernel⟩
theorem scLands : FnScope ["self", "number", "waits", "balloon"] ["self", "number", "waits"] (defScope sLands) := ⟨rfl, rfl, rfl, by decide +kernel, rfl, by decide +kernel, by decide +kernel⟩
section
variable {P : Program} {w : World} {K : PySem.W.Frag} {mg : Str → Option Value} {base : Heap} {CB CW CD CR : Addr}
theorem ok_plans {f : Addr} {fd : FuncData} (F : Fun K "plans" "Desk.plans" sPlans f fd) (T : Txt K mg CB CW CD) (C : Con mg) (G1 : CalX P w K mg base 3 "need" (spNeed CR)) (G2 : Cal P w K mg base 5 "plans_that_can" (spPlansThat CB CW)) :
    FnOk P w K mg base (L2.CX P w) 6 f fd ["self"] (spPlans CB CW CD CR) := by
  refine F.okX scPlans (fun vs H Q E h => ?_) (fun cdv A outer s H vs Q E hr h => ?_)
  · obtain ⟨G, d, h, bs, f, rfl, _⟩ := h
    rfl
  · obtain ⟨G, d, h, bs, f, rfl, ⟨dx, w0, dw0, hxs, bxs, D⟩, hF, qE, q⟩ := h
    refine ⟨_, pss_cons (ps_set (i := 1) scPlans.nd rfl (.inl rfl) (pe_c G2 hr (by decide) (by rfl) (pa_cons (pe_fld (pv 0) rfl) (pa_cons (pe_fld (pv 0) rfl) (pa_cons (pe_fld (pv 0) rfl) (pa_cons (pe_fld (pv 0) rfl) pa_nil))))))
      (pss_cons (ps_expr (pe_cx G1 hr (by decide) (pass_of (E := E) rfl rfl rfl rfl) (by rfl) (pa_cons (pe_cmpR (op_neD hr.units) (pv 1) (pe_lst pa_nil) (nomark _)) (pa_cons (pe_const C.none_ (by rfl)) pa_nil))))
      (pss_one (ps_ret (pv 1)))), ?_⟩
    have hd := D.hd
    refine ⟨_, rfl, d, CD, dx, _, _, rfl, hd, T.cD, T.nWinds, lD_winds, _, rfl, d, CD, dx, _, _, rfl, hd, T.cD, T.nBals, lD_bals, _, rfl, d, CD, dx, _, _, rfl, hd, T.cD, T.nWait, lD_wait, _, rfl, d, CD, dx, _, _, rfl, hd, T.cD, T.nNear, lD_near, ?_⟩
    refine ⟨w0, h, bs, f, rfl, D.winds, D.bals, hF, fun H1 a s1 na hP => ?_⟩
    refine ⟨_, rfl, Nat.zero_le _, fun z nz => ?_⟩
    have s2 : Same H1 (upd H1 z (.lst [])) := same_upd nz
    have hP2 := hP.same s2
    obtain ⟨ds, d1, d2, d3⟩ := plans_data (K := K) hP2
    refine ⟨.list ds, .list [], d1, .lst (SqL.of upd_same) .nil, d2, shaped_list (fun d hd => by cases hd), ?_⟩
    rw [eqv_nil]
    cases hds : ds with
    | nil =>
      have e : okPlans f = [] := List.eq_nil_of_length_eq_zero (d3.symm.trans (by rw [hds]; rfl))
      exact ⟨false, -6, rfl, fun z => (nomatch z), fun _ => (qE e).same (s1.trans s2)⟩
    | cons x0 l0 =>
      refine ⟨true, -6, rfl, fun _ => ?_, fun z => (nomatch z)⟩
      refine ⟨_, rfl, q _ a (s1.trans s2) na (fun e => ?_) hP2⟩
      have e2 : (okPlans f).length = ds.length := d3.symm
      rw [e, hds] at e2
      cases e2
theorem ok_lands {f : Addr} {fd : FuncData} (F : Fun K "lands" "Desk.lands" sLands f fd) (T : Txt K mg CB CW CD) (C : Con mg) (G1 : CalX P w K mg base 3 "need" (spNeed CR)) (G2 : Met P w K mg base 1 CB "down_behind" (spDown CB)) (G3 : Met P w K mg base 1 CW "many_hours" (spMany CW))
    (G4 : Met P w K mg base 3 CW "landing" (spLanding CB CW)) : FnOk P w K mg base (L2.CX P w) 4 f fd ["self", "number", "waits"] (spLands CB CW CD CR) := by
  refine F.okX scLands (fun vs H Q E h => ?_) (fun cdv A outer s H vs Q E hr h => ?_)
  · obtain ⟨G, d, h, bs, f, i, e, rfl, _⟩ := h
    rfl
  · obtain ⟨G, d, h, bs, f, i, e, rfl, ⟨dx, w0, dw0, hxs, bxs, D⟩, hF, qE, q⟩ := h
    refine ⟨_, pss_cons (ps_expr (pe_cx G1 hr (by decide) (pass_of (E := E) rfl rfl rfl rfl) (by rfl) (pa_cons (pe_cmpR op_lt (pv 1) (pe_callB call_len_seq (by rfl) T.mLen PySem.boot_len (pa_cons (pe_fld (pv 0) rfl) pa_nil)) (nomark _)) (pa_cons (pe_const C.strange (by rfl)) pa_nil))))
      (pss_cons (ps_expr (pe_cx G1 hr (by decide) (pass_of (E := E) rfl rfl rfl rfl) (by rfl) (pa_cons (pe_cmpR op_le (pv 2) (pe_fld (pv 0) rfl) (nomark _)) (pa_cons (pe_const C.bad (by rfl)) pa_nil))))
      (pss_cons (ps_set (i := 3) scLands.nd rfl (.inl rfl) (pe_ix ix_list (pe_fld (pv 0) rfl) (pv 1) (fun _ _ => rfl)))
      (pss_cons (ps_expr (pe_cx G1 hr (by decide) (pass_of (E := E) rfl rfl rfl rfl) (by rfl) (pa_cons (pe_cmpR op_le (pe_mt G2 hr (by decide) (pv 3) (pa_cons (pv 2) pa_nil)) (pe_mt0 G3 hr (by decide) (pe_fld (pv 0) rfl)) (nomark _)) (pa_cons (pe_const C.late (by rfl)) pa_nil))))
      (pss_one (ps_ret (pe_op op_cat (pe_lst (pa_cons (pe_mt G2 hr (by decide) (pv 3) (pa_cons (pv 2) pa_nil)) pa_nil)) (pe_callTy call_list_of (by rfl) T.mList (by decide +kernel) (pa_cons (pe_mt G4 hr (by decide) (pe_fld (pv 0) rfl) (pa_cons (pv 3) (pa_cons (pv 2) pa_nil))) pa_nil)))))))), ?_⟩
    have hd := D.hd
    have hbl := paired_len D.pb
    refine ⟨_, rfl, _, rfl, d, CD, dx, _, _, rfl, hd, T.cD, T.nBals, lD_bals, bs, bxs, rfl, .inl (SqL.of D.hb), _, _, rfl, rfl, ?_⟩
    by_cases c1 : i < f.balloons.length
    case neg => exact ⟨false, -2, bl_f (show ¬ (i : Int) < (bxs.length : Int) by omega), fun z => (nomatch z), fun _ => qE (-2) (lands_none (by omega))⟩
    refine ⟨true, -2, bl_t (show (i : Int) < (bxs.length : Int) by omega), fun _ => ?_, fun z => (nomatch z)⟩
    refine ⟨_, rfl, _, rfl, d, CD, dx, _, _, rfl, hd, T.cD, T.nWait, lD_wait, _, _, rfl, rfl, ?_⟩
    by_cases c2 : e ≤ f.waits
    case neg => exact ⟨false, -1, bl_f (show ¬ (e : Int) ≤ (f.waits : Int) by omega), fun z => (nomatch z), fun _ => qE (-1) (lands_bad (by omega) (by omega))⟩
    refine ⟨true, -1, bl_t (show (e : Int) ≤ (f.waits : Int) by omega), fun _ => ?_, fun z => (nomatch z)⟩
    have hBi : f.balloons[i]? = some f.balloons[i] := List.getElem?_eq_getElem c1
    obtain ⟨v, hv, a, rfl, hBa⟩ := paired_get D.pb hBi
    have hba := balloon_at hBi
    have hmem : f.balloons[i] ∈ f.balloons := List.getElem_mem c1
    generalize f.balloons[i] = B at *
    have hBa1 : BalAt CB H a B := hBa.same D.sub
    obtain ⟨db, lb, hb1, hb2⟩ := id hBa1
    have hw0 := D.sub _ _ D.gw
    refine ⟨_, rfl, d, CD, dx, _, _, rfl, hd, T.cD, T.nBals, lD_bals, _, rfl, bs, bxs, _, _, rfl, rfl, SqL.of D.hb, at_of (j := i) rfl hv, ?_⟩
    refine ⟨_, rfl, a, db, _, rfl, hb1, lB_down, _, rfl, a, B, e, rfl, hBa1, ?_⟩
    refine ⟨_, rfl, d, CD, dx, _, _, rfl, hd, T.cD, T.nWinds, lD_winds, w0, dw0, _, rfl, hw0, lW_none (by decide +kernel) (by decide +kernel), w0, h, f.heights, f.winds, rfl, D.winds, _, _, rfl, rfl, ?_⟩
    by_cases c3 : e + B.flight.length ≤ f.winds.length
    case neg => exact ⟨false, -7, bl_f (show ¬ ((e + B.flight.length : Nat) : Int) ≤ (f.winds.length : Int) by omega), fun z => (nomatch z), fun _ => qE (-7) (lands_late (by omega) (by omega) (by rw [hba]; omega))⟩
    refine ⟨true, -7, bl_t (show ((e + B.flight.length : Nat) : Int) ≤ (f.winds.length : Int) by omega), fun _ => ?_, fun z => (nomatch z)⟩
    rw [lands_ok (by omega) (by omega) (by rw [hba]; omega), hba] at q
    refine ⟨_, rfl, a, db, _, rfl, hb1, lB_down, _, rfl, a, B, e, rfl, hBa1, (by show 1 ≤ sizeLine; decide), fun r nr => ?_⟩
    have s1 := same_upd (o := .lst [.int ((e + B.flight.length : Nat) : Int)]) nr
    have D1 := D.same s1
    refine ⟨_, rfl, d, CD, dx, _, _, rfl, D1.hd, T.cD, T.nWinds, lD_winds, w0, dw0, _, rfl, s1 _ _ hw0, lW_none (by decide +kernel) (by decide +kernel), _, rfl, _, rfl, ?_⟩
    refine ⟨w0, h, a, f.heights, e, f.winds, B, rfl, D1.winds, hBa1.same s1, hF.fits hmem, c3, fun H2 x s2 hx => ?_⟩
    obtain ⟨t, rfl, ht⟩ := hx
    refine ⟨t, _, rfl, .inr (SqT.of ht), fun l2 nl2 => ?_⟩
    have s3 := same_upd (o := .lst [.int (drift f.winds e B.at_ B.flight).1, .int (drift f.winds e B.at_ B.flight).2]) nl2
    refine ⟨r, l2, _, _, rfl, rfl, s3 _ _ (s2 _ _ upd_same), upd_same, (by show 3 ≤ sizeLine; decide), fun p np => ?_⟩
    have s4 := same_upd (o := .lst ([.int ((e + B.flight.length : Nat) : Int)] ++ [.int (drift f.winds e B.at_ B.flight).1, .int (drift f.winds e B.at_ B.flight).2])) np
    refine Answers.stays q ⟨dx, w0, dw0, _, _, D⟩ (((s1.trans s2).trans s3).trans s4) ?_ (none_of_same ((s1.trans s2).trans s3) np)
    rw [upd_same, drift_field]
    unfold Si93.Field.lands
    rw [hba]
    rfl
end
end Bal
/-! ### the mathematics: who is too near -/
namespace Bal
open PySem PySem.Spec
def lLt (a b : List Int) : Bool := PySem.W.listLt a b
theorem lLt_nil (b : Int) (l : List Int) : lLt [] (b :: l) = true := by
  unfold lLt
  simp [PySem.W.listLt]
theorem lLt_none (l : List Int) : lLt l [] = false := by
  unfold lLt
  cases l <;> simp [PySem.W.listLt]
theorem lLt_cons (a b : Int) (l m : List Int) : lLt (a :: l) (b :: m) = if a = b then lLt l m else decide (a < b) := by
  unfold lLt
  by_cases h : a = b
  · subst h
    simp [PySem.W.listLt]
  · simp [PySem.W.listLt, h]
    rfl
theorem lLt_trans : ∀ {a b c : List Int}, lLt a b = true → lLt b c = true → lLt a c = true
  | _, _, [], _, h => by rw [lLt_none] at h; cases h
  | _, [], _ :: _, h, _ => by rw [lLt_none] at h; cases h
  | [], _ :: _, _ :: _, _, _ => lLt_nil _ _
  | a :: l, b :: m, c :: n, h1, h2 => by
    rw [lLt_cons] at h1 h2 ⊢
    by_cases e1 : a = b
    · subst e1
      rw [if_pos rfl] at h1
      by_cases e2 : a = c
      · subst e2
        rw [if_pos rfl] at h2 ⊢
        exact lLt_trans h1 h2
      · rw [if_neg e2] at h2 ⊢
        exact h2
    · rw [if_neg e1, decide_eq_true_eq] at h1
      by_cases e2 : b = c
      · subst e2
        rw [if_neg e1, decide_eq_true_eq]
        exact h1
      · rw [if_neg e2, decide_eq_true_eq] at h2
        rw [if_neg (by omega), decide_eq_true_eq]
        omega
theorem lLt_irr : ∀ a : List Int, lLt a a = false
  | [] => lLt_none _
  | a :: l => by rw [lLt_cons, if_pos rfl, lLt_irr l]
theorem lLt_total : ∀ {a b : List Int}, lLt a b = false → a = b ∨ lLt b a = true
  | [], [], _ => .inl rfl
  | [], b :: m, h => by rw [lLt_nil] at h; cases h
  | a :: l, [], _ => .inr (lLt_nil _ _)
  | a :: l, b :: m, h => by
    rw [lLt_cons] at h
    by_cases e : a = b
    · subst e
      rw [if_pos rfl] at h
      rcases lLt_total h with e | e
      · rw [e]
        exact .inl rfl
      · right
        rw [lLt_cons, if_pos rfl]
        exact e
    · rw [if_neg e, decide_eq_false_iff_not] at h
      right
      rw [lLt_cons, if_neg (Ne.symm e), decide_eq_true_eq]
      omega
theorem minT_eq (y : List Int) : ∀ ys : List (List Int), minT y ys = ys.foldl (fun a b => if lLt b a = true then b else a) y := by
  intro ys
  unfold minT PySem.W.minOf
  induction ys generalizing y with
  | nil => rfl
  | cons b ys ih =>
    rw [List.map_cons, List.foldl_cons, List.foldl_cons, ← ih]
    congr 2
    show (if PySem.W.listLt b y = true then (⟨b⟩ : PySem.W.Tup Int) else ⟨y⟩) = ⟨if PySem.W.listLt b y = true then b else y⟩
    split <;> rfl
/-- the least is one of them, none is less -/
theorem minT_least : ∀ (ys : List (List Int)) (y : List Int), minT y ys ∈ y :: ys ∧ ∀ z ∈ y :: ys, lLt z (minT y ys) = false := by
  intro ys
  induction ys with
  | nil =>
    intro y
    refine ⟨List.mem_cons_self, fun z hz => ?_⟩
    rw [List.mem_singleton.mp hz]
    exact lLt_irr y
  | cons b ys ih =>
    intro y
    have e : minT y (b :: ys) = minT (if lLt b y = true then b else y) ys := by
      rw [minT_eq, minT_eq, List.foldl_cons]
    rw [e]
    obtain ⟨h1, h2⟩ := ih (if lLt b y = true then b else y)
    by_cases c : lLt b y = true
    · rw [if_pos c] at h1 h2 ⊢
      refine ⟨List.mem_cons_of_mem _ h1, fun z hz => ?_⟩
      rcases List.mem_cons.mp hz with rfl | hz
      · cases d : lLt z (minT b ys) with
        | false => rfl
        | true =>
          have := lLt_trans c d
          rw [h2 b List.mem_cons_self] at this
          cases this
      · exact h2 z hz
    · rw [if_neg c] at h1 h2 ⊢
      refine ⟨?_, fun z hz => ?_⟩
      · rcases List.mem_cons.mp h1 with h1 | h1
        · rw [h1]
          exact List.mem_cons_self
        · exact List.mem_cons_of_mem _ (List.mem_cons_of_mem _ h1)
      · rcases List.mem_cons.mp hz with rfl | hz
        · exact h2 z List.mem_cons_self
        · rcases List.mem_cons.mp hz with rfl | hz
          · cases d : lLt z (minT y ys) with
            | false => rfl
            | true =>
              -- z is not less than y; y is not less than the least
              have hy := h2 y List.mem_cons_self
              refine absurd ?_ c
              rcases lLt_total hy with e | e
              · rw [← e] at d
                exact d
              · exact lLt_trans d e
          · exact h2 z (List.mem_cons_of_mem _ hz)
/-! ### sought in a sorted list -/
theorem find_sorted {α : Type} {lt : α → α → Prop} {p : α → Bool} {x : α} : ∀ {l : List α}, l.Pairwise lt → x ∈ l → p x = true → (∀ y ∈ l, lt y x → p y = false) → l.find? p = some x
  | [], _, h, _, _ => by cases h
  | a :: l, hs, h, hp, hn => by
    obtain ⟨h1, h2⟩ := List.pairwise_cons.mp hs
    rcases List.mem_cons.mp h with rfl | h
    · rw [List.find?_cons, hp]
    · rw [List.find?_cons, hn a List.mem_cons_self (h1 x h)]
      exact find_sorted h2 h hp fun y hy => hn y (List.mem_cons_of_mem _ hy)
theorem find_none {α : Type} {p : α → Bool} {l : List α} (h : ∀ y ∈ l, p y = false) : l.find? p = none := by
  rw [List.find?_eq_none]
  intro y hy
  rw [h y hy]
  decide
/-- the order of hours and pairs -/
def lt2 (a b : Nat × Nat) : Prop := a.1 < b.1 ∨ (a.1 = b.1 ∧ a.2 < b.2)
def lt3 (a b : Nat × Nat × Nat) : Prop := a.1 < b.1 ∨ (a.1 = b.1 ∧ lt2 a.2 b.2)
theorem pairs_sorted (f : Si93.Field) : f.pairs.Pairwise lt2 := by
  unfold Si93.Field.pairs
  rw [List.pairwise_flatMap]
  refine ⟨fun i _ => ?_, List.Pairwise.imp ?_ (List.pairwise_lt_range (n := f.count))⟩
  · rw [List.pairwise_map]
    exact List.Pairwise.imp (fun h => .inr ⟨rfl, h⟩) (List.Pairwise.filter _ (List.pairwise_lt_range (n := f.count)))
  · intro a b h x hx y hy
    obtain ⟨_, _, rfl⟩ := List.mem_map.mp hx
    obtain ⟨_, _, rfl⟩ := List.mem_map.mp hy
    exact .inl h
def spots (f : Si93.Field) : List (Nat × Nat × Nat) := (List.range f.winds.length).flatMap fun t => f.pairs.map fun x => (t, x.1, x.2)
theorem spots_sorted (f : Si93.Field) : (spots f).Pairwise lt3 := by
  unfold spots
  rw [List.pairwise_flatMap]
  refine ⟨fun t _ => ?_, List.Pairwise.imp ?_ (List.pairwise_lt_range (n := f.winds.length))⟩
  · rw [List.pairwise_map]
    exact List.Pairwise.imp (fun h => .inr ⟨rfl, h⟩) (pairs_sorted f)
  · intro a b h x hx y hy
    obtain ⟨_, _, rfl⟩ := List.mem_map.mp hx
    obtain ⟨_, _, rfl⟩ := List.mem_map.mp hy
    exact .inl h
theorem mem_pairs {f : Si93.Field} {i k : Nat} : (i, k) ∈ f.pairs ↔ i < k ∧ k < f.count := by
  unfold Si93.Field.pairs
  constructor
  · intro h
    obtain ⟨a, ha, h⟩ := List.mem_flatMap.mp h
    obtain ⟨b, hb, e⟩ := List.mem_map.mp h
    cases e
    obtain ⟨h1, h2⟩ := List.mem_filter.mp hb
    exact ⟨of_decide_eq_true h2, List.mem_range.mp h1⟩
  · rintro ⟨h1, h2⟩
    exact List.mem_flatMap.mpr ⟨i, List.mem_range.mpr (by omega), List.mem_map.mpr ⟨k, List.mem_filter.mpr ⟨List.mem_range.mpr h2, decide_eq_true h1⟩, rfl⟩⟩
theorem mem_spots {f : Si93.Field} {t i k : Nat} : (t, i, k) ∈ spots f ↔ t < f.winds.length ∧ i < k ∧ k < f.count := by
  unfold spots
  constructor
  · intro h
    obtain ⟨a, ha, h⟩ := List.mem_flatMap.mp h
    obtain ⟨⟨b, c⟩, hb, e⟩ := List.mem_map.mp h
    cases e
    exact ⟨List.mem_range.mp ha, mem_pairs.mp hb⟩
  · rintro ⟨h1, h2⟩
    exact List.mem_flatMap.mpr ⟨t, List.mem_range.mpr h1, List.mem_map.mpr ⟨(i, k), mem_pairs.mpr h2, rfl⟩⟩
end Bal
/-! ### the mathematics: ways and clashes -/
namespace Bal
open PySem PySem.Spec
/-- a balloon's way by a plan -/
theorem drift_field' (f : Si93.Field) : ∀ (l : List Nat) (t : Nat) (p : Pl), drift f.winds t p l = f.drift t p l
  | [], _, _ => rfl
  | h :: l, t, p => drift_field' f l (t + 1) _
def wayOf (f : Si93.Field) (i e : Nat) : List Stp := wy f.winds e (f.balloon i).at_ (f.balloon i).flight
theorem there_mem {f : Si93.Field} {i e t h : Nat} {q : Pl} : f.there i e t = some (h, q) ↔ (t, h, q) ∈ wayOf f i e := by
  unfold wayOf Si93.Field.there
  show (if e ≤ t ∧ t < e + (f.balloon i).flight.length then some ((f.balloon i).flight.getD (t - e) 0, f.drift e (f.balloon i).at_ ((f.balloon i).flight.take (t + 1 - e))) else none) = some (h, q) ↔ _
  generalize f.balloon i = B
  constructor
  · intro hh
    by_cases c : e ≤ t ∧ t < e + B.flight.length
    · rw [if_pos c] at hh
      have hh := Option.some.inj hh
      have c2 : t - e < B.flight.length := by omega
      have g : B.flight[t - e]? = some B.flight[t - e] := List.getElem?_eq_getElem c2
      have w := wy_get f.winds B.flight e B.at_ (t - e) _ g
      have e1 : e + (t - e) = t := by omega
      have e2 : t - e + 1 = t + 1 - e := by omega
      rw [e1, e2, drift_field'] at w
      rw [List.getD_eq_getElem?_getD, g] at hh
      cases hh
      exact List.mem_of_getElem? w
    · rw [if_neg c] at hh
      cases hh
  · intro hm
    obtain ⟨j, hj⟩ := List.getElem?_of_mem hm
    have lj : j < B.flight.length := by
      have := (List.getElem?_eq_some_iff.mp hj).1
      rw [wy_len] at this
      exact this
    have g : B.flight[j]? = some B.flight[j] := List.getElem?_eq_getElem lj
    rw [wy_get f.winds B.flight e B.at_ j _ g] at hj
    have hj := Option.some.inj hj
    have h1 : e + j = t := congrArg (·.1) hj
    have h2 : B.flight[j] = h := congrArg (·.2.1) hj
    have h3 : drift f.winds e B.at_ (B.flight.take (j + 1)) = q := congrArg (·.2.2) hj
    subst h1
    have e1 : e + j - e = j := by omega
    have e2 : e + j + 1 - e = j + 1 := by omega
    rw [if_pos (by omega), e1, e2, List.getD_eq_getElem?_getD, g, ← drift_field', h3, ← h2]
    rfl
theorem between_lt {p q : Pl} {n : Nat} : Si93.between p q < n ↔ sq p q < (n : Int) := by
  unfold Si93.between sq
  have h1 : 0 ≤ (p.1 - q.1) * (p.1 - q.1) := by
    rcases Int.le_total 0 (p.1 - q.1) with h | h
    · exact Int.mul_nonneg h h
    · exact Int.mul_nonneg_of_nonpos_of_nonpos h h
  have h2 : 0 ≤ (p.2 - q.2) * (p.2 - q.2) := by
    rcases Int.le_total 0 (p.2 - q.2) with h | h
    · exact Int.mul_nonneg h h
    · exact Int.mul_nonneg_of_nonpos_of_nonpos h h
  have e1 : (p.1 - q.1) ^ 2 = (p.1 - q.1) * (p.1 - q.1) := by rw [Int.pow_succ, Int.pow_succ, Int.pow_zero, Int.one_mul]
  have e2 : (p.2 - q.2) ^ 2 = (p.2 - q.2) * (p.2 - q.2) := by rw [Int.pow_succ, Int.pow_succ, Int.pow_zero, Int.one_mul]
  rw [e1, e2]
  omega
theorem clash_iff {f : Si93.Field} {i e k d t : Nat} : f.clash i e k d t = true ↔ ∃ a ∈ wayOf f i e, ∃ b ∈ wayOf f k d, a.1 = t ∧ hit f.near a b = true := by
  unfold Si93.Field.clash
  constructor
  · intro h
    cases h1 : f.there i e t with
    | none => rw [h1] at h; cases h
    | some x =>
      cases h2 : f.there k d t with
      | none => rw [h1, h2] at h; cases h
      | some y =>
        rw [h1, h2] at h
        obtain ⟨x1, x2⟩ := x
        obtain ⟨y1, y2⟩ := y
        have h : (x1 == y1 && decide (Si93.between x2 y2 < f.near)) = true := h
        rw [Bool.and_eq_true, beq_iff_eq, decide_eq_true_eq] at h
        refine ⟨_, there_mem.mp h1, _, there_mem.mp h2, rfl, ?_⟩
        unfold hit
        rw [Bool.and_eq_true, Bool.and_eq_true, decide_eq_true_eq, decide_eq_true_eq, decide_eq_true_eq]
        exact ⟨⟨rfl, h.1⟩, between_lt.mp h.2⟩
  · rintro ⟨⟨a1, a2, a3⟩, ha, ⟨b1, b2, b3⟩, hb, rfl, hh⟩
    unfold hit at hh
    rw [Bool.and_eq_true, Bool.and_eq_true, decide_eq_true_eq, decide_eq_true_eq, decide_eq_true_eq] at hh
    obtain ⟨⟨e1, e2⟩, e3⟩ := hh
    have e1 : a1 = b1 := e1
    subst e1
    rw [there_mem.mpr ha, there_mem.mpr hb]
    show (a2 == b2 && decide (Si93.between a3 b3 < f.near)) = true
    rw [Bool.and_eq_true, beq_iff_eq, decide_eq_true_eq]
    exact ⟨e2, between_lt.mpr e3⟩
theorem wy_from (ws : List (List Pl)) : ∀ (l : List Nat) (t : Nat) (p : Pl), ∀ s ∈ wy ws t p l, t ≤ s.1 ∧ s.1 < t + l.length
  | [], _, _, s, h => by cases h
  | x :: l, t, p, s, h => by
    have hl : (x :: l).length = l.length + 1 := rfl
    rcases List.mem_cons.mp h with rfl | h
    · show t ≤ t ∧ t < t + _
      omega
    · have := wy_from ws l (t + 1) _ s h
      omega
theorem wy_sorted (ws : List (List Pl)) : ∀ (l : List Nat) (t : Nat) (p : Pl), (wy ws t p l).Pairwise fun a b => a.1 < b.1
  | [], _, _ => .nil
  | x :: l, t, p => by
    refine .cons (fun s hs => ?_) (wy_sorted ws l (t + 1) _)
    have := (wy_from ws l (t + 1) _ s hs).1
    show t < s.1
    omega
theorem meet_no {other : List Stp} {near : Int} : ∀ {one : List Stp}, meet one other near = none → ∀ a ∈ one, ∀ b ∈ other, hit near a b = false := by
  intro one h a ha b hb
  unfold meet at h
  rw [List.findSome?_eq_none_iff] at h
  have := h a ha
  cases c : hit near a b with
  | false => rfl
  | true =>
    rw [if_pos (List.any_eq_true.mpr ⟨b, hb, c⟩)] at this
    cases this
theorem meet_first {other : List Stp} {near : Int} {t : Nat} : ∀ {one : List Stp}, one.Pairwise (fun a b => a.1 < b.1) → meet one other near = some t → (∃ a ∈ one, ∃ b ∈ other, a.1 = t ∧ hit near a b = true) ∧ ∀ a ∈ one, ∀ b ∈ other, hit near a b = true → t ≤ a.1
  | [], _, h => by cases h
  | a :: one, hs, h => by
    obtain ⟨h1, h2⟩ := List.pairwise_cons.mp hs
    unfold meet at h
    rw [List.findSome?_cons] at h
    by_cases c : other.any (hit near a) = true
    · rw [if_pos c] at h
      have e : a.1 = t := Option.some.inj h
      obtain ⟨b, hb, hh⟩ := List.any_eq_true.mp c
      refine ⟨⟨a, List.mem_cons_self, b, hb, e, hh⟩, fun a' ha' b' _ _ => ?_⟩
      rcases List.mem_cons.mp ha' with rfl | ha'
      · omega
      · have := h1 a' ha'
        omega
    · rw [if_neg c] at h
      have h : meet one other near = some t := h
      obtain ⟨⟨a1, m1, b1, m2, e, hh⟩, h4⟩ := meet_first h2 h
      refine ⟨⟨a1, List.mem_cons_of_mem _ m1, b1, m2, e, hh⟩, fun a' ha' b' hb' hh' => ?_⟩
      rcases List.mem_cons.mp ha' with rfl | ha'
      · exact absurd (List.any_eq_true.mpr ⟨b', hb', hh'⟩) c
      · exact h4 a' ha' b' hb' hh'
theorem ways_get {f : Si93.Field} {plan : List Nat} (hl : plan.length = f.balloons.length) {i : Nat} (hi : i < f.balloons.length) : (waysOf f plan).getD i [] = wayOf f i (plan.getD i 0) := by
  have h1 : f.balloons[i]? = some f.balloons[i] := List.getElem?_eq_getElem hi
  have h2 : plan[i]? = some (plan[i]'(by omega)) := List.getElem?_eq_getElem _
  have hz : (f.balloons.zip plan)[i]? = some (f.balloons[i], plan[i]'(by omega)) := List.getElem?_zip_eq_some.mpr ⟨h1, h2⟩
  unfold waysOf wayOf Si93.Field.balloon
  rw [List.getD_eq_getElem?_getD, List.getElem?_map, hz, List.getD_eq_getElem?_getD, List.getD_eq_getElem?_getD, h1, h2]
  rfl
theorem ways_len {f : Si93.Field} {plan : List Nat} (hl : plan.length = f.balloons.length) : (waysOf f plan).length = f.balloons.length := by
  unfold waysOf
  rw [List.length_map, List.length_zip, hl]
  exact Nat.min_self _
theorem mem_clashes {f : Si93.Field} {plan : List Nat} (hl : plan.length = f.balloons.length) {z : List Int} : z ∈ clashes (waysOf f plan) f.near ↔
    ∃ t i k : Nat, i < k ∧ k < f.balloons.length ∧ meet (wayOf f i (plan.getD i 0)) (wayOf f k (plan.getD k 0)) f.near = some t ∧ z = [(t : Int), (i : Int), (k : Int)] := by
  have wl := ways_len hl
  unfold clashes clashTo clashIn
  constructor
  · intro h
    obtain ⟨i, hi, h⟩ := List.mem_flatMap.mp h
    obtain ⟨m, hm, h⟩ := List.mem_flatMap.mp h
    have hi := List.mem_range.mp hi
    have hm := List.mem_range.mp hm
    rw [wl] at hi hm
    unfold clash1 at h
    rw [ways_get hl hi, ways_get hl (i := i + 1 + m) (by omega)] at h
    cases c : meet (wayOf f i (plan.getD i 0)) (wayOf f (i + 1 + m) (plan.getD (i + 1 + m) 0)) f.near with
    | none => rw [c] at h; cases h
    | some t =>
      rw [c] at h
      exact ⟨t, i, i + 1 + m, by omega, by omega, c, List.mem_singleton.mp h⟩
  · rintro ⟨t, i, k, hik, hk, c, rfl⟩
    refine List.mem_flatMap.mpr ⟨i, List.mem_range.mpr (by omega), List.mem_flatMap.mpr ⟨k - (i + 1), List.mem_range.mpr (by omega), ?_⟩⟩
    have e : i + 1 + (k - (i + 1)) = k := by omega
    unfold clash1
    rw [e, ways_get hl (i := i) (by omega), ways_get hl hk, c]
    exact List.mem_singleton.mpr rfl
theorem in_time_at {f : Si93.Field} {plan : List Nat} (hl : plan.length = f.balloons.length) (hT : InTime f plan) {i : Nat} (hi : i < f.balloons.length) : plan.getD i 0 + (f.balloon i).flight.length ≤ f.winds.length := by
  have h1 : f.balloons[i]? = some f.balloons[i] := List.getElem?_eq_getElem hi
  have h2 : plan[i]? = some (plan[i]'(by omega)) := List.getElem?_eq_getElem _
  have hz : (f.balloons.zip plan)[i]? = some (f.balloons[i], plan[i]'(by omega)) := List.getElem?_zip_eq_some.mpr ⟨h1, h2⟩
  have := hT _ (List.mem_of_getElem? hz)
  unfold Si93.Field.balloon
  rw [List.getD_eq_getElem?_getD, List.getD_eq_getElem?_getD, h1, h2]
  exact this
def badP (f : Si93.Field) (plan : List Nat) (y : Nat × Nat × Nat) : Bool := f.clash y.2.1 (plan.getD y.2.1 0) y.2.2 (plan.getD y.2.2 0) y.1
theorem bad_eq (f : Si93.Field) (plan : List Nat) : f.bad plan = (spots f).find? (badP f plan) := rfl
theorem bad_none {f : Si93.Field} {plan : List Nat} (hl : plan.length = f.balloons.length) (h : clashes (waysOf f plan) f.near = []) : f.bad plan = none := by
  rw [bad_eq]
  refine find_none fun y hy => ?_
  obtain ⟨t, i, k⟩ := y
  obtain ⟨h1, h2, h3⟩ := mem_spots.mp hy
  cases c : badP f plan (t, i, k) with
  | false => rfl
  | true =>
    obtain ⟨a, ha, b, hb, _, hh⟩ := clash_iff.mp c
    cases m : meet (wayOf f i (plan.getD i 0)) (wayOf f k (plan.getD k 0)) f.near with
    | none =>
      have := meet_no m a ha b hb
      rw [hh] at this
      cases this
    | some t' =>
      have := (mem_clashes hl).mpr ⟨t', i, k, h2, h3, m, rfl⟩
      rw [h] at this
      cases this
theorem bad_some {f : Si93.Field} {plan : List Nat} (hl : plan.length = f.balloons.length) (hT : InTime f plan) {y : List Int} {ys : List (List Int)} (h : clashes (waysOf f plan) f.near = y :: ys) :
    ∃ t i k : Nat, f.bad plan = some (t, i, k) ∧ minT y ys = [(t : Int), (i : Int), (k : Int)] := by
  obtain ⟨h1, h2⟩ := minT_least ys y
  rw [← h] at h1 h2
  obtain ⟨t, i, k, hik, hk, m, e⟩ := (mem_clashes hl).mp h1
  refine ⟨t, i, k, ?_, e⟩
  rw [bad_eq]
  obtain ⟨⟨a, ha, b, hb, e1, hh⟩, hmin⟩ := meet_first (wy_sorted _ _ _ _) m
  have ht : t < f.winds.length := by
    have := (wy_from _ _ _ _ a ha).2
    have := in_time_at hl hT (i := i) (by omega)
    omega
  refine find_sorted (spots_sorted f) (mem_spots.mpr ⟨ht, hik, hk⟩) (clash_iff.mpr ⟨a, ha, b, hb, e1, hh⟩) fun z hz hlt => ?_
  obtain ⟨t', i', k'⟩ := z
  obtain ⟨_, z2, z3⟩ := mem_spots.mp hz
  cases c : badP f plan (t', i', k') with
  | false => rfl
  | true =>
    obtain ⟨a', ha', b', hb', e', hh'⟩ := clash_iff.mp c
    have e' : a'.1 = t' := e'
    cases m' : meet (wayOf f i' (plan.getD i' 0)) (wayOf f k' (plan.getD k' 0)) f.near with
    | none =>
      have := meet_no m' a' ha' b' hb'
      rw [hh'] at this
      cases this
    | some t'' =>
      have hle := (meet_first (wy_sorted _ _ _ _) m').2 a' ha' b' hb' hh'
      have hm := (mem_clashes hl).mpr ⟨t'', i', k', z2, z3, m', rfl⟩
      have no := h2 _ hm
      rw [e] at no
      have yes : lLt [(t'' : Int), (i' : Int), (k' : Int)] [(t : Int), (i : Int), (k : Int)] = true := by
        rw [lLt_cons]
        by_cases d1 : (t'' : Int) = (t : Int)
        · rw [if_pos d1, lLt_cons]
          have hlt : t' < t ∨ (t' = t ∧ (i' < i ∨ (i' = i ∧ k' < k))) := hlt
          by_cases d2 : (i' : Int) = (i : Int)
          · rw [if_pos d2, lLt_cons, if_neg (by omega), decide_eq_true_eq]
            omega
          · rw [if_neg d2, decide_eq_true_eq]
            omega
        · have hlt : t' < t ∨ (t' = t ∧ (i' < i ∨ (i' = i ∧ k' < k))) := hlt
          rw [if_neg d1, decide_eq_true_eq]
          omega
      rw [yes] at no
      cases no
theorem right_is {f : Si93.Field} {plan : List Nat} (ht : f.told plan = true) : f.right plan = okP f plan := by
  have hl : plan.length = f.balloons.length := by
    unfold Si93.Field.told at ht
    rw [Bool.and_eq_true, beq_iff_eq] at ht
    exact ht.1
  unfold Si93.Field.right okP
  rw [ht, Bool.true_and]
  cases hla : f.late plan with
  | some i => rfl
  | none =>
    cases hc : clashes (waysOf f plan) f.near with
    | nil => rw [bad_none hl hc]; rfl
    | cons y ys =>
      obtain ⟨t, i, k, hb, _⟩ := bad_some hl (inTime_of hla) hc
      rw [hb]
      rfl
end Bal
/-! ### the mathematics: the best plan -/
namespace Bal
open PySem PySem.Spec
theorem rows_mem (k : Nat) : ∀ n, ∀ l ∈ Si93.rows k n, l.length = n ∧ ∀ e ∈ l, e ≤ k
  | 0, l, h => by
    rw [List.mem_singleton.mp h]
    exact ⟨rfl, fun e he => by cases he⟩
  | n + 1, l, h => by
    obtain ⟨t, ht, h⟩ := List.mem_flatMap.mp h
    obtain ⟨l', h', rfl⟩ := List.mem_map.mp h
    obtain ⟨h1, h2⟩ := rows_mem k n l' h'
    refine ⟨by rw [List.length_cons, h1], fun e he => ?_⟩
    rcases List.mem_cons.mp he with rfl | he
    · have := List.mem_range.mp ht
      omega
    · exact h2 e he
theorem plans_are (f : Si93.Field) : okPlans f = f.plans := by
  unfold okPlans Si93.Field.plans
  refine List.filter_congr fun l hl => ?_
  obtain ⟨h1, h2⟩ := rows_mem _ _ l hl
  have ht : f.told l = true := by
    unfold Si93.Field.told
    rw [Bool.and_eq_true, beq_iff_eq, List.all_eq_true]
    exact ⟨h1, fun e he => decide_eq_true (h2 e he)⟩
  rw [right_is ht]
section
variable (g h : List Nat → Nat)
def bstep (r : Option Si93.Best) (l : List Nat) : Option Si93.Best := match r with
  | none => some ⟨g l, h l, 1, l⟩
  | some x => if Si93.better (g l) (h l) x.first x.second = true then some ⟨g l, h l, 1, l⟩ else if g l = x.first ∧ h l = x.second then some { x with many := x.many + 1 } else some x
theorem bestBy_eq (f : Si93.Field) : f.bestBy g h = f.plans.foldl (bstep g h) none := rfl
theorem better_iff {a b c d : Nat} : Si93.better a b c d = true ↔ a < c ∨ (a = c ∧ b < d) := by
  unfold Si93.better
  rw [Bool.or_eq_true, Bool.and_eq_true, decide_eq_true_eq, decide_eq_true_eq, beq_iff_eq]
def eqP (x : Si93.Best) (l : List Nat) : Bool := decide (g l = x.first ∧ h l = x.second)
theorem eqP_one {x : Si93.Best} {p : List Nat} (c : g p = x.first ∧ h p = x.second) : [p].filter (eqP g h x) = [p] := by
  have e : eqP g h x p = true := decide_eq_true c
  rw [List.filter_cons, e, if_pos rfl, List.filter_nil]
def BInv (done : List (List Nat)) (x : Si93.Best) : Prop := (∀ p ∈ done, Si93.better (g p) (h p) x.first x.second = false) ∧ ∃ rest, done.filter (eqP g h x) = x.row :: rest ∧ x.many = rest.length + 1
theorem binv_step {done : List (List Nat)} {x : Si93.Best} {p : List Nat} (I : BInv g h done x) : ∃ x', bstep g h (some x) p = some x' ∧ BInv g h (done ++ [p]) x' := by
  obtain ⟨I1, rest, I2, I3⟩ := I
  unfold bstep
  by_cases c : Si93.better (g p) (h p) x.first x.second = true
  · refine ⟨⟨g p, h p, 1, p⟩, if_pos c, fun q hq => ?_, [], ?_, rfl⟩
    · cases d : Si93.better (g q) (h q) (g p) (h p) with
      | false => rfl
      | true =>
        rcases List.mem_append.mp hq with hq | hq
        · have no := I1 q hq
          rw [better_iff] at c d
          have yes : Si93.better (g q) (h q) x.first x.second = true := better_iff.mpr (by omega)
          rw [no] at yes
          cases yes
        · rw [List.mem_singleton.mp hq, better_iff] at d
          omega
    · rw [List.filter_append]
      have e1 : done.filter (eqP g h ⟨g p, h p, 1, p⟩) = [] := by
        rw [List.filter_eq_nil_iff]
        intro q hq hh
        have hh : g q = g p ∧ h q = h p := of_decide_eq_true hh
        have no := I1 q hq
        rw [hh.1, hh.2, c] at no
        cases no
      have e2 : [p].filter (eqP g h ⟨g p, h p, 1, p⟩) = [p] := eqP_one g h ⟨rfl, rfl⟩
      rw [e1, e2]
      rfl
  · by_cases c2 : g p = x.first ∧ h p = x.second
    · refine ⟨{ x with many := x.many + 1 }, (if_neg c).trans (if_pos c2), fun q hq => ?_, rest ++ [p], ?_, ?_⟩
      · rcases List.mem_append.mp hq with hq | hq
        · exact I1 q hq
        · rw [List.mem_singleton.mp hq]
          exact Bool.eq_false_iff.mpr c
      · rw [List.filter_append]
        have e1 : done.filter (eqP g h { x with many := x.many + 1 }) = x.row :: rest := I2
        have e2 : [p].filter (eqP g h { x with many := x.many + 1 }) = [p] := eqP_one g h c2
        rw [e1, e2]
        rfl
      · show x.many + 1 = (rest ++ [p]).length + 1
        rw [List.length_append, I3]
        rfl
    · refine ⟨x, (if_neg c).trans (if_neg c2), fun q hq => ?_, rest, ?_, I3⟩
      · rcases List.mem_append.mp hq with hq | hq
        · exact I1 q hq
        · rw [List.mem_singleton.mp hq]
          exact Bool.eq_false_iff.mpr c
      · rw [List.filter_append, I2]
        have e2 : [p].filter (eqP g h x) = [] := by
          rw [List.filter_cons, if_neg (by rw [eqP, decide_eq_false c2]; decide), List.filter_nil]
        rw [e2, List.append_nil]
theorem binv_all : ∀ (ps done : List (List Nat)) (x : Si93.Best), BInv g h done x → ∃ x', ps.foldl (bstep g h) (some x) = some x' ∧ BInv g h (done ++ ps) x'
  | [], done, x, I => ⟨x, rfl, by rw [List.append_nil]; exact I⟩
  | p :: ps, done, x, I => by
    obtain ⟨x1, e1, I1⟩ := binv_step g h (p := p) I
    obtain ⟨x2, e2, I2⟩ := binv_all ps (done ++ [p]) x1 I1
    refine ⟨x2, ?_, ?_⟩
    · rw [List.foldl_cons, e1]
      exact e2
    · rw [List.append_assoc] at I2
      exact I2
theorem binv_plans (p : List Nat) (ps : List (List Nat)) : ∃ x, (p :: ps).foldl (bstep g h) none = some x ∧ BInv g h (p :: ps) x := by
  have I : BInv g h [p] ⟨g p, h p, 1, p⟩ := by
    refine ⟨fun q hq => ?_, [], ?_, rfl⟩
    · rw [List.mem_singleton.mp hq]
      cases d : Si93.better (g p) (h p) (g p) (h p) with
      | false => rfl
      | true =>
        rw [better_iff] at d
        omega
    · exact eqP_one g h ⟨rfl, rfl⟩
  obtain ⟨x, e, I'⟩ := binv_all g h ps [p] _ I
  exact ⟨x, e, I'⟩
def worth (l : List Nat) : List Int := [(g l : Int), (h l : Int)]
theorem sames_map (m : List Int) : ∀ plans : List (List Nat), sames m (plans.map (worth g h)) plans = plans.filter fun l => decide (worth g h l = m)
  | [] => rfl
  | l :: plans => by
    have ih := sames_map m plans
    unfold sames at ih ⊢
    rw [List.map_cons, List.zip_cons_cons, List.filter_cons, List.filter_cons]
    by_cases c : worth g h l = m
    · rw [if_pos (decide_eq_true c), if_pos (decide_eq_true c), List.map_cons, ih]
    · rw [if_neg (by rw [decide_eq_false c]; decide), if_neg (by rw [decide_eq_false c]; decide), ih]
theorem lLt_two {a b c d : Nat} : lLt [(a : Int), (b : Int)] [(c : Int), (d : Int)] = Si93.better a b c d := by
  rw [lLt_cons, Bool.eq_iff_iff, better_iff]
  by_cases e : (a : Int) = (c : Int)
  · rw [if_pos e, lLt_cons]
    by_cases e2 : (b : Int) = (d : Int)
    · rw [if_pos e2, lLt_none]
      constructor
      · intro z; cases z
      · omega
    · rw [if_neg e2, decide_eq_true_eq]
      omega
  · rw [if_neg e, decide_eq_true_eq]
    omega
theorem best_is {plans : List (List Nat)} {y : List Int} {ys : List (List Int)} (e : plans.map (worth g h) = y :: ys) :
    ∃ x, plans.foldl (bstep g h) none = some x ∧ minT y ys = [(x.first : Int), (x.second : Int)] ∧ ∃ rest, sames (minT y ys) (y :: ys) plans = x.row :: rest ∧ x.many = rest.length + 1 := by
  cases plans with
  | nil => cases e
  | cons p ps =>
    obtain ⟨x, hx, I1, rest, I2, I3⟩ := binv_plans g h p ps
    refine ⟨x, hx, ?_⟩
    have hrow : x.row ∈ (p :: ps).filter (eqP g h x) := by rw [I2]; exact List.mem_cons_self
    obtain ⟨m1, m2⟩ := List.mem_filter.mp hrow
    have m2 : g x.row = x.first ∧ h x.row = x.second := of_decide_eq_true m2
    have mw : [(x.first : Int), (x.second : Int)] ∈ y :: ys := by
      rw [← e]
      exact List.mem_map.mpr ⟨x.row, m1, by unfold worth; rw [m2.1, m2.2]⟩
    obtain ⟨l1, l2⟩ := minT_least ys y
    have hmin : minT y ys = [(x.first : Int), (x.second : Int)] := by
      have l3 := l2 _ mw
      rcases lLt_total l3 with z | z
      · exact z.symm
      · rw [← e] at l1
        obtain ⟨q, hq, eq⟩ := List.mem_map.mp l1
        rw [← eq] at z
        have no := I1 q hq
        have z' : lLt [(g q : Int), (h q : Int)] [(x.first : Int), (x.second : Int)] = true := z
        rw [lLt_two, no] at z'
        cases z'
    refine ⟨hmin, rest, ?_, I3⟩
    rw [← e, sames_map, hmin, ← I2]
    congr 1
    funext l
    unfold eqP worth
    refine decide_eq_decide.mpr ?_
    constructor
    · intro z
      injection z with z1 z2
      injection z2 with z2 _
      exact ⟨Int.ofNat.inj z1, Int.ofNat.inj z2⟩
    · rintro ⟨z1, z2⟩
      rw [z1, z2]
end
end Bal
/-! ### check -/
namespace Bal
open PySem PySem.Spec PyProof.Rows L2
def tCheck (l : List Nat) : Option Si93.Call := if l.length ≤ 6 then some (.check l) else none
theorem check_bad {f : Si93.Field} {l : List Nat} (h : f.told l = false) : Si93.step f (.check l) = (f, Si93.ok (-1)) := if_pos h
theorem check_late {f : Si93.Field} {l : List Nat} {i : Nat} (h : f.told l = true) (h2 : f.late l = some i) : Si93.step f (.check l) = (f, ⟨-7, Si93.ints [i]⟩) := by
  show (if f.told l = false then _ else _) = _
  rw [if_neg (by rw [h]; decide), h2]
theorem check_near {f : Si93.Field} {l : List Nat} {x : Nat × Nat × Nat} (h : f.told l = true) (h2 : f.late l = none) (h3 : f.bad l = some x) : Si93.step f (.check l) = (f, ⟨-6, Si93.ints [x.1, x.2.1, x.2.2]⟩) := by
  show (if f.told l = false then _ else _) = _
  rw [if_neg (by rw [h]; decide), h2, h3]
theorem check_ok {f : Si93.Field} {l : List Nat} (h : f.told l = true) (h2 : f.late l = none) (h3 : f.bad l = none) :
    Si93.step f (.check l) = (f, ⟨((f.down l : Nat) : Int), (List.range f.count).flatMap fun i => [(f.lands i (l.getD i 0)).1, (f.lands i (l.getD i 0)).2]⟩) := by
  show (if f.told l = false then _ else _) = _
  rw [if_neg (by rw [h]; decide), h2, h3]
theorem zip_range {f : Si93.Field} {plan : List Nat} (h : plan.length = f.balloons.length) : f.balloons.zip plan = (List.range f.count).map fun i => (f.balloon i, plan.getD i 0) := by
  apply List.ext_getElem?
  intro i
  rw [List.getElem?_map]
  by_cases hi : i < f.balloons.length
  · have h1 : (f.balloons.zip plan)[i]? = some (f.balloons[i], plan[i]'(by rw [h]; exact hi)) := List.getElem?_zip_eq_some.mpr ⟨List.getElem?_eq_getElem hi, List.getElem?_eq_getElem _⟩
    rw [h1, range_at (n := f.count) hi]
    refine congrArg some ?_
    show _ = (f.balloons.getD i ⟨(0, 0), []⟩, plan.getD i 0)
    rw [List.getD_eq_getElem?_getD, List.getD_eq_getElem?_getD, List.getElem?_eq_getElem hi, List.getElem?_eq_getElem (by rw [h]; exact hi)]
    rfl
  · have h1 : (f.balloons.zip plan)[i]? = none := List.getElem?_eq_none (by rw [List.length_zip, h, Nat.min_self]; omega)
    have h2 : (List.range f.count)[i]? = none := List.getElem?_eq_none (by rw [List.length_range]; show f.balloons.length ≤ i; omega)
    rw [h1, h2]
    rfl
/-- where all land, by twos -/
def land1 (f : Si93.Field) (x : Si93.Balloon × Nat) : List Int := [(drift f.winds x.2 x.1.at_ x.1.flight).1, (drift f.winds x.2 x.1.at_ x.1.flight).2]
theorem lands_all {f : Si93.Field} {plan : List Nat} (h : plan.length = f.balloons.length) : (f.balloons.zip plan).flatMap (land1 f) = (List.range f.count).flatMap fun i => [(f.lands i (plan.getD i 0)).1, (f.lands i (plan.getD i 0)).2] := by
  rw [zip_range h, List.flatMap_map]
  congr 1
  funext i
  unfold land1 Si93.Field.lands
  rw [drift_field]
theorem land_more {f : Si93.Field} {l : List (Si93.Balloon × Nat)} {i : Nat} {x : Si93.Balloon × Nat} (h : l[i]? = some x) : (l.take (i + 1)).flatMap (land1 f) = (l.take i).flatMap (land1 f) ++ land1 f x := by
  rw [take_more h, List.flatMap_append]
  simp
theorem land_len {f : Si93.Field} (l : List (Si93.Balloon × Nat)) : (l.flatMap (land1 f)).length = 2 * l.length := by
  induction l with
  | nil => rfl
  | cons x l ih =>
    rw [List.flatMap_cons, List.length_append, ih, List.length_cons]
    show 2 + 2 * l.length = _
    omega
abbrev nCheck : List Str := ["self", "plan", "late", "close", "told", "balloon", "waits"]
theorem scCheck : FnScope nCheck ["self", "plan"] (defScope sCheck) := ⟨rfl, rfl, rfl, by decide +kernel, rfl, by decide +kernel, by decide +kernel⟩
section
variable {P : Program} {w : World} {K : PySem.W.Frag} {mg : Str → Option Value} {base : Heap} {CB CW CD CR : Addr}
theorem ok_check {f : Addr} {fd : FuncData} (F : Fun K "check" "Desk.check" sCheck f fd) (T : Txt K mg CB CW CD) (C : Con mg) (G1 : CalX P w K mg base 3 "need" (spNeed CR)) (G2 : Cal P w K mg base 2 "too_late" (spTooLate CB CW)) (G3 : Cal P w K mg base 3 "too_near" (spTooNear CB CW))
    (G5 : Cal P w K mg base 2 "all_down" (spAllDown CB)) (G4 : Met P w K mg base 3 CW "landing" (spLanding CB CW)) : FnOk P w K mg base (L2.CX P w) 4 f fd ["self", "plan"] (spCall CB CW CD CR tCheck) := by
  refine F.okX scCheck (fun vs H Q E h => ?_) (fun cdv A outer s H vs Q E hr h => ?_)
  · obtain ⟨G, d, h, bs, np, f, ns, c, rfl, _⟩ := h
    rfl
  · obtain ⟨G, d, h, bs, np, f, ns, cl, rfl, D, hnp, ht, hF, qE, q⟩ := h
    obtain ⟨h6, rfl⟩ : ns.length ≤ 6 ∧ cl = .check ns := by
      unfold tCheck at ht
      by_cases c : ns.length ≤ 6
      · rw [if_pos c] at ht
        exact ⟨c, (Option.some.inj ht).symm⟩
      · rw [if_neg c] at ht
        cases ht
    refine ⟨_, pss_cons (ps_expr (pe_cx G1 hr (by decide) (pass_of (E := E) rfl rfl rfl rfl) (by rfl) (pa_cons (pe_and (pe_cmp (pc_eqI (pe_callB call_len_seq (by rfl) T.mLen PySem.boot_len (pa_cons (pv 1) pa_nil)) (pe_callB call_len_seq (by rfl) T.mLen PySem.boot_len (pa_cons (pe_fld (pv 0) rfl) pa_nil))))
          (pe_one (pe_callB (cr_all rfl) (by rfl) T.mAll (by decide +kernel) (pa_cons (pe_lc (own := [("waits", 6)]) (g := gName 6) (tt := tYes) (te := tOp (rI0 fun i j => .bl (decide (i ≤ j))) (tVar 6) (tFld K (tVar 0) "most_wait")) rfl scCheck.nd
          (pi_list (pv 1)) (blkOk_by (N := nCheck) (sc := defScope sCheck) (by decide +kernel)) (fun _ _ _ _ _ => pg_name (i := 6) scCheck.nd rfl (.inl rfl)) (fun _ _ _ _ _ => pts_nil)
          (fun _ _ _ _ _ => pe_cmpR op_le (pv 6) (pe_fld (pv 0) rfl) (nomark _))) pa_nil)))) (pa_cons (pe_const C.bad (by rfl)) pa_nil))))
      (pss_cons (ps_set (i := 2) scCheck.nd rfl (.inl rfl) (pe_c G2 hr (by decide) (by rfl) (pa_cons (pe_fld (pv 0) rfl) (pa_cons (pe_fld (pv 0) rfl) (pa_cons (pv 1) pa_nil)))))
      (pss_cons (ps_if (pt_cmp (pc_notN (pv 2))) (pss_one (ps_ret (pe_lst (pa_cons (pe_const C.late (by rfl)) (pa_cons (pv 2) pa_nil))))) pss_nil)
      (pss_cons (ps_set (i := 3) scCheck.nd rfl (.inl rfl) (pe_c G3 hr (by decide) (by rfl) (pa_cons (pe_fld (pv 0) rfl) (pa_cons (pe_fld (pv 0) rfl) (pa_cons (pv 1) (pa_cons (pe_fld (pv 0) rfl) pa_nil))))))
      (pss_cons (ps_if (pt_cmp (pc_notN (pv 3))) (pss_one (ps_ret (pe_op op_cat (pe_lst (pa_cons (pe_const C.none_ (by rfl)) pa_nil)) (pe_callTy call_list_of (by rfl) T.mList (by decide +kernel) (pa_cons (pv 3) pa_nil))))) pss_nil)
      (pss_cons (ps_set (i := 4) scCheck.nd rfl (.inl rfl) (pe_lst (pa_cons (pe_c G5 hr (by decide) (by rfl) (pa_cons (pe_fld (pv 0) rfl) (pa_cons (pv 1) pa_nil))) pa_nil)))
      (pss_cons (ps_for (passes_of rfl) rfl (pi_zip (by rfl) T.mZip (pa_cons (pe_fld (pv 0) rfl) (pa_cons (pv 1) pa_nil))) (pg_tup rfl (pgs_cons (pg_name (i := 5) scCheck.nd rfl (.inl rfl)) (pgs_cons (pg_name (i := 6) scCheck.nd rfl (.inl rfl)) pgs_nil)))
        (pss_one (ps_expr (pe_bm PySem.F.plainAttrs_list PySem.F.slot_list_extend PySem.F.type_list_extend mt_extend (pv 4) (pa_cons (pe_callTy call_list_of (by rfl) T.mList (by decide +kernel) (pa_cons (pe_mt G4 hr (by decide) (pe_fld (pv 0) rfl) (pa_cons (pv 5) (pa_cons (pv 6) pa_nil))) pa_nil)) pa_nil)))))
      (pss_one (ps_ret (pv 4))))))))), ?_⟩
    obtain ⟨dx, w0, dw0, hxs, bxs, D⟩ := D
    have hd := D.hd
    have hbl := paired_len D.pb
    have hns : (nV ns).length = ns.length := nV_len ns
    have hsz : (nV ns).length < sizeLine := Nat.lt_of_le_of_lt (by rw [hns]; exact h6) (by decide)
    refine ⟨_, rfl, np, _, rfl, .inl (SqL.of hnp), _, rfl, d, CD, dx, _, _, rfl, hd, T.cD, T.nBals, lD_bals, bs, bxs, rfl, .inl (SqL.of D.hb), _, _, rfl, rfl, _, rfl, ?_⟩
    by_cases c1 : ns.length = f.balloons.length
    case neg => exact if_false_of (beq_f (show ¬ ((nV ns).length : Int) = (bxs.length : Int) by omega)) ⟨false, -1, rfl, fun z => (nomatch z), fun _ => qE (-1) (check_bad (by
      unfold Si93.Field.told
      rw [show (ns.length == f.count) = false from beq_eq_false_iff_ne.mpr c1, Bool.false_and]))⟩
    refine if_true_of (beq_t (show ((nV ns).length : Int) = (bxs.length : Int) by omega)) ?_
    refine ⟨_, rfl, np, rfl, ⟨_, SqL.of hnp⟩, fun D1 nD1 => lc_flat (ys := (ns.map fun (n : Nat) => decide ((n : Int) ≤ (f.waits : Int))).map V.bl) nD1 hnp (by rw [List.length_map, List.length_map, hns]) hsz ?_ ?_⟩
    · rintro i x y H1 R Z hx hy s1 r
      obtain ⟨n, hn, rfl⟩ := of_nV hx
      rw [List.getElem?_map, List.getElem?_map, hn] at hy
      obtain rfl := Option.some.inj hy
      exact ⟨rfl, yes_if ⟨_, rfl, _, rfl, d, CD, dx, _, _, rfl, s1 _ _ hd, T.cD, T.nWait, lD_wait, _, _, rfl, rfl, r⟩⟩
    intro H1 s1 hD1
    refine ⟨D1, _, rfl, SqL.of hD1, ?_⟩
    rw [all_bits ns f.waits]
    have told_is : f.told ns = ns.all fun n => decide (n ≤ f.waits) := by
      unfold Si93.Field.told
      rw [show (ns.length == f.count) = true from beq_iff_eq.mpr c1, Bool.true_and]
    cases c2 : ns.all fun n => decide (n ≤ f.waits) with
    | false => exact ⟨false, -1, rfl, fun z => (nomatch z), fun _ => (qE (-1) (check_bad (told_is.trans c2))).same s1⟩
    | true =>
    have ht : f.told ns = true := told_is.trans c2
    refine ⟨true, -1, rfl, fun _ => ?_, fun z => (nomatch z)⟩
    have E1 := D.same s1
    refine ⟨_, rfl, d, CD, dx, _, _, rfl, E1.hd, T.cD, T.nWinds, lD_winds, _, rfl, d, CD, dx, _, _, rfl, E1.hd, T.cD, T.nBals, lD_bals, _, rfl, ?_⟩
    refine ⟨w0, h, bs, np, f, ns, rfl, E1.winds, E1.bals, s1 _ _ hnp, c1, fun H2 s2 => ?_⟩
    have s12 := s1.trans s2
    have E2 := D.same s12
    cases hla : f.late ns with
    | some i =>
      refine ⟨_, rfl, _, rfl, iteT ?_⟩
      refine ⟨_, rfl, (by show 2 ≤ sizeLine; decide), fun p np' => ?_⟩
      rw [check_late ht hla] at q
      exact Answers.stays q ⟨dx, w0, dw0, _, _, D⟩ (s12.trans (same_upd np')) upd_same (none_of_same s12 np')
    | none =>
      refine ⟨_, rfl, _, rfl, iteF ?_⟩
      refine ⟨_, rfl, d, CD, dx, _, _, rfl, E2.hd, T.cD, T.nWinds, lD_winds, _, rfl, d, CD, dx, _, _, rfl, E2.hd, T.cD, T.nBals, lD_bals, _, rfl, _, rfl, d, CD, dx, _, _, rfl, E2.hd, T.cD, T.nNear, lD_near, ?_⟩
      have hT := inTime_of hla
      refine ⟨w0, h, bs, np, f, ns, rfl, E2.winds, E2.bals, s12 _ _ hnp, hF, c1, hT, fun H3 s3 => ⟨fun e => ?_, fun y ys x e hx => ?_⟩⟩
      rotate_left
      · obtain ⟨t, i, k, hb, hm⟩ := bad_some c1 hT e
        rw [hm] at hx
        obtain ⟨tt, rfl, htt⟩ := hx
        refine ⟨_, rfl, _, rfl, iteT ?_⟩
        refine ⟨(by show 1 ≤ sizeLine; decide), fun r nr => ?_⟩
        have s4 := same_upd (o := .lst [.int (-6)]) nr
        refine ⟨_, rfl, tt, _, rfl, .inr (SqT.of (s4 _ _ htt)), fun l nl => ?_⟩
        have s5 := same_upd (o := .lst ([(t : Int), (i : Int), (k : Int)].map V.int)) nl
        refine ⟨r, l, _, _, rfl, rfl, s5 _ _ upd_same, upd_same, (by show 4 ≤ sizeLine; decide), fun p np' => ?_⟩
        rw [check_near ht hla hb] at q
        exact Answers.stays q ⟨dx, w0, dw0, _, _, D⟩ ((((s12.trans s3).trans s4).trans s5).trans (same_upd np')) upd_same (none_of_same (((s12.trans s3).trans s4).trans s5) np')
      · refine ⟨_, rfl, _, rfl, iteF ?_⟩
        rw [check_ok ht hla (bad_none c1 e)] at q
        have s13 := s12.trans s3
        have E3 := D.same s13
        refine ⟨_, rfl, d, CD, dx, _, _, rfl, E3.hd, T.cD, T.nBals, lD_bals, _, rfl, bs, np, f, ns, rfl, E3.bals, s13 _ _ hnp, hF.bals, c1, fun H4 s4 => ?_⟩
        refine ⟨(by show 1 ≤ sizeLine; decide), fun tl ntl => ?_⟩
        have s14 := s13.trans s4
        have s5 := same_upd (o := .lst [.int (f.down ns : Int)]) ntl
        have s15 := s14.trans s5
        have E5 := D.same s15
        have ntl0 := none_of_same s14 ntl
        have pb5 : Paired (BalRef CB H) bxs f.balloons := paired_imp (fun _ _ => BalRef.same D.sub) D.pb
        refine ⟨_, rfl, d, CD, dx, _, _, rfl, E5.hd, T.cD, T.nBals, lD_bals, _, rfl, bs, np, bxs, nV ns, rfl, SqL.of E5.hb, SqL.of (s15 _ _ hnp), ?_⟩
        refine for_it (walk_zip (n := f.balloons.length) (by rw [hns, hbl, c1]; exact (Nat.min_self _).symm))
          (fun i σ H' => ∃ v5 v6, σ = [some (.ref d), some (.ref np), some .non, some .non, some (.ref tl), v5, v6] ∧ Same H H' ∧ H' tl = some (.lst ((((f.down ns : Nat) : Int) :: ((f.balloons.zip ns).take i).flatMap (land1 f)).map V.int)))
          ⟨none, none, rfl, s15, upd_same⟩ (fun i σ H' _ ⟨_, _, _, s6, _⟩ => ⟨SqL.of (s6 _ _ D.hb), SqL.of (s6 _ _ hnp)⟩) ?_ ?_
        · rintro i x σ H6 H7 hi ⟨v5, v6, rfl, s6, htl⟩ ⟨T', x', y', rfl, nT, rfl, ex, ey⟩
          obtain ⟨B, hB1, a, rfl, hBa⟩ := paired_get1 pb5 ex
          obtain ⟨e0, he, rfl⟩ := of_nV ey
          have hz : (f.balloons.zip ns)[i]? = some (B, e0) := List.getElem?_zip_eq_some.mpr ⟨hB1, he⟩
          have s7 : Same H6 (upd H6 T' (.tup [.ref a, .int (e0 : Int)])) := same_upd nT
          have s67 := s6.trans s7
          have E7 := D.same s67
          refine ⟨T', _, rfl, SqT.of upd_same, rfl, _, _, rfl, _, _, rfl, rfl, ?_⟩
          refine ⟨_, rfl, .inl ⟨rfl, _, SqL.of (s7 _ _ htl)⟩, ?_⟩
          refine ⟨_, rfl, d, CD, dx, _, _, rfl, E7.hd, T.cD, T.nWinds, lD_winds, w0, dw0, _, rfl, E7.sub _ _ D.gw, lW_none (by decide +kernel) (by decide +kernel), _, rfl, _, rfl, ?_⟩
          refine ⟨w0, h, a, f.heights, e0, f.winds, B, rfl, E7.winds, hBa.same s67, hF.fits (List.mem_of_getElem? hB1), hT _ (List.mem_of_getElem? hz), fun H8 x s8 hx => ?_⟩
          obtain ⟨t, rfl, ht8⟩ := hx
          refine ⟨t, _, rfl, .inr (SqT.of ht8), fun l nl => ?_⟩
          have s9 := same_upd (o := .lst [.int (drift f.winds e0 B.at_ B.flight).1, .int (drift f.winds e0 B.at_ B.flight).2]) nl
          have s79 := (s7.trans s8).trans s9
          refine ⟨tl, l, _, _, rfl, rfl, s79 _ _ htl, upd_same, Nat.le_trans ?_ (show 20 ≤ sizeLine by decide), ?_⟩
          · rw [List.length_map, List.length_cons, land_len, List.length_take]
            have h4 := hF.bals
            have : min i (f.balloons.zip ns).length ≤ 4 := by omega
            show 2 * _ + 1 + 2 ≤ 20
            omega
          · refine ⟨_, _, rfl, Same.upd2 (s6.trans s79) ntl0, ?_⟩
            rw [upd_same, land_more hz, ← List.cons_append, List.map_append]
            rfl
        · rintro σ H6 ⟨v5, v6, rfl, s6, htl⟩
          have zl : f.balloons.length = (f.balloons.zip ns).length := by rw [List.length_zip, c1, Nat.min_self]
          rw [zl, List.take_length, lands_all c1] at htl
          exact ⟨_, rfl, Answers.stays q ⟨dx, w0, dw0, _, _, D⟩ s6 htl ntl0⟩
end
end Bal
/-! ### best, soonest -/
namespace Bal
open PySem PySem.Spec PyProof.Rows L2
theorem sum_ints : ∀ l : List Nat, (Si93.ints l).sum = ((Si93.waited l : Nat) : Int)
  | [] => rfl
  | n :: l => by
    have ih := sum_ints l
    unfold Si93.ints Si93.waited at ih ⊢
    rw [List.map_cons, List.sum_cons, List.sum_cons, ih]
    omega
theorem okPlans_len {f : Si93.Field} (hF : Fine f) : (okPlans f).length ≤ 256 := Nat.le_trans (List.length_filter_le _ _) (rows_le hF.waits hF.bals)
theorem okPlans_each {f : Si93.Field} {l : List Nat} (h : l ∈ okPlans f) : l.length = f.balloons.length := rows_len _ _ l (List.mem_filter.mp h).1
theorem best_none_best {f : Si93.Field} (e : okPlans f = []) : Si93.step f .best = (f, Si93.ok (-6)) := by
  show (f, Si93.toldBest (f.bestBy Si93.waited f.down)) = _
  rw [bestBy_eq, ← plans_are, e]
  rfl
theorem best_none_soonest {f : Si93.Field} (e : okPlans f = []) : Si93.step f .soonest = (f, Si93.ok (-6)) := by
  show (f, Si93.toldBest (f.bestBy f.down Si93.waited)) = _
  rw [bestBy_eq, ← plans_are, e]
  rfl
theorem best_some_best {f : Si93.Field} {x : Si93.Best} (e : (okPlans f).foldl (bstep Si93.waited f.down) none = some x) : Si93.step f .best = (f, ⟨((x.first : Nat) : Int), Si93.ints (x.second :: x.many :: x.row)⟩) := by
  show (f, Si93.toldBest (f.bestBy Si93.waited f.down)) = _
  rw [bestBy_eq, ← plans_are, e]
  rfl
theorem best_some_soonest {f : Si93.Field} {x : Si93.Best} (e : (okPlans f).foldl (bstep f.down Si93.waited) none = some x) : Si93.step f .soonest = (f, ⟨((x.first : Nat) : Int), Si93.ints (x.second :: x.many :: x.row)⟩) := by
  show (f, Si93.toldBest (f.bestBy f.down Si93.waited)) = _
  rw [bestBy_eq, ← plans_are, e]
  rfl
def spMeth0 (CB CW CD CR : Addr) (c : Si93.Call) : Sp := fun vs H Q E => ∃ (G : Hp) (d h bs : Addr) (f : Si93.Field), vs = [.ref d] ∧ DeskIn CB CW CD G H d h bs f ∧ Fine f ∧ Does CB CW CD CR G H d h bs f c Q E
abbrev nBest : List Str := ["self", "plans", "least", "many", "plan"]
theorem scBest : FnScope nBest ["self"] (defScope sBest) := ⟨rfl, rfl, rfl, by decide +kernel, rfl, by decide +kernel, by decide +kernel⟩
section
variable {P : Program} {w : World} {K : PySem.W.Frag} {mg : Str → Option Value} {base : Heap} {CB CW CD CR : Addr}
theorem ok_best {f : Addr} {fd : FuncData} (F : Fun K "best" "Desk.best" sBest f fd) (T : Txt K mg CB CW CD) (G1 : MetX P w K mg base 6 CD "plans" (spPlans CB CW CD CR)) (G2 : Cal P w K mg base 1 "least_of" spLeast)
    (G5 : Cal P w K mg base 2 "all_down" (spAllDown CB)) : FnOk P w K mg base (L2.CX P w) 7 f fd ["self"] (spMeth0 CB CW CD CR .best) := by
  refine F.okX scBest (fun vs H Q E h => ?_) (fun cdv A outer s H vs Q E hr h => ?_)
  · obtain ⟨G, d, h, bs, f, rfl, _⟩ := h
    rfl
  · obtain ⟨G, d, h, bs, f, rfl, D, hF, qE, q⟩ := h
    refine ⟨_, pss_cons (ps_set (i := 1) scBest.nd rfl (.inl rfl) (pe_mtx0 G1 hr (by decide) (pass_of (E := E) rfl rfl rfl rfl) (pv 0)))
      (pss_cons (ps_asg (pe_c G2 hr (by decide) (by rfl) (pa_cons (pv 1) (pa_cons (pe_lc (own := [("plan", 4)]) (g := gName 4) (tt := tYes) (te := tTup (tCons (tCB (rSum K) (tCons (tVar 4) tNil)) (tCons (tCall (spAllDown CB) [] E0 (tCons (tFld K (tVar 0) "balloons") (tCons (tVar 4) tNil))) tNil))) rfl scBest.nd
          (pi_list (pv 1)) (blkOk_by (N := nBest) (sc := defScope sBest) (by decide +kernel)) (fun _ _ _ _ _ => pg_name (i := 4) scBest.nd rfl (.inl rfl)) (fun _ _ _ _ _ => pts_nil)
          (fun _ _ _ _ _ => pe_tup (pa_cons (pe_callB (cr_sum rfl) (by rfl) T.mSum (by decide +kernel) (pa_cons (pv 4) pa_nil)) (pa_cons (pe_c G5 hr (by decide) (by rfl) (pa_cons (pe_fld (pv 0) rfl) (pa_cons (pv 4) pa_nil))) pa_nil)))) pa_nil)))
        (pg_tup rfl (pgs_cons (pg_name (i := 2) scBest.nd rfl (.inl rfl)) (pgs_cons (pg_name (i := 3) scBest.nd rfl (.inl rfl)) (pgs_cons (pg_name (i := 4) scBest.nd rfl (.inl rfl)) pgs_nil)))))
      (pss_one (ps_ret (pe_op op_cat (pe_op op_cat (pe_callTy call_list_of (by rfl) T.mList (by decide +kernel) (pa_cons (pv 2) pa_nil)) (pe_lst (pa_cons (pv 3) pa_nil))) (pv 4))))), ?_⟩
    obtain ⟨dx, w0, dw0, hxs, bxs, D⟩ := D
    have hd := D.hd
    refine ⟨_, rfl, d, dx, _, rfl, hd, lD_none (by decide +kernel) (by decide +kernel) (by decide +kernel) (by decide +kernel), G, d, h, bs, f, rfl, ⟨dx, w0, dw0, hxs, bxs, D⟩, hF, fun e => qE (-6) (best_none_best e), fun H1 a s1 na ne hP => ?_⟩
    have E1 := D.same s1
    obtain ⟨xs, ha, hxp⟩ := id hP
    have hxl := paired_len hxp
    have hok := okPlans_len hF
    refine ⟨_, rfl, _, rfl, a, rfl, ⟨_, SqL.of ha⟩, fun X1 nX1 => lc_list (fun i H' => Same H1 H' ∧ ∃ acc, H' X1 = some (.lst acc) ∧ Paired (TupA H') acc (((okPlans f).take i).map (worth Si93.waited f.down)))
      ⟨same_upd nX1, [], upd_same, by rw [List.take_zero]; exact .nil⟩ (fun i H' _ hh => SqL.of (hh.1 _ _ ha)) ?_ ?_⟩
    · rintro i x H3 hx ⟨s3, acc, hX, hacc⟩
      obtain ⟨l, hl, p, rfl, pa, hp⟩ := paired_get1 hxp hx
      have s13 := s1.trans s3
      have E3 := D.same s13
      have hp3 := s3 _ _ hp
      have hlen := okPlans_each (List.mem_of_getElem? hl)
      refine ⟨rfl, yes_if ?_⟩
      refine ⟨_, rfl, p, Si93.ints l, rfl, SqL.of hp3, ?_⟩
      rw [sum_ints]
      refine ⟨_, rfl, d, CD, dx, _, _, rfl, E3.hd, T.cD, T.nBals, lD_bals, _, rfl, bs, p, f, l, rfl, E3.bals, hp3, hF.bals, hlen, fun H4 s4 => ⟨(by show 2 ≤ sizeLine; decide), fun t nt => ?_⟩⟩
      have s5 := same_upd (o := .tup [.int ((Si93.waited l : Nat) : Int), .int ((f.down l : Nat) : Int)]) nt
      have hX5 := s5 _ _ (s4 _ _ hX)
      have hal : acc.length ≤ 256 := by
        rw [paired_len hacc, List.length_map, List.length_take]
        exact Nat.le_trans (Nat.min_le_right _ _) hok
      refine ⟨acc, hX5, Nat.lt_of_le_of_lt hal (by decide), Same.upd2 ((s3.trans s4).trans s5) nX1, acc ++ [.ref t], upd_same, ?_⟩
      rw [take_more hl, List.map_append]
      exact paired_app (paired_imp (fun _ _ ht => ((ht.same s4).same s5).upd2 hX5) hacc) (paired_one (TupA.upd2 hX5 ⟨t, rfl, upd_same⟩))
    · rintro H3 ⟨s3, acc, hX, hacc⟩
      rw [hxl, List.take_length] at hacc
      have s13 := s1.trans s3
      obtain ⟨y, ys, eys⟩ : ∃ y ys, (okPlans f).map (worth Si93.waited f.down) = y :: ys := by
        cases e : okPlans f with
        | nil => exact absurd e ne
        | cons l ls => exact ⟨_, _, rfl⟩
      obtain ⟨bx, hb, hmin, rest, hsm, hmany⟩ := best_is Si93.waited f.down eys
      rw [eys] at hacc
      have hlens : (okPlans f).length = (y :: ys).length := by rw [← eys, List.length_map]
      refine ⟨a, X1, okPlans f, acc, y, ys, rfl, hP.same s3, hX, hacc, hlens, hok, fun H4 t x p first rest' s4 hs2 ht hx hp => ?_⟩
      rw [hsm] at hs2
      obtain ⟨rfl, rfl⟩ := List.cons.inj hs2
      rw [hmin] at hx
      obtain ⟨tx, rfl, htx⟩ := hx
      refine ⟨t, _, rfl, SqT.of ht, rfl, _, _, rfl, _, _, rfl, _, _, rfl, rfl, ?_⟩
      refine ⟨_, rfl, tx, _, rfl, .inr (SqT.of htx), fun l1 nl1 => ?_⟩
      have s5 := same_upd (o := .lst ([(bx.first : Int), (bx.second : Int)].map V.int)) nl1
      refine ⟨_, rfl, (by show 1 ≤ sizeLine; decide), fun l2 nl2 => ?_⟩
      have s6 := same_upd (o := .lst [.int ((bx.row :: rest).length : Nat)]) nl2
      refine ⟨l1, l2, _, _, rfl, rfl, s6 _ _ upd_same, upd_same, (by show 3 ≤ sizeLine; decide), fun l3 nl3 => ?_⟩
      have s7 := same_upd (o := .lst ([(bx.first : Int), (bx.second : Int)].map V.int ++ [.int ((bx.row :: rest).length : Nat)])) nl3
      have s57 := (s5.trans s6).trans s7
      have hrow : bx.row.length ≤ 4 := by
        have m : bx.row ∈ sames (minT y ys) (y :: ys) (okPlans f) := by rw [hsm]; exact List.mem_cons_self
        obtain ⟨z, hz, ez⟩ := List.mem_map.mp m
        have := okPlans_each (List.of_mem_zip (List.mem_filter.mp hz).1).1
        rw [ez] at this
        have := hF.bals
        omega
      refine ⟨_, rfl, l3, p, _, _, rfl, rfl, upd_same, s57 _ _ hp, Nat.le_trans (show 3 + (nV bx.row).length ≤ 7 by rw [nV_len]; omega) (by decide), fun r nr => ?_⟩
      refine Answers.stays q ⟨dx, w0, dw0, _, _, D⟩ (((s13.trans s4).trans s57).trans (same_upd nr)) ?_ (none_of_same ((s13.trans s4).trans s57) nr)
      rw [upd_same, best_some_best hb]
      show some (HO.lst ([V.int (bx.first : Int), V.int (bx.second : Int), V.int ((rest.length + 1 : Nat) : Int)] ++ nV bx.row)) = some (HO.lst (V.int (bx.first : Int) :: V.int (bx.second : Int) :: V.int (bx.many : Int) :: nV bx.row))
      rw [hmany]
      rfl
end
theorem scSoonest : FnScope nBest ["self"] (defScope sSoonest) := ⟨rfl, rfl, rfl, by decide +kernel, rfl, by decide +kernel, by decide +kernel⟩
section
variable {P : Program} {w : World} {K : PySem.W.Frag} {mg : Str → Option Value} {base : Heap} {CB CW CD CR : Addr}
theorem ok_soonest {f : Addr} {fd : FuncData} (F : Fun K "soonest" "Desk.soonest" sSoonest f fd) (T : Txt K mg CB CW CD) (G1 : MetX P w K mg base 6 CD "plans" (spPlans CB CW CD CR)) (G2 : Cal P w K mg base 1 "least_of" spLeast)
    (G5 : Cal P w K mg base 2 "all_down" (spAllDown CB)) : FnOk P w K mg base (L2.CX P w) 7 f fd ["self"] (spMeth0 CB CW CD CR .soonest) := by
  refine F.okX scSoonest (fun vs H Q E h => ?_) (fun cdv A outer s H vs Q E hr h => ?_)
  · obtain ⟨G, d, h, bs, f, rfl, _⟩ := h
    rfl
  · obtain ⟨G, d, h, bs, f, rfl, D, hF, qE, q⟩ := h
    refine ⟨_, pss_cons (ps_set (i := 1) scSoonest.nd rfl (.inl rfl) (pe_mtx0 G1 hr (by decide) (pass_of (E := E) rfl rfl rfl rfl) (pv 0)))
      (pss_cons (ps_asg (pe_c G2 hr (by decide) (by rfl) (pa_cons (pv 1) (pa_cons (pe_lc (own := [("plan", 4)]) (g := gName 4) (tt := tYes) (te := tTup (tCons (tCall (spAllDown CB) [] E0 (tCons (tFld K (tVar 0) "balloons") (tCons (tVar 4) tNil))) (tCons (tCB (rSum K) (tCons (tVar 4) tNil)) tNil))) rfl scSoonest.nd
          (pi_list (pv 1)) (blkOk_by (N := nBest) (sc := defScope sSoonest) (by decide +kernel)) (fun _ _ _ _ _ => pg_name (i := 4) scSoonest.nd rfl (.inl rfl)) (fun _ _ _ _ _ => pts_nil)
          (fun _ _ _ _ _ => pe_tup (pa_cons (pe_c G5 hr (by decide) (by rfl) (pa_cons (pe_fld (pv 0) rfl) (pa_cons (pv 4) pa_nil))) (pa_cons (pe_callB (cr_sum rfl) (by rfl) T.mSum (by decide +kernel) (pa_cons (pv 4) pa_nil)) pa_nil)))) pa_nil)))
        (pg_tup rfl (pgs_cons (pg_name (i := 2) scSoonest.nd rfl (.inl rfl)) (pgs_cons (pg_name (i := 3) scSoonest.nd rfl (.inl rfl)) (pgs_cons (pg_name (i := 4) scSoonest.nd rfl (.inl rfl)) pgs_nil)))))
      (pss_one (ps_ret (pe_op op_cat (pe_op op_cat (pe_callTy call_list_of (by rfl) T.mList (by decide +kernel) (pa_cons (pv 2) pa_nil)) (pe_lst (pa_cons (pv 3) pa_nil))) (pv 4))))), ?_⟩
    obtain ⟨dx, w0, dw0, hxs, bxs, D⟩ := D
    have hd := D.hd
    refine ⟨_, rfl, d, dx, _, rfl, hd, lD_none (by decide +kernel) (by decide +kernel) (by decide +kernel) (by decide +kernel), G, d, h, bs, f, rfl, ⟨dx, w0, dw0, hxs, bxs, D⟩, hF, fun e => qE (-6) (best_none_soonest e), fun H1 a s1 na ne hP => ?_⟩
    have E1 := D.same s1
    obtain ⟨xs, ha, hxp⟩ := id hP
    have hxl := paired_len hxp
    have hok := okPlans_len hF
    refine ⟨_, rfl, _, rfl, a, rfl, ⟨_, SqL.of ha⟩, fun X1 nX1 => lc_list (fun i H' => Same H1 H' ∧ ∃ acc, H' X1 = some (.lst acc) ∧ Paired (TupA H') acc (((okPlans f).take i).map (worth f.down Si93.waited)))
      ⟨same_upd nX1, [], upd_same, by rw [List.take_zero]; exact .nil⟩ (fun i H' _ hh => SqL.of (hh.1 _ _ ha)) ?_ ?_⟩
    · rintro i x H3 hx ⟨s3, acc, hX, hacc⟩
      obtain ⟨l, hl, p, rfl, pa, hp⟩ := paired_get1 hxp hx
      have s13 := s1.trans s3
      have E3 := D.same s13
      have hp3 := s3 _ _ hp
      have hlen := okPlans_each (List.mem_of_getElem? hl)
      refine ⟨rfl, yes_if ?_⟩
      refine ⟨_, rfl, d, CD, dx, _, _, rfl, E3.hd, T.cD, T.nBals, lD_bals, _, rfl, bs, p, f, l, rfl, E3.bals, hp3, hF.bals, hlen, fun H4 s4 => ?_⟩
      refine ⟨_, rfl, p, Si93.ints l, rfl, SqL.of (s4 _ _ hp3), ?_⟩
      rw [sum_ints]
      refine ⟨(by show 2 ≤ sizeLine; decide), fun t nt => ?_⟩
      have s5 := same_upd (o := .tup [.int ((f.down l : Nat) : Int), .int ((Si93.waited l : Nat) : Int)]) nt
      have hX5 := s5 _ _ (s4 _ _ hX)
      have hal : acc.length ≤ 256 := by
        rw [paired_len hacc, List.length_map, List.length_take]
        exact Nat.le_trans (Nat.min_le_right _ _) hok
      refine ⟨acc, hX5, Nat.lt_of_le_of_lt hal (by decide), Same.upd2 ((s3.trans s4).trans s5) nX1, acc ++ [.ref t], upd_same, ?_⟩
      rw [take_more hl, List.map_append]
      exact paired_app (paired_imp (fun _ _ ht => ((ht.same s4).same s5).upd2 hX5) hacc) (paired_one (TupA.upd2 hX5 ⟨t, rfl, upd_same⟩))
    · rintro H3 ⟨s3, acc, hX, hacc⟩
      rw [hxl, List.take_length] at hacc
      have s13 := s1.trans s3
      obtain ⟨y, ys, eys⟩ : ∃ y ys, (okPlans f).map (worth f.down Si93.waited) = y :: ys := by
        cases e : okPlans f with
        | nil => exact absurd e ne
        | cons l ls => exact ⟨_, _, rfl⟩
      obtain ⟨bx, hb, hmin, rest, hsm, hmany⟩ := best_is f.down Si93.waited eys
      rw [eys] at hacc
      have hlens : (okPlans f).length = (y :: ys).length := by rw [← eys, List.length_map]
      refine ⟨a, X1, okPlans f, acc, y, ys, rfl, hP.same s3, hX, hacc, hlens, hok, fun H4 t x p first rest' s4 hs2 ht hx hp => ?_⟩
      rw [hsm] at hs2
      obtain ⟨rfl, rfl⟩ := List.cons.inj hs2
      rw [hmin] at hx
      obtain ⟨tx, rfl, htx⟩ := hx
      refine ⟨t, _, rfl, SqT.of ht, rfl, _, _, rfl, _, _, rfl, _, _, rfl, rfl, ?_⟩
      refine ⟨_, rfl, tx, _, rfl, .inr (SqT.of htx), fun l1 nl1 => ?_⟩
      have s5 := same_upd (o := .lst ([(bx.first : Int), (bx.second : Int)].map V.int)) nl1
      refine ⟨_, rfl, (by show 1 ≤ sizeLine; decide), fun l2 nl2 => ?_⟩
      have s6 := same_upd (o := .lst [.int ((bx.row :: rest).length : Nat)]) nl2
      refine ⟨l1, l2, _, _, rfl, rfl, s6 _ _ upd_same, upd_same, (by show 3 ≤ sizeLine; decide), fun l3 nl3 => ?_⟩
      have s7 := same_upd (o := .lst ([(bx.first : Int), (bx.second : Int)].map V.int ++ [.int ((bx.row :: rest).length : Nat)])) nl3
      have s57 := (s5.trans s6).trans s7
      have hrow : bx.row.length ≤ 4 := by
        have m : bx.row ∈ sames (minT y ys) (y :: ys) (okPlans f) := by rw [hsm]; exact List.mem_cons_self
        obtain ⟨z, hz, ez⟩ := List.mem_map.mp m
        have := okPlans_each (List.of_mem_zip (List.mem_filter.mp hz).1).1
        rw [ez] at this
        have := hF.bals
        omega
      refine ⟨_, rfl, l3, p, _, _, rfl, rfl, upd_same, s57 _ _ hp, Nat.le_trans (show 3 + (nV bx.row).length ≤ 7 by rw [nV_len]; omega) (by decide), fun r nr => ?_⟩
      refine Answers.stays q ⟨dx, w0, dw0, _, _, D⟩ (((s13.trans s4).trans s57).trans (same_upd nr)) ?_ (none_of_same ((s13.trans s4).trans s57) nr)
      rw [upd_same, best_some_soonest hb]
      show some (HO.lst ([V.int (bx.first : Int), V.int (bx.second : Int), V.int ((rest.length + 1 : Nat) : Int)] ++ nV bx.row)) = some (HO.lst (V.int (bx.first : Int) :: V.int (bx.second : Int) :: V.int (bx.many : Int) :: nV bx.row))
      rw [hmany]
      rfl
end
end Bal
/-! ### told_by, answer -/
namespace Bal
open PySem PySem.Spec PyProof.Rows L2
def tZero (c : Si93.Call) : List Nat → Option Si93.Call
  | [] => some c
  | _ => none
def tLands : List Nat → Option Si93.Call
  | [i, e] => some (.lands i e)
  | _ => none
/-- the call that a place and numbers tell -/
def tell : Nat → List Nat → Option Si93.Call
  | 0 => tBegins
  | 1 => tHour
  | 2 => tBal
  | 3 => tCheck
  | 4 => tZero .best
  | 5 => tZero .soonest
  | 6 => tLands
  | _ => fun _ => none
def spToldBy (CB CW CD CR : Addr) : Sp := fun vs H Q E => ∃ (G : Hp) (d h bs np : Addr) (f : Si93.Field) (k : Nat) (ns : List Nat) (c : Si93.Call), vs = [.ref d, .int (k : Int), .ref np] ∧ DeskIn CB CW CD G H d h bs f ∧ H np = some (.lst (nV ns)) ∧
  tell k ns = some c ∧ Fine f ∧ Does CB CW CD CR G H d h bs f c Q E
def spAnswer (CB CW CD : Addr) : Sp := fun vs H Q _ => ∃ (G : Hp) (d h bs np : Addr) (f : Si93.Field) (k : Nat) (ns : List Nat) (c : Si93.Call), vs = [.ref d, .int (k : Int), .ref np] ∧ DeskIn CB CW CD G H d h bs f ∧ H np = some (.lst (nV ns)) ∧
  tell k ns = some c ∧ Fine f ∧ Answers CB CW CD G H d h bs (Si93.step f c).1 (res (Si93.step f c).2) Q
theorem scToldBy : FnScope ["self", "call", "numbers"] ["self", "call", "numbers"] (defScope sToldBy) := ⟨rfl, rfl, rfl, by decide +kernel, rfl, by decide +kernel, by decide +kernel⟩
theorem scAnswer : FnScope ["self", "call", "numbers", "refusal"] ["self", "call", "numbers"] (defScope sAnswer) := ⟨rfl, rfl, rfl, by decide +kernel, rfl, by decide +kernel, by decide +kernel⟩
section
variable {P : Program} {w : World} {K : PySem.W.Frag} {mg : Str → Option Value} {base : Heap} {CB CW CD CR : Addr}
theorem ok_toldBy {f : Addr} {fd : FuncData} (F : Fun K "told_by" "Desk.told_by" sToldBy f fd) (T : Txt K mg CB CW CD) (g0 : MetX P w K mg base 4 CD "begins" (spCall CB CW CD CR tBegins)) (g1 : MetX P w K mg base 4 CD "add_hour" (spCall CB CW CD CR tHour)) (g2 : MetX P w K mg base 4 CD "add_balloon" (spCall CB CW CD CR tBal))
    (g3 : MetX P w K mg base 4 CD "check" (spCall CB CW CD CR tCheck)) (g4 : MetX P w K mg base 7 CD "best" (spMeth0 CB CW CD CR .best)) (g5 : MetX P w K mg base 7 CD "soonest" (spMeth0 CB CW CD CR .soonest)) (g6 : MetX P w K mg base 4 CD "lands" (spLands CB CW CD CR)) :
    FnOk P w K mg base (L2.CX P w) 8 f fd ["self", "call", "numbers"] (spToldBy CB CW CD CR) := by
  refine F.okX scToldBy (fun vs H Q E h => ?_) (fun cdv A outer s H vs Q E hr h => ?_)
  · obtain ⟨G, d, h, bs, np, f, k, ns, c, rfl, _⟩ := h
    rfl
  · obtain ⟨G, d, h, bs, np, f, k, ns, c, rfl, D, hnp, ht, hF, q⟩ := h
    refine ⟨_, pss_cons (ps_if (pt_cmp (pc_eqI (pv 1) pe_int)) (pss_one (ps_ret (pe_mtx g0 hr (by decide) (pass_of (E := E) rfl rfl rfl rfl) (pv 0) (pa_cons (pv 2) pa_nil)))) pss_nil)
      (pss_cons (ps_if (pt_cmp (pc_eqI (pv 1) pe_int)) (pss_one (ps_ret (pe_mtx g1 hr (by decide) (pass_of (E := E) rfl rfl rfl rfl) (pv 0) (pa_cons (pv 2) pa_nil)))) pss_nil)
      (pss_cons (ps_if (pt_cmp (pc_eqI (pv 1) pe_int)) (pss_one (ps_ret (pe_mtx g2 hr (by decide) (pass_of (E := E) rfl rfl rfl rfl) (pv 0) (pa_cons (pv 2) pa_nil)))) pss_nil)
      (pss_cons (ps_if (pt_cmp (pc_eqI (pv 1) pe_int)) (pss_one (ps_ret (pe_mtx g3 hr (by decide) (pass_of (E := E) rfl rfl rfl rfl) (pv 0) (pa_cons (pv 2) pa_nil)))) pss_nil)
      (pss_cons (ps_if (pt_cmp (pc_eqI (pv 1) pe_int)) (pss_one (ps_ret (pe_mtx0 g4 hr (by decide) (pass_of (E := E) rfl rfl rfl rfl) (pv 0)))) pss_nil)
      (pss_cons (ps_if (pt_cmp (pc_eqI (pv 1) pe_int)) (pss_one (ps_ret (pe_mtx0 g5 hr (by decide) (pass_of (E := E) rfl rfl rfl rfl) (pv 0)))) pss_nil)
      (pss_one (ps_ret (pe_mtx g6 hr (by decide) (pass_of (E := E) rfl rfl rfl rfl) (pv 0) (pa_cons (pe_ix ix_list (pv 2) pe_int (fun _ _ => rfl)) (pa_cons (pe_ix ix_list (pv 2) pe_int (fun _ _ => rfl)) pa_nil)))))))))), ?_⟩
    obtain ⟨dx, w0, dw0, hxs, bxs, DS⟩ := id D
    have hd := DS.hd
    have no : ∀ {m : Str}, (m == ("winds" : Str)) = false → (m == ("balloons" : Str)) = false → (m == ("near" : Str)) = false → (m == ("most_wait" : Str)) = false → (deskF w0 bs f.near f.waits).lookup m = none := lD_none
    refine ⟨_, rfl, _, _, rfl, rfl, _, rfl, ?_⟩
    by_cases c0 : k = 0
    · subst c0
      exact if_true_of (beq_t rfl) ⟨_, rfl, d, dx, _, rfl, hd, no (by decide +kernel) (by decide +kernel) (by decide +kernel) (by decide +kernel), _, rfl, G, d, h, bs, np, f, ns, c, rfl, D, hnp, ht, hF, q⟩
    refine if_false_of (beq_f (show ¬ (k : Int) = 0 by omega)) ⟨_, rfl, _, _, rfl, rfl, _, rfl, ?_⟩
    by_cases c1 : k = 1
    · subst c1
      exact if_true_of (beq_t rfl) ⟨_, rfl, d, dx, _, rfl, hd, no (by decide +kernel) (by decide +kernel) (by decide +kernel) (by decide +kernel), _, rfl, G, d, h, bs, np, f, ns, c, rfl, D, hnp, ht, hF, q⟩
    refine if_false_of (beq_f (show ¬ (k : Int) = 1 by omega)) ⟨_, rfl, _, _, rfl, rfl, _, rfl, ?_⟩
    by_cases c2 : k = 2
    · subst c2
      exact if_true_of (beq_t rfl) ⟨_, rfl, d, dx, _, rfl, hd, no (by decide +kernel) (by decide +kernel) (by decide +kernel) (by decide +kernel), _, rfl, G, d, h, bs, np, f, ns, c, rfl, D, hnp, ht, hF, q⟩
    refine if_false_of (beq_f (show ¬ (k : Int) = 2 by omega)) ⟨_, rfl, _, _, rfl, rfl, _, rfl, ?_⟩
    by_cases c3 : k = 3
    · subst c3
      exact if_true_of (beq_t rfl) ⟨_, rfl, d, dx, _, rfl, hd, no (by decide +kernel) (by decide +kernel) (by decide +kernel) (by decide +kernel), _, rfl, G, d, h, bs, np, f, ns, c, rfl, D, hnp, ht, hF, q⟩
    refine if_false_of (beq_f (show ¬ (k : Int) = 3 by omega)) ⟨_, rfl, _, _, rfl, rfl, _, rfl, ?_⟩
    by_cases c4 : k = 4
    · subst c4
      have e : c = .best := by
        match ns, ht with
        | [], ht => exact (Option.some.inj ht).symm
      subst e
      exact if_true_of (beq_t rfl) ⟨_, rfl, d, dx, _, rfl, hd, no (by decide +kernel) (by decide +kernel) (by decide +kernel) (by decide +kernel), G, d, h, bs, f, rfl, D, hF, q⟩
    refine if_false_of (beq_f (show ¬ (k : Int) = 4 by omega)) ⟨_, rfl, _, _, rfl, rfl, _, rfl, ?_⟩
    by_cases c5 : k = 5
    · subst c5
      have e : c = .soonest := by
        match ns, ht with
        | [], ht => exact (Option.some.inj ht).symm
      subst e
      exact if_true_of (beq_t rfl) ⟨_, rfl, d, dx, _, rfl, hd, no (by decide +kernel) (by decide +kernel) (by decide +kernel) (by decide +kernel), G, d, h, bs, f, rfl, D, hF, q⟩
    refine if_false_of (beq_f (show ¬ (k : Int) = 5 by omega)) ?_
    obtain ⟨i, e, rfl, rfl⟩ : ∃ i e, ns = [i, e] ∧ c = .lands i e := by
      match k, ns, ht with
      | 0, _, _ => exact absurd rfl c0
      | 1, _, _ => exact absurd rfl c1
      | 2, _, _ => exact absurd rfl c2
      | 3, _, _ => exact absurd rfl c3
      | 4, _, _ => exact absurd rfl c4
      | 5, _, _ => exact absurd rfl c5
      | 6, [i, e], ht => exact ⟨i, e, rfl, (Option.some.inj ht).symm⟩
      | _ + 7, _, ht => cases ht
    exact ⟨_, rfl, d, dx, _, rfl, hd, no (by decide +kernel) (by decide +kernel) (by decide +kernel) (by decide +kernel), _, rfl, np, _, 0, _, rfl, rfl, SqL.of hnp, at_of (j := 0) rfl rfl, _, rfl, np, _, 1, _, rfl, rfl, SqL.of hnp, at_of (j := 1) rfl rfl, G, d, h, bs, f, i, e, rfl, D, hF, q⟩
theorem ok_answer {f : Addr} {fd : FuncData} (F : Fun K "answer" "Desk.answer" sAnswer f fd) (T : Txt K mg CB CW CD) (R : TxtR K mg CR) (g : MetX P w K mg base 8 CD "told_by" (spToldBy CB CW CD CR)) :
    FnOk P w K mg base CX0 9 f fd ["self", "call", "numbers"] (spAnswer CB CW CD) := by
  refine F.ok scAnswer (fun vs H Q E h => ?_) (fun cdv A outer s H vs Q E hr h => ?_)
  · obtain ⟨G, d, h, bs, np, f, k, ns, c, rfl, _⟩ := h
    rfl
  · obtain ⟨G, d, h, bs, np, f, k, ns, c, rfl, D, hnp, ht, hF, q⟩ := h
    refine ⟨_, pss_one (ps_try_as (i := 3) (tb := fun W => tRet (tMethS CD "told_by" (spToldBy CB CW CD CR) (WE W) (tVar 0) (tCons (tVar 1) (tCons (tVar 2) tNil)))) (ts := fun a cls d => tRet (tXf a cls d CR "told" (tVar 3))) (Wout := fun _ _ _ _ => False) rfl rfl scAnswer.nd rfl rfl ⟨rfl, by decide, Or.inl R.gR⟩ takes0
      (fun W pn xe tk _ => pss_one (ps_ret (pe_mts g hr (by decide) tk (pv 0) (pa_cons (pv 1) (pa_cons (pv 2) pa_nil)))))
      (fun a oe cls d pn hz hf => pss_one (ps_ret (pe_xf R.xf R.no hz hf (pv 3))))), ?_⟩
    obtain ⟨dx, w0, dw0, hxs, bxs, DS⟩ := id D
    have hd := DS.hd
    refine ⟨_, rfl, d, dx, _, rfl, hd, lD_none (by decide +kernel) (by decide +kernel) (by decide +kernel) (by decide +kernel), _, rfl, _, rfl, G, d, h, bs, np, f, k, ns, c, rfl, D, hnp, ht, hF, fun v hv => ?_, q⟩
    intro H' dd l s1 hdd hl nl
    refine ⟨true, R.te, fun _ a0 na0 => ⟨_, rfl, rfl, rfl, dd, [("told", .ref l)], .ref l, rfl, hdd, lk_here, ?_⟩, fun z => Bool.noConfusion z⟩
    rw [hv] at q
    exact Answers.stays q D s1 hl nl
end
end Bal
/-! ### the mathematics: fields stay fine; the calls from the numbers -/
namespace Bal
open PySem PySem.Spec
theorem fine_init : Fine Si93.init := ⟨(fun r h => by cases h), (fun r h => by cases h), by decide, by decide, (fun B h => by cases h), (fun B h => by cases h), by decide⟩
theorem pairs_len : ∀ (l : List Nat) (n : Nat), l.length = 2 * n → (Si93.pairsOf l).length = n
  | [], n, h => by
    have h : 0 = 2 * n := h
    show 0 = n
    omega
  | [_], n, h => by
    have h : 1 = 2 * n := h
    omega
  | a :: b :: l, n, h => by
    have h : l.length + 2 = 2 * n := h
    show (Si93.pairsOf l).length + 1 = n
    rw [pairs_len l (n - 1) (by omega)]
    omega
theorem told_small {a k : Nat} (h : a ≤ 2 * k) : (Si93.told a k).natAbs ≤ k := by
  unfold Si93.told
  omega
theorem pairs_small : ∀ (l : List Nat), (∀ a ∈ l, a ≤ 18) → ∀ q ∈ Si93.pairsOf l, q.1.natAbs ≤ 9 ∧ q.2.natAbs ≤ 9
  | [], _, q, h => by cases h
  | [_], _, q, h => by cases h
  | a :: b :: l, hl, q, h => by
    rcases List.mem_cons.mp h with rfl | h
    · exact ⟨told_small (hl a List.mem_cons_self), told_small (hl b (List.mem_cons_of_mem _ List.mem_cons_self))⟩
    · exact pairs_small l (fun x hx => hl x (List.mem_cons_of_mem _ (List.mem_cons_of_mem _ hx))) q h
theorem fine_step {f : Si93.Field} (F : Fine f) (c : Si93.Call) : Fine (Si93.step f c).1 := by
  cases c with
  | begins a b c =>
    by_cases h : a < 1 ∨ 4 < a ∨ 1000 < b ∨ 3 < c
    · rw [begins_bad h]
      exact F
    · rw [begins_ok h]
      exact ⟨(fun r h => by cases h), (fun r h => by cases h), Nat.zero_le _, Nat.zero_le _, (fun B h => by cases h), (fun B h => by cases h), by show c ≤ 3; omega⟩
  | hour l =>
    by_cases h : l.length ≠ 2 * f.heights ∨ (l.all fun n => decide (n ≤ 18)) = false
    · rw [hour_bad h]
      exact F
    by_cases h2 : 8 ≤ f.winds.length
    · rw [hour_full h h2]
      exact F
    rw [hour_ok h h2]
    have hl : l.length = 2 * f.heights := Decidable.byContradiction fun z => h (.inl z)
    have ha : ∀ a ∈ l, a ≤ 18 := by
      have : (l.all fun n => decide (n ≤ 18)) = true := by
        cases e : l.all fun n => decide (n ≤ 18) with
        | true => rfl
        | false => exact absurd (.inr e) h
      intro a ham
      exact of_decide_eq_true (List.all_eq_true.mp this a ham)
    refine ⟨fun r hr => ?_, fun r hr => ?_, ?_, F.bals, F.flights, F.places, F.waits⟩
    · rcases List.mem_append.mp hr with hr | hr
      · exact F.rows r hr
      · rw [List.mem_singleton.mp hr]
        exact pairs_len l _ hl
    · rcases List.mem_append.mp hr with hr | hr
      · exact F.small r hr
      · rw [List.mem_singleton.mp hr]
        exact pairs_small l ha
    · show (f.winds ++ [Si93.pairsOf l]).length ≤ 8
      rw [List.length_append]
      show f.winds.length + 1 ≤ 8
      omega
  | balloon x y l =>
    by_cases h : 200 < x ∨ 200 < y ∨ 5 < l.length ∨ (l.all fun h => decide (h < f.heights)) = false
    · rw [bal_bad h]
      exact F
    by_cases h2 : 4 ≤ f.balloons.length
    · rw [bal_full h h2]
      exact F
    rw [bal_ok h h2]
    have ha : ∀ a ∈ l, a < f.heights := by
      have : (l.all fun h => decide (h < f.heights)) = true := by
        cases e : l.all fun h => decide (h < f.heights) with
        | true => rfl
        | false => exact absurd (.inr (.inr (.inr e))) h
      intro a ham
      exact of_decide_eq_true (List.all_eq_true.mp this a ham)
    refine ⟨F.rows, F.small, F.hours, ?_, fun B hB => ?_, fun B hB => ?_, F.waits⟩
    · show (f.balloons ++ [_]).length ≤ 4
      rw [List.length_append]
      show f.balloons.length + 1 ≤ 4
      omega
    · rcases List.mem_append.mp hB with hB | hB
      · exact F.flights B hB
      · rw [List.mem_singleton.mp hB]
        exact ⟨ha, by show l.length ≤ 5; omega⟩
    · rcases List.mem_append.mp hB with hB | hB
      · exact F.places B hB
      · rw [List.mem_singleton.mp hB]
        exact ⟨told_small (by omega), told_small (by omega)⟩
  | check l =>
    cases h : f.told l with
    | false => rw [check_bad h]; exact F
    | true =>
      cases h2 : f.late l with
      | some i => rw [check_late h h2]; exact F
      | none =>
        cases h3 : f.bad l with
        | some x => rw [check_near h h2 h3]; exact F
        | none => rw [check_ok h h2 h3]; exact F
  | best => exact F
  | soonest => exact F
  | lands i e =>
    by_cases h : f.balloons.length ≤ i
    · rw [lands_none h]; exact F
    by_cases h2 : f.waits < e
    · rw [lands_bad h h2]; exact F
    by_cases h3 : f.winds.length < e + (f.balloon i).flight.length
    · rw [lands_late h h2 h3]; exact F
    · rw [lands_ok h h2 h3]; exact F
/-! ### the list of calls -/
abbrev Item := Nat × List Nat
def code1 (x : Item) : List Int := (x.1 : Int) :: (x.2.length : Int) :: (Si93.ints x.2 ++ [0])
def code (ds : List Item) : List Int := ds.flatMap code1
def callX (x : Item) : Si93.Call := (tell x.1 x.2).getD .best
def outs : Si93.Field → List Item → List Int
  | _, [] => []
  | f, x :: r => ((res (Si93.step f (callX x)).2).length : Int) :: (res (Si93.step f (callX x)).2 ++ outs (Si93.step f (callX x)).1 r)
def after (f : Si93.Field) (ds : List Item) : Si93.Field := ds.foldl (fun f x => (Si93.step f (callX x)).1) f
theorem outs_snoc : ∀ (ds : List Item) (f : Si93.Field) (x : Item), outs f (ds ++ [x]) = outs f ds ++ (((res (Si93.step (after f ds) (callX x)).2).length : Int) :: res (Si93.step (after f ds) (callX x)).2)
  | [], f, x => by
    show _ :: (_ ++ []) = _
    rw [List.append_nil]
    rfl
  | y :: ds, f, x => by
    have ih := outs_snoc ds (Si93.step f (callX y)).1 x
    show _ :: (_ ++ outs _ (ds ++ [x])) = (_ :: (_ ++ outs _ ds)) ++ _
    rw [ih, List.cons_append, List.append_assoc]
    rfl
theorem after_snoc (ds : List Item) (f : Si93.Field) (x : Item) : after f (ds ++ [x]) = (Si93.step (after f ds) (callX x)).1 := by
  unfold after
  rw [List.foldl_append]
  rfl
theorem fine_after {f : Si93.Field} (F : Fine f) : ∀ (ds : List Item), Fine (after f ds) := by
  intro ds
  induction ds generalizing f with
  | nil => exact F
  | cons x ds ih => exact ih (fine_step F (callX x))
theorem code_cut {ds : List Item} {i : Nat} {x : Item} (h : ds[i]? = some x) : code ds = code (ds.take i) ++ (code1 x ++ code (ds.drop (i + 1))) := by
  have e : ds = ds.take i ++ (x :: ds.drop (i + 1)) := by
    have h1 := List.take_append_drop i ds
    have h2 : ds.drop i = x :: ds.drop (i + 1) := by
      obtain ⟨hl, hx⟩ := List.getElem?_eq_some_iff.mp h
      rw [List.drop_eq_getElem_cons hl, hx]
    rw [h2] at h1
    exact h1.symm
  unfold code
  conv => lhs; rw [e]
  rw [List.flatMap_append, List.flatMap_cons]
/-! ### decoding -/
theorem callOf_tell {k : Nat} {ns : List Nat} {c : Si93.Call} (h : Si93Neutral.callOf (Si93.ints (k :: ns)) = some c) : tell k ns = some c := by
  unfold Si93Neutral.callOf at h
  have e : (Si93.ints (k :: ns)).map Int.toNat = k :: ns := by
    unfold Si93.ints
    rw [List.map_map]
    have : (Int.toNat ∘ fun (n : Nat) => (n : Int)) = id := by
      funext n
      exact Int.toNat_natCast n
    rw [this, List.map_id]
  rw [e] at h
  split at h
  · rename_i e
    cases e
    exact h
  · rename_i e
    cases e
    exact h
  · rename_i e
    cases e
    exact h
  · rename_i e
    cases e
    exact h
  · rename_i e
    cases e
    exact h
  · rename_i e
    cases e
    exact h
  · rename_i e
    cases e
    exact h
  · cases h
theorem nat_of {l : List Int} (h : l.all (fun z => Si93Neutral.natural z 32) = true) : ∃ ns : List Nat, l = Si93.ints ns := by
  refine ⟨l.map Int.toNat, ?_⟩
  unfold Si93.ints
  rw [List.map_map]
  have : ∀ z ∈ l, z = ((fun (n : Nat) => (n : Int)) ∘ Int.toNat) z := by
    intro z hz
    have hz := List.all_eq_true.mp h z hz
    unfold Si93Neutral.natural at hz
    rw [Bool.and_eq_true, decide_eq_true_eq] at hz
    show z = ((z.toNat : Nat) : Int)
    omega
  conv => lhs; rw [← List.map_id l]
  exact List.map_congr_left this
theorem row_cut {r a b : List Int} (h : PyFlat.row r = some (a, b)) : r = (a.length : Int) :: (a ++ b) := by
  cases r with
  | nil => cases h
  | cons n r =>
    have h : (if 0 ≤ n ∧ n.toNat ≤ r.length then some (r.take n.toNat, r.drop n.toNat) else none) = some (a, b) := h
    by_cases c : 0 ≤ n ∧ n.toNat ≤ r.length
    · rw [if_pos c] at h
      have h := Option.some.inj h
      obtain ⟨rfl, rfl⟩ := Prod.mk.inj h
      rw [List.take_append_drop, List.length_take]
      congr 1
      have : min n.toNat r.length = n.toNat := Nat.min_eq_left c.2
      rw [this]
      omega
    · rw [if_neg c] at h
      cases h
theorem rows_zero {k : Nat} {t u : List Int} (h : PyFlat.rows k t = some ([], u)) : k = 0 ∧ u = t := by
  cases k with
  | zero =>
    have h : some (([] : List (List Int)), t) = some ([], u) := h
    have h := (Prod.mk.inj (Option.some.inj h)).2
    exact ⟨rfl, h.symm⟩
  | succ k =>
    have h : (match PyFlat.row t with
      | none => none
      | some (x, s) => match PyFlat.rows k s with
        | none => none
        | some (xs, t) => some (x :: xs, t)) = some (([] : List (List Int)), u) := h
    split at h
    · cases h
    · split at h
      · cases h
      · have h := (Prod.mk.inj (Option.some.inj h)).1
        cases h
theorem call_cut {p : Int} {r : List Int} {c : List (List Int)} {t : List Int} (h : PyWide.call (p :: r) = some (c, t)) (ha : Si93Neutral.asked1 c = true) :
    ∃ x : Item, p :: r = code1 x ++ t ∧ c = [Si93.ints (x.1 :: x.2)] ∧ ∃ q, tell x.1 x.2 = some q ∧ Si93Neutral.callOf (Si93.ints (x.1 :: x.2)) = some q := by
  have h : (match PyFlat.row r with
    | none => none
    | some (_, []) => none
    | some (ns, k :: t) => if 0 ≤ k then (match PyFlat.rows k.toNat t with
      | none => none
      | some (xs, u) => some ((p :: ns) :: xs, u)) else none) = some (c, t) := h
  split at h
  · cases h
  · cases h
  · rename_i ns k t' hr
    by_cases hk : 0 ≤ k
    · rw [if_pos hk] at h
      split at h
      · cases h
      · rename_i xs u hrows
        obtain ⟨rfl, rfl⟩ := Prod.mk.inj (Option.some.inj h)
        unfold Si93Neutral.asked1 at ha
        rw [Bool.and_eq_true, Bool.and_eq_true, beq_iff_eq] at ha
        obtain ⟨h1, h2, h3⟩ := ha
        have hx : xs = [] := by
          cases xs with
          | nil => rfl
          | cons _ _ =>
            have h1 : _ + 1 + 1 = 1 := h1
            omega
        subst hx
        obtain ⟨hk0, hu⟩ := rows_zero hrows
        have h2 : (p :: ns).all (fun z => Si93Neutral.natural z 32) = true := h2
        obtain ⟨l, hl⟩ := nat_of h2
        cases l with
        | nil => cases hl
        | cons m l =>
          have hl : p :: ns = (m : Int) :: Si93.ints l := hl
          obtain ⟨rfl, rfl⟩ := List.cons.inj hl
          have h3 : (Si93Neutral.callOf (Si93.ints (m :: l))).isSome = true := h3
          obtain ⟨q, hq⟩ := Option.isSome_iff_exists.mp h3
          refine ⟨(m, l), ?_, rfl, q, callOf_tell hq, hq⟩
          have e0 : k = 0 := by omega
          rw [row_cut hr, hu, e0]
          show (m : Int) :: ((Si93.ints l).length : Int) :: (Si93.ints l ++ 0 :: t') = (m : Int) :: (l.length : Int) :: ((Si93.ints l ++ [0]) ++ t')
          rw [List.append_assoc, show (Si93.ints l).length = l.length from List.length_map _]
          rfl
    · rw [if_neg hk] at h
      cases h
theorem decoded : ∀ (fuel : Nat) (l : List Int) (cs : List (List (List Int))), PyWide.calls fuel l = some cs → cs.all Si93Neutral.asked1 = true →
    ∃ ds : List Item, l = code ds ∧ cs = ds.map (fun x => [Si93.ints (x.1 :: x.2)]) ∧ ∀ x ∈ ds, ∃ c, tell x.1 x.2 = some c ∧ Si93Neutral.callOf (Si93.ints (x.1 :: x.2)) = some c
  | fuel, [], cs, h, _ => by
    have e : some ([] : List (List (List Int))) = some cs := by
      cases fuel with
      | zero => exact h
      | succ n => exact h
    refine ⟨[], rfl, (Option.some.inj e).symm, fun x hx => by cases hx⟩
  | 0, p :: r, cs, h, _ => by cases h
  | fuel + 1, p :: r, cs, h, ha => by
    have h : (match PyWide.call (p :: r) with
      | none => none
      | some (c, t) => match PyWide.calls fuel t with
        | none => none
        | some cs => some (c :: cs)) = some cs := h
    split at h
    · cases h
    · rename_i c t hc
      split at h
      · cases h
      · rename_i cs' hcs
        have h := Option.some.inj h
        subst h
        rw [List.all_cons, Bool.and_eq_true] at ha
        obtain ⟨x, e1, e2, e3⟩ := call_cut hc ha.1
        obtain ⟨ds, d1, d2, d3⟩ := decoded fuel t cs' hcs ha.2
        refine ⟨x :: ds, ?_, ?_, fun y hy => ?_⟩
        · rw [e1, d1]
          rfl
        · rw [e2, d2]
          rfl
        · rcases List.mem_cons.mp hy with rfl | hy
          · exact e3
          · exact d3 y hy
theorem played_outs : ∀ (ds : List Item) (f : Si93.Field), (∀ x ∈ ds, ∃ c, tell x.1 x.2 = some c ∧ Si93Neutral.callOf (Si93.ints (x.1 :: x.2)) = some c) →
    PyFlat.told (PyFlat.played Si93Neutral.step f (ds.map fun x => [Si93.ints (x.1 :: x.2)])) = outs f ds
  | [], _, _ => rfl
  | x :: ds, f, h => by
    obtain ⟨c, h1, h2⟩ := h x List.mem_cons_self
    have e : Si93Neutral.step f [Si93.ints (x.1 :: x.2)] = ((Si93.step f (callX x)).1, res (Si93.step f (callX x)).2) := by
      have hc : callX x = c := by
        unfold callX
        rw [h1]
        rfl
      rw [hc]
      show (match Si93Neutral.callOf (Si93.ints (x.1 :: x.2)) with
        | none => (f, [])
        | some q => ((Si93.step f q).1, (Si93.step f q).2.v :: (Si93.step f q).2.l)) = _
      rw [h2]
      rfl
    have ih := played_outs ds (Si93.step f (callX x)).1 fun y hy => h y (List.mem_cons_of_mem _ hy)
    rw [List.map_cons]
    show PyFlat.told ((Si93Neutral.step f [Si93.ints (x.1 :: x.2)]).2 :: PyFlat.played Si93Neutral.step (Si93Neutral.step f [Si93.ints (x.1 :: x.2)]).1 _) = _
    rw [e]
    unfold PyFlat.told at ih ⊢
    rw [List.flatMap_cons, ih]
    rfl
theorem asked_is {l : List Int} (h : PySi93.answers_asked l = true) : ∃ ds : List Item, l = code ds ∧ (∀ x ∈ ds, ∃ c, tell x.1 x.2 = some c) ∧ PySi93.answers l = outs Si93.init ds ∧ (outs Si93.init ds).length ≤ 10000000 := by
  unfold PySi93.answers_asked at h
  cases hc : PySi93.calls l with
  | none => rw [hc] at h; cases h
  | some cs =>
    rw [hc] at h
    have h : (!cs.isEmpty && cs.all PySi93.fits && PyFlat.atMost 40 cs && Si93Neutral.asked cs && PyFlat.short 10000000 (PySi93.answers l)) = true := h
    rw [Bool.and_eq_true, Bool.and_eq_true] at h
    obtain ⟨⟨_, h1⟩, h2⟩ := h
    unfold Si93Neutral.asked at h1
    rw [Bool.and_eq_true] at h1
    obtain ⟨ds, d1, d2, d3⟩ := decoded _ l cs hc h1.1
    have ea : PySi93.answers l = outs Si93.init ds := by
      unfold PySi93.answers
      rw [hc, d2]
      exact played_outs ds Si93.init d3
    refine ⟨ds, d1, fun x hx => ?_, ea, ?_⟩
    · obtain ⟨c, z, _⟩ := d3 x hx
      exact ⟨c, z⟩
    · rw [← ea]
      exact of_decide_eq_true h2
end Bal
/-! ### answers -/
namespace Bal
open PySem PySem.Spec PyProof.Rows L2
theorem DeskS.upd {CB CW CD : Addr} {G H : Hp} {d dx w dw h bs fo : Addr} {hxs bxs : List V} {f : Si93.Field} {o : HO} (D : DeskS CB CW CD G H d dx w dw h bs hxs bxs f) (g : G fo = none) (n1 : fo ≠ d) (n2 : fo ≠ h) (n3 : fo ≠ bs) :
    DeskS CB CW CD G (upd H fo o) d dx w dw h bs hxs bxs f :=
  ⟨fun b x e => by
    have hb : b ≠ fo := fun z => by rw [z, g] at e; cases e
    rw [upd_ne hb]
    exact D.sub _ _ e, D.gd, D.gh, D.gb, D.ne, by rw [upd_ne (Ne.symm n1)]; exact D.hd, D.gw, by rw [upd_ne (Ne.symm n2)]; exact D.hh, D.ph, by rw [upd_ne (Ne.symm n3)]; exact D.hb, D.pb⟩
theorem DeskIn.upd {CB CW CD : Addr} {G H : Hp} {d h bs fo : Addr} {f : Si93.Field} {o : HO} (D : DeskIn CB CW CD G H d h bs f) (g : G fo = none) (n1 : fo ≠ d) (n2 : fo ≠ h) (n3 : fo ≠ bs) : DeskIn CB CW CD G (upd H fo o) d h bs f :=
  let ⟨dx, w, dw, hxs, bxs, D⟩ := D
  ⟨dx, w, dw, hxs, bxs, D.upd g n1 n2 n3⟩
def off (ds : List Item) (i : Nat) : Nat := (code (ds.take i)).length
theorem code1_len (x : Item) : (code1 x).length = x.2.length + 3 := by
  unfold code1
  rw [List.length_cons, List.length_cons, List.length_append, show (Si93.ints x.2).length = x.2.length from List.length_map _]
  rfl
theorem off_more {ds : List Item} {i : Nat} {x : Item} (h : ds[i]? = some x) : off ds (i + 1) = off ds i + (x.2.length + 3) := by
  unfold off code
  rw [take_more h, List.flatMap_append, List.length_append, List.flatMap_cons, List.flatMap_nil, List.append_nil, code1_len]
theorem off_all (ds : List Item) : off ds ds.length = (code ds).length := by
  unfold off
  rw [List.take_length]
theorem off_lt {ds : List Item} {i : Nat} (hi : i ≤ ds.length) (h : off ds i < (code ds).length) : i < ds.length := by
  rcases Nat.lt_or_eq_of_le hi with c | c
  · exact c
  · rw [c, off_all] at h
    omega
theorem at_code {ds : List Item} {i : Nat} {x : Item} (h : ds[i]? = some x) : (code ds)[off ds i]? = some (x.1 : Int) ∧ (code ds)[off ds i + 1]? = some (x.2.length : Int) ∧ off ds i + (x.2.length + 3) ≤ (code ds).length := by
  have e := code_cut h
  refine ⟨?_, ?_, ?_⟩
  · rw [e, List.getElem?_append_right (show (code (ds.take i)).length ≤ off ds i from Nat.le_refl _), show off ds i - (code (ds.take i)).length = 0 from Nat.sub_self _]
    rfl
  · rw [e, List.getElem?_append_right (show (code (ds.take i)).length ≤ off ds i + 1 from Nat.le_add_right _ _), show off ds i + 1 - (code (ds.take i)).length = 1 from Nat.add_sub_cancel_left _ _]
    rfl
  · rw [e, List.length_append, List.length_append, code1_len]
    show off ds i + _ ≤ off ds i + _
    omega
theorem cut_code {ds : List Item} {i : Nat} {x : Item} (h : ds[i]? = some x) : cutV ((code ds).map V.int) (some ((off ds i : Int) + 2)) (some ((off ds i : Int) + 2 + (x.2.length : Int))) = nV x.2 := by
  have hl := (at_code h).2.2
  unfold cutV
  have l1 : ((code ds).map V.int).length = (code ds).length := List.length_map _
  have e1 : (off ds i : Int) + 2 = ((off ds i + 2 : Nat) : Int) := by omega
  have e2 : ((off ds i + 2 : Nat) : Int) + (x.2.length : Int) = ((off ds i + 2 + x.2.length : Nat) : Int) := by omega
  rw [e1, e2, HT.sIx_nat, HT.sIx_nat, l1, Nat.min_eq_left (by omega), Nat.min_eq_left (by omega)]
  have e3 : off ds i + 2 + x.2.length - (off ds i + 2) = x.2.length := by omega
  rw [e3, code_cut h, List.map_append, List.map_append]
  have l2 : ((code (ds.take i)).map V.int).length = off ds i := List.length_map _
  rw [List.drop_append, l2, List.drop_of_length_le (by rw [l2]; omega), List.nil_append, show off ds i + 2 - off ds i = 2 by omega]
  show ((((x.2.length : Int) :: (Si93.ints x.2 ++ [0])).map V.int ++ _).drop 1).take _ = nV x.2
  show (((Si93.ints x.2 ++ [0]).map V.int) ++ _).take _ = nV x.2
  rw [List.map_append, List.append_assoc]
  have l3 : (nV x.2).length = x.2.length := nV_len _
  show (nV x.2 ++ _).take _ = nV x.2
  rw [← l3, List.take_left]
def spAnswers (K : PySem.W.Frag) : Sp := fun vs H Q _ => ∃ (a : Addr) (ds : List Item), vs = [.ref a] ∧ SqL K H a ((code ds).map V.int) ∧ (∀ x ∈ ds, ∃ c, tell x.1 x.2 = some c) ∧ (outs Si93.init ds).length ≤ 10000000 ∧
  ∀ (H' : Hp) (p : Addr), H' p = some (.lst ((outs Si93.init ds).map V.int)) → Q (.ref p) H'
theorem outs_le {ds : List Item} {i : Nat} : (outs Si93.init (ds.take i)).length ≤ (outs Si93.init ds).length := by
  have : ∀ (a b : List Item) (f : Si93.Field), (outs f a).length ≤ (outs f (a ++ b)).length := by
    intro a
    induction a with
    | nil => intro b f; exact Nat.zero_le _
    | cons x a ih =>
      intro b f
      show (_ :: (_ ++ outs _ a)).length ≤ (_ :: (_ ++ outs _ (a ++ b))).length
      rw [List.length_cons, List.length_cons, List.length_append, List.length_append]
      have := ih b (Si93.step f (callX x)).1
      omega
  have h := this (ds.take i) (ds.drop i) Si93.init
  rw [List.take_append_drop] at h
  exact h
abbrev nAns : List Str := ["calls", "desk", "found", "at", "begin", "end", "told"]
theorem scAnswers : FnScope nAns ["calls"] (defScope sAnswers) := ⟨rfl, rfl, rfl, by decide +kernel, rfl, by decide +kernel, by decide +kernel⟩
def gauge (n : Nat) : L2.St → Hp → Nat := fun σ _ => match σ[3]? with
  | some (some (V.int z)) => n - z.toNat
  | _ => 0
section
variable {P : Program} {w : World} {K : PySem.W.Frag} {mg : Str → Option Value} {base : Heap} {CB CW CD CR : Addr}
theorem ok_answers {f : Addr} {fd : FuncData} (F : Fun K "answers" "answers" sAnswers f fd) (T : Txt K mg CB CW CD) (G0 : Mak P w K mg base 3 "Desk" CD (spDeskInit CB CW CD)) (G : Met P w K mg base 9 CD "answer" (spAnswer CB CW CD)) :
    FnOk P w K mg base CX0 10 f fd ["calls"] (spAnswers K) := by
  refine F.ok scAnswers (fun vs H Q E h => ?_) (fun cdv A outer s H vs Q E hr h => ?_)
  · obtain ⟨a, ds, rfl, _⟩ := h
    rfl
  · obtain ⟨a, ds, rfl, hS, ht, hlen, q⟩ := h
    refine ⟨_, pss_cons (ps_set (i := 1) scAnswers.nd rfl (.inl rfl) (pe_mk0 G0 hr (by decide) (by rfl)))
      (pss_cons (ps_set (i := 2) scAnswers.nd rfl (.inl rfl) (pe_lst pa_nil))
      (pss_cons (ps_set (i := 3) scAnswers.nd rfl (.inl rfl) pe_int)
      (pss_cons (ps_while PassesOwn.never (pt_cmpR op_lt (pv 3) (pe_callB call_len_seq (by rfl) T.mLen PySem.boot_len (pa_cons (pv 0) pa_nil)) (nomark _))
        (pss_cons (ps_set (i := 4) scAnswers.nd rfl (.inl rfl) (pe_op op_add (pv 3) pe_int))
        (pss_cons (ps_set (i := 5) scAnswers.nd rfl (.inl rfl) (pe_op op_add (pv 4) (pe_ix ix_list (pv 0) (pe_op op_add (pv 3) pe_int) (fun _ _ => rfl))))
        (pss_cons (ps_set (i := 6) scAnswers.nd rfl (.inl rfl) (pe_mt G hr (by decide) (pv 1) (pa_cons (pe_ix ix_list (pv 0) (pv 3) (fun _ _ => rfl)) (pa_cons (pe_slice sl_list (pv 0) (po_some (pv 4)) (po_some (pv 5))) pa_nil))))
        (pss_cons (ps_expr (pe_bm PySem.F.plainAttrs_list PySem.F.slot_list_append PySem.F.type_list_append mt_append (pv 2) (pa_cons (pe_callB call_len_seq (by rfl) T.mLen PySem.boot_len (pa_cons (pv 6) pa_nil)) pa_nil)))
        (pss_cons (ps_expr (pe_bm PySem.F.plainAttrs_list PySem.F.slot_list_extend PySem.F.type_list_extend mt_extend (pv 2) (pa_cons (pv 6) pa_nil)))
        (pss_one (ps_set (i := 3) scAnswers.nd rfl (.inl rfl) (pe_op op_add (pv 5) pe_int)))))))))
      (pss_one (ps_ret (pv 2)))))), ?_⟩
    intro d dx nd ndx ne
    refine ⟨d, dx, rfl, upd_same, fun Gi H1 h0 bs0 D hG fr n1 n2 => ⟨rfl, ?_⟩⟩
    have old : ∀ b o, H b = some o → (upd (upd H dx (.own d)) d (.ins CD dx [])) b = some o := fun b o e => by
      rw [upd_ne (ne_of_none e nd), upd_ne (ne_of_none e ndx)]
      exact e
    have s1 : Same H H1 := fun b o e => fr b o (old b o e) (ne_of_none e nd)
    refine ⟨Nat.zero_le _, fun fo nfo => ?_⟩
    have nfo0 := none_of_same s1 nfo
    have s2 := s1.trans (same_upd (o := .lst []) nfo)
    have hgo : Gi fo = none := by
      cases e : Gi fo with
      | none => rfl
      | some o =>
        obtain ⟨_, _, _, _, _, DS⟩ := D
        rw [DS.sub _ _ e] at nfo
        cases nfo
    have hn1 : H h0 = none := by
      cases e : H h0 with
      | none => rfl
      | some o => rw [old _ _ e] at n1; cases n1
    have hn2 : H bs0 = none := by
      cases e : H bs0 with
      | none => rfl
      | some o => rw [old _ _ e] at n2; cases n2
    have nefo : fo ≠ d ∧ fo ≠ h0 ∧ fo ≠ bs0 := by
      obtain ⟨_, _, _, _, _, DS⟩ := D
      refine ⟨fun z => ?_, fun z => ?_, fun z => ?_⟩
      · rw [z, DS.hd] at nfo; cases nfo
      · rw [z, DS.hh] at nfo; cases nfo
      · rw [z, DS.hb] at nfo; cases nfo
    refine while_by (fun σ H' => ∃ (i : Nat) (Gi : Hp) (h bs : Addr) (v4 v5 v6 : Option V), i ≤ ds.length ∧ σ = [some (.ref a), some (.ref d), some (.ref fo), some (.int (off ds i : Int)), v4, v5, v6] ∧ Same H H' ∧ H h = none ∧ H bs = none ∧
        DeskIn CB CW CD Gi H' d h bs (after Si93.init (ds.take i)) ∧ Gi fo = none ∧ fo ≠ h ∧ fo ≠ bs ∧ H' fo = some (.lst ((outs Si93.init (ds.take i)).map V.int))) (gauge (code ds).length)
      ⟨0, Gi, h0, bs0, none, none, none, Nat.zero_le _, rfl, s2, hn1, hn2, D.upd hgo nefo.1 nefo.2.1 nefo.2.2, hgo, nefo.2.1, nefo.2.2, by rw [upd_same]; rfl⟩ ?_ ?_
    · rintro σ H2 ⟨i, Gi, h, bs, v4, v5, v6, hi, rfl, s2, nh, nb, D, hgo, ne2, ne3, hfo⟩
      have ne1 : fo ≠ d := nefo.1
      have hS2 := s2.seq hS
      have lc : ((code ds).map V.int).length = (code ds).length := List.length_map _
      refine ⟨_, rfl, _, rfl, a, _, rfl, .inl hS2, _, _, rfl, rfl, _, rfl, ?_⟩
      by_cases c : off ds i < (code ds).length
      case neg =>
        refine if_false_of (decide_eq_false (show ¬ (off ds i : Int) < (((code ds).map V.int).length : Int) by omega)) ?_
        have ei : i = ds.length := by
          rcases Nat.lt_or_eq_of_le hi with z | z
          · have := (at_code (List.getElem?_eq_getElem z)).2.2
            omega
          · exact z
        rw [ei, List.take_length] at hfo
        exact ⟨_, rfl, q _ fo hfo⟩
      refine if_true_of (decide_eq_true (show (off ds i : Int) < (((code ds).map V.int).length : Int) by omega)) ?_
      have hi' := off_lt hi c
      have hx : ds[i]? = some ds[i] := List.getElem?_eq_getElem hi'
      generalize ds[i] = x at hx
      obtain ⟨a1, a2, a3⟩ := at_code hx
      obtain ⟨cc, hc⟩ := ht x (List.mem_of_getElem? hx)
      have m1 : ((code ds).map V.int)[off ds i]? = some (.int (x.1 : Int)) := by rw [List.getElem?_map, a1]; rfl
      have m2 : ((code ds).map V.int)[off ds i + 1]? = some (.int (x.2.length : Int)) := by rw [List.getElem?_map, a2]; rfl
      refine ⟨_, rfl, _, _, rfl, rfl, ?_⟩
      refine ⟨_, rfl, _, rfl, _, rfl, _, _, rfl, rfl, a, _, _, _, rfl, rfl, hS2, at_of (j := off ds i + 1) (by omega) m2, _, _, rfl, rfl, ?_⟩
      obtain ⟨dx2, w2, dw2, hxs2, bxs2, DS⟩ := id D
      refine ⟨_, rfl, d, dx2, _, rfl, DS.hd, lD_none (by decide +kernel) (by decide +kernel) (by decide +kernel) (by decide +kernel), _, rfl, _, rfl, a, _, _, _, rfl, rfl, hS2, at_of (j := off ds i) rfl m1, ?_⟩
      refine ⟨_, rfl, _, rfl, _, rfl, _, rfl, _, rfl, a, _, rfl, hS2, fun np nnp => ?_⟩
      rw [cut_code hx]
      have s3 := same_upd (o := .lst (nV x.2)) nnp
      have s23 := s2.trans s3
      refine ⟨Gi, d, h, bs, np, after Si93.init (ds.take i), x.1, x.2, cc, rfl, D.same s3, upd_same, hc, fine_after fine_init _, ?_⟩
      intro G' H3 h' bs' p D3 hG3 fr3 hh' hb' hp np3
      have hcx : callX x = cc := by
        unfold callX
        rw [hc]
        rfl
      have hfo2 := s3 _ _ hfo
      have hfo3 := fr3 _ _ hfo2 ne1 ne2 ne3
      have sH3 : Same H H3 := fun b o e => fr3 b o (s23 b o e) (ne_of_none e nd) (ne_of_none e nh) (ne_of_none e nb)
      have nh' : H h' = none := by
        rcases hh' with rfl | z
        · exact nh
        · exact none_of_same s23 z
      have nb' : H bs' = none := by
        rcases hb' with rfl | z
        · exact nb
        · exact none_of_same s23 z
      have g3 : G' fo = none := by
        cases e : G' fo with
        | none => rfl
        | some o =>
          rcases hG3 fo o e with z | z
          · rw [hgo] at z; cases z
          · rw [hfo2] at z; cases z
      have ne2' : fo ≠ h' := fun z => by
        rcases hh' with y | y
        · exact ne2 (z.trans y)
        · rw [← z, hfo2] at y; cases y
      have ne3' : fo ≠ bs' := fun z => by
        rcases hb' with y | y
        · exact ne3 (z.trans y)
        · rw [← z, hfo2] at y; cases y
      have pfo : p ≠ fo := fun z => by rw [z, hfo2] at np3; cases np3
      have e1 := take_more hx
      have eo : outs Si93.init (ds.take (i + 1)) = outs Si93.init (ds.take i) ++ (((res (Si93.step (after Si93.init (ds.take i)) cc).2).length : Int) :: res (Si93.step (after Si93.init (ds.take i)) cc).2) := by
        rw [e1, outs_snoc, hcx]
      have lo : (outs Si93.init (ds.take (i + 1))).length ≤ 10000000 := Nat.le_trans outs_le hlen
      rw [eo, List.length_append, List.length_cons] at lo
      have lm : ((outs Si93.init (ds.take i)).map V.int).length = (outs Si93.init (ds.take i)).length := List.length_map _
      have lr : ((res (Si93.step (after Si93.init (ds.take i)) cc).2).map V.int).length = (res (Si93.step (after Si93.init (ds.take i)) cc).2).length := List.length_map _
      have big : 10000000 < sizeLine := by decide
      refine ⟨_, rfl, .inl ⟨rfl, _, SqL.of hfo3⟩, _, rfl, p, _, rfl, .inl (SqL.of hp), fo, _, _, rfl, rfl, hfo3, by omega, ?_⟩
      have hp4 : (upd H3 fo (.lst ((outs Si93.init (ds.take i)).map V.int ++ [V.int (((res (Si93.step (after Si93.init (ds.take i)) cc).2).map V.int).length : Int)]))) p = some (.lst ((res (Si93.step (after Si93.init (ds.take i)) cc).2).map V.int)) := by
        rw [upd_ne pfo]
        exact hp
      refine ⟨_, rfl, .inl ⟨rfl, _, SqL.of upd_same⟩, _, rfl, fo, p, _, _, rfl, rfl, upd_same, hp4, ?_, ?_⟩
      · rw [List.length_append, lm, lr]
        show _ + 1 + _ ≤ sizeLine
        omega
      rw [upd_upd]
      refine ⟨_, rfl, _, _, rfl, rfl, ?_⟩
      have eoff := off_more hx
      refine ⟨⟨i + 1, G', h', bs', some (.int ((off ds i : Int) + 2)), some (.int ((off ds i : Int) + 2 + (x.2.length : Int))), some (.ref p), hi', ?_, Same.upd2 sH3 nfo0, nh', nb', ?_, g3, ne2', ne3', ?_⟩, ?_⟩
      · rw [eoff]
        have ez : (off ds i : Int) + 2 + (x.2.length : Int) + 1 = ((off ds i + (x.2.length + 3) : Nat) : Int) := by omega
        rw [← ez]
        rfl
      · rw [e1, after_snoc, hcx]
        exact D3.upd g3 ne1 ne2' ne3'
      · rw [upd_same, eo, List.map_append, List.map_cons, lr, List.append_assoc]
        rfl
      · show (code ds).length - ((off ds i : Int) + 2 + (x.2.length : Int) + 1).toNat < (code ds).length - ((off ds i : Int)).toNat
        omega
    · rintro σ H2 Q1 Q2 hQ ⟨x, hx, y, hy, p, xs, e, hs, i, j, e1, e2, k, e3, z⟩
      exact ⟨x, hx, y, hy, p, xs, e, hs, i, j, e1, e2, k, e3, hQ _ _ z⟩
end
end Bal
/-! ### the end: what the top has written -/
namespace Bal
open PySem PySem.Spec PyProof.Rows L2
/-- an except clause that names the error's own class -/
theorem exm_same {K : PySem.W.Frag} {S : Addr} (h1 : PySem.W.subIn K (.ref S) (.type "BaseException") = some true) (h2 : PySem.W.isClsIn K S = true) (h3 : PySem.W.typeIn K (.ref S) = some (.type "type")) (h4 : PySem.W.subIn K (.ref S) (.ref S) = some true) :
    PySem.W.exmOne K (.ref S) (.ref S) = some true := by
  have b1 : (PySem.W.subIn K (.ref S) (.type "BaseException") == some true) = true := by
    rw [h1]
    rfl
  have b2 : ((PySem.W.clsIn K S).isSome && PySem.W.typeIn K (.ref S) == some (.type "type")) = true := by
    have b3 : (PySem.W.clsIn K S).isSome = true := h2
    rw [b3, h3]
    rfl
  unfold PySem.W.exmOne
  first
    | exact (if_pos b1).trans ((if_pos b2).trans h4)
    | (show (if (PySem.W.subIn K (.ref S) (.type "BaseException") == some true) = true then (if ((PySem.W.clsIn K S).isSome && PySem.W.typeIn K (.ref S) == some (.type "type")) = true then PySem.W.subIn K (.ref S) (.ref S) else none) else none) = some true
       exact (if_pos b1).trans ((if_pos b2).trans h4))
set_option maxHeartbeats 8000000 in
theorem all_of {P : Program} {w : World} {K : PySem.W.Frag} {h : Heap} {mg : Str → Option Value} {fa CB CW CD CR f1 f2 f3 f4 f5 f6 f7 f8 f9 f10 f11 f12 f13 f14 f15 f16 f17 f18 f19 f20 f21 f22 f23 f24 f25 f26 f27 f28 f29 f30 : Addr} (X : K.In h) (G : h.Ns mainGlobals mg) (hfa : mg "answers" = some (.ref fa))
    {nm q : Str} {N : Addr} {bs : List Value} {sn : List Str} {sub : List Value} {ab : Bool} {col : Option Bool} {dd : Option Addr} {m0 m1 m2 m3 m5 : Option Value}
    {od1 an1 od2 an2 od3 an3 od4 an4 od5 an5 od6 an6 od7 an7 od8 an8 od9 an9 od10 an10 od11 an11 od12 an12 od13 an13 od14 an14 od15 an15 od16 an16 od17 an17 od18 an18 od19 an19 od20 an20 od21 an21 od22 an22 od23 an23 od24 an24 od25 an25 od26 an26 od27 an27 od28 an28 od29 an29 od30 an30 : Option Addr} {sl1 sl2 sl3 sl4 sl5 sl6 sl7 sl8 sl9 sl10 sl11 sl12 sl13 sl14 sl15 sl16 sl17 sl18 sl19 sl20 sl21 sl22 sl23 sl24 sl25 sl26 sl27 sl28 sl29 sl30 : Array (Option Value)} {oc1 kV1 dc1 pm1 cd1 ct1 oc2 kV2 dc2 pm2 cd2 ct2 oc3 kV3 dc3 pm3 cd3 ct3 oc4 kV4 dc4 pm4 cd4 ct4 oc5 kV5 dc5 pm5 cd5 ct5 oc6 kV6 dc6 pm6 cd6 ct6 oc7 kV7 dc7 pm7 cd7 ct7 oc8 kV8 dc8 pm8 cd8 ct8 oc9 kV9 dc9 pm9 cd9 ct9 oc10 kV10 dc10 pm10 cd10 ct10 oc11 kV11 dc11 pm11 cd11 ct11 oc12 kV12 dc12 pm12 cd12 ct12 oc13 kV13 dc13 pm13 cd13 ct13 oc14 kV14 dc14 pm14 cd14 ct14 oc15 kV15 dc15 pm15 cd15 ct15 oc16 kV16 dc16 pm16 cd16 ct16 oc17 kV17 dc17 pm17 cd17 ct17 oc18 kV18 dc18 pm18 cd18 ct18 oc19 kV19 dc19 pm19 cd19 ct19 oc20 kV20 dc20 pm20 cd20 ct20 oc21 kV21 dc21 pm21 cd21 ct21 oc22 kV22 dc22 pm22 cd22 ct22 oc23 kV23 dc23 pm23 cd23 ct23 oc24 kV24 dc24 pm24 cd24 ct24 oc25 kV25 dc25 pm25 cd25 ct25 oc26 kV26 dc26 pm26 cd26 ct26 oc27 kV27 dc27 pm27 cd27 ct27 oc28 kV28 dc28 pm28 cd28 ct28 oc29 kV29 dc29 pm29 cd29 ct29 oc30 kV30 dc30 pm30 cd30 ct30 : Value} {t0 t1 t2 t3 t4 t5 t6 t7 t8 t9 t10 t11 t12 : Tok}
    (nCB : PySem.W.nsIn K mainGlobals "Balloon" = some (some (.ref CB)))
    (nCW : PySem.W.nsIn K mainGlobals "Winds" = some (some (.ref CW)))
    (nCD : PySem.W.nsIn K mainGlobals "Desk" = some (some (.ref CD)))
    (nCR : PySem.W.nsIn K mainGlobals "Refused" = some (some (.ref CR)))
    (a1 : PySem.W.findIn K (.ref CB) "__init__" = some (some (.ref f1)))
    (i1 : PySem.W.isFn K (.ref f1) = true)
    (l1 : K.lookup f1 = some ⟨oc1, od1, .func (PySem.W.fnOf "__init__" "Balloon.__init__" (defArgs sBalInit) (defBody sBalInit) (defScope sBalInit) .none kV1 dc1 pm1 an1 cd1 ct1), sl1⟩)
    (c1 : PySem.W.codeIn K cd1 "Balloon.__init__" = true)
    (k1 : PySem.W.keepIn K (.ref f1) = true)
    (a2 : PySem.W.findIn K (.ref CB) "down_behind" = some (some (.ref f2)))
    (i2 : PySem.W.isFn K (.ref f2) = true)
    (l2 : K.lookup f2 = some ⟨oc2, od2, .func (PySem.W.fnOf "down_behind" "Balloon.down_behind" (defArgs sDown) (defBody sDown) (defScope sDown) .none kV2 dc2 pm2 an2 cd2 ct2), sl2⟩)
    (c2 : PySem.W.codeIn K cd2 "Balloon.down_behind" = true)
    (k2 : PySem.W.keepIn K (.ref f2) = true)
    (a3 : PySem.W.findIn K (.ref CW) "__init__" = some (some (.ref f3)))
    (i3 : PySem.W.isFn K (.ref f3) = true)
    (l3 : K.lookup f3 = some ⟨oc3, od3, .func (PySem.W.fnOf "__init__" "Winds.__init__" (defArgs sWinInit) (defBody sWinInit) (defScope sWinInit) .none kV3 dc3 pm3 an3 cd3 ct3), sl3⟩)
    (c3 : PySem.W.codeIn K cd3 "Winds.__init__" = true)
    (k3 : PySem.W.keepIn K (.ref f3) = true)
    (a4 : PySem.W.findIn K (.ref CW) "many_hours" = some (some (.ref f4)))
    (i4 : PySem.W.isFn K (.ref f4) = true)
    (l4 : K.lookup f4 = some ⟨oc4, od4, .func (PySem.W.fnOf "many_hours" "Winds.many_hours" (defArgs sMany) (defBody sMany) (defScope sMany) .none kV4 dc4 pm4 an4 cd4 ct4), sl4⟩)
    (c4 : PySem.W.codeIn K cd4 "Winds.many_hours" = true)
    (k4 : PySem.W.keepIn K (.ref f4) = true)
    (a5 : PySem.W.findIn K (.ref CW) "carried" = some (some (.ref f5)))
    (i5 : PySem.W.isFn K (.ref f5) = true)
    (l5 : K.lookup f5 = some ⟨oc5, od5, .func (PySem.W.fnOf "carried" "Winds.carried" (defArgs sCarried) (defBody sCarried) (defScope sCarried) .none kV5 dc5 pm5 an5 cd5 ct5), sl5⟩)
    (c5 : PySem.W.codeIn K cd5 "Winds.carried" = true)
    (k5 : PySem.W.keepIn K (.ref f5) = true)
    (a6 : PySem.W.findIn K (.ref CW) "way_of" = some (some (.ref f6)))
    (i6 : PySem.W.isFn K (.ref f6) = true)
    (l6 : K.lookup f6 = some ⟨oc6, od6, .func (PySem.W.fnOf "way_of" "Winds.way_of" (defArgs sWay) (defBody sWay) (defScope sWay) .none kV6 dc6 pm6 an6 cd6 ct6), sl6⟩)
    (c6 : PySem.W.codeIn K cd6 "Winds.way_of" = true)
    (k6 : PySem.W.keepIn K (.ref f6) = true)
    (a7 : PySem.W.findIn K (.ref CW) "landing" = some (some (.ref f7)))
    (i7 : PySem.W.isFn K (.ref f7) = true)
    (l7 : K.lookup f7 = some ⟨oc7, od7, .func (PySem.W.fnOf "landing" "Winds.landing" (defArgs sLanding) (defBody sLanding) (defScope sLanding) .none kV7 dc7 pm7 an7 cd7 ct7), sl7⟩)
    (c7 : PySem.W.codeIn K cd7 "Winds.landing" = true)
    (k7 : PySem.W.keepIn K (.ref f7) = true)
    (a8 : PySem.W.nsIn K mainGlobals "square_of" = some (some (.ref f8)))
    (l8 : K.lookup f8 = some ⟨oc8, od8, .func (PySem.W.fnOf "square_of" "square_of" (defArgs sSquare) (defBody sSquare) (defScope sSquare) .none kV8 dc8 pm8 an8 cd8 ct8), sl8⟩)
    (c8 : PySem.W.codeIn K cd8 "square_of" = true)
    (k8 : PySem.W.keepIn K (.ref f8) = true)
    (a9 : PySem.W.nsIn K mainGlobals "meeting_of" = some (some (.ref f9)))
    (l9 : K.lookup f9 = some ⟨oc9, od9, .func (PySem.W.fnOf "meeting_of" "meeting_of" (defArgs sMeeting) (defBody sMeeting) (defScope sMeeting) .none kV9 dc9 pm9 an9 cd9 ct9), sl9⟩)
    (c9 : PySem.W.codeIn K cd9 "meeting_of" = true)
    (k9 : PySem.W.keepIn K (.ref f9) = true)
    (a10 : PySem.W.nsIn K mainGlobals "too_near" = some (some (.ref f10)))
    (l10 : K.lookup f10 = some ⟨oc10, od10, .func (PySem.W.fnOf "too_near" "too_near" (defArgs sTooNear) (defBody sTooNear) (defScope sTooNear) .none kV10 dc10 pm10 an10 cd10 ct10), sl10⟩)
    (c10 : PySem.W.codeIn K cd10 "too_near" = true)
    (k10 : PySem.W.keepIn K (.ref f10) = true)
    (a11 : PySem.W.nsIn K mainGlobals "too_late" = some (some (.ref f11)))
    (l11 : K.lookup f11 = some ⟨oc11, od11, .func (PySem.W.fnOf "too_late" "too_late" (defArgs sTooLate) (defBody sTooLate) (defScope sTooLate) .none kV11 dc11 pm11 an11 cd11 ct11), sl11⟩)
    (c11 : PySem.W.codeIn K cd11 "too_late" = true)
    (k11 : PySem.W.keepIn K (.ref f11) = true)
    (a12 : PySem.W.nsIn K mainGlobals "can_be" = some (some (.ref f12)))
    (l12 : K.lookup f12 = some ⟨oc12, od12, .func (PySem.W.fnOf "can_be" "can_be" (defArgs sCanBe) (defBody sCanBe) (defScope sCanBe) .none kV12 dc12 pm12 an12 cd12 ct12), sl12⟩)
    (c12 : PySem.W.codeIn K cd12 "can_be" = true)
    (k12 : PySem.W.keepIn K (.ref f12) = true)
    (a13 : PySem.W.nsIn K mainGlobals "all_down" = some (some (.ref f13)))
    (l13 : K.lookup f13 = some ⟨oc13, od13, .func (PySem.W.fnOf "all_down" "all_down" (defArgs sAllDown) (defBody sAllDown) (defScope sAllDown) .none kV13 dc13 pm13 an13 cd13 ct13), sl13⟩)
    (c13 : PySem.W.codeIn K cd13 "all_down" = true)
    (k13 : PySem.W.keepIn K (.ref f13) = true)
    (a14 : PySem.W.nsIn K mainGlobals "all_plans" = some (some (.ref f14)))
    (l14 : K.lookup f14 = some ⟨oc14, od14, .func (PySem.W.fnOf "all_plans" "all_plans" (defArgs sAllPlans) (defBody sAllPlans) (defScope sAllPlans) .none kV14 dc14 pm14 an14 cd14 ct14), sl14⟩)
    (c14 : PySem.W.codeIn K cd14 "all_plans" = true)
    (k14 : PySem.W.keepIn K (.ref f14) = true)
    (a15 : PySem.W.nsIn K mainGlobals "plans_that_can" = some (some (.ref f15)))
    (l15 : K.lookup f15 = some ⟨oc15, od15, .func (PySem.W.fnOf "plans_that_can" "plans_that_can" (defArgs sPlansThat) (defBody sPlansThat) (defScope sPlansThat) .none kV15 dc15 pm15 an15 cd15 ct15), sl15⟩)
    (c15 : PySem.W.codeIn K cd15 "plans_that_can" = true)
    (k15 : PySem.W.keepIn K (.ref f15) = true)
    (a16 : PySem.W.nsIn K mainGlobals "least_of" = some (some (.ref f16)))
    (l16 : K.lookup f16 = some ⟨oc16, od16, .func (PySem.W.fnOf "least_of" "least_of" (defArgs sLeast) (defBody sLeast) (defScope sLeast) .none kV16 dc16 pm16 an16 cd16 ct16), sl16⟩)
    (c16 : PySem.W.codeIn K cd16 "least_of" = true)
    (k16 : PySem.W.keepIn K (.ref f16) = true)
    (a17 : PySem.W.findIn K (.ref CR) "__init__" = some (some (.ref f17)))
    (l17 : K.lookup f17 = some ⟨oc17, od17, .func (PySem.W.fnOf "__init__" "Refused.__init__" (defArgs sRefInit) (defBody sRefInit) (defScope sRefInit) .none kV17 dc17 pm17 an17 cd17 ct17), sl17⟩)
    (c17 : PySem.W.codeIn K cd17 "Refused.__init__" = true)
    (k17 : PySem.W.keepIn K (.ref f17) = true)
    (a18 : PySem.W.nsIn K mainGlobals "need" = some (some (.ref f18)))
    (l18 : K.lookup f18 = some ⟨oc18, od18, .func (PySem.W.fnOf "need" "need" (defArgs sNeed) (defBody sNeed) (defScope sNeed) .none kV18 dc18 pm18 an18 cd18 ct18), sl18⟩)
    (c18 : PySem.W.codeIn K cd18 "need" = true)
    (k18 : PySem.W.keepIn K (.ref f18) = true)
    (a19 : PySem.W.findIn K (.ref CD) "__init__" = some (some (.ref f19)))
    (i19 : PySem.W.isFn K (.ref f19) = true)
    (l19 : K.lookup f19 = some ⟨oc19, od19, .func (PySem.W.fnOf "__init__" "Desk.__init__" (defArgs sDeskInit) (defBody sDeskInit) (defScope sDeskInit) .none kV19 dc19 pm19 an19 cd19 ct19), sl19⟩)
    (c19 : PySem.W.codeIn K cd19 "Desk.__init__" = true)
    (k19 : PySem.W.keepIn K (.ref f19) = true)
    (a20 : PySem.W.findIn K (.ref CD) "begins" = some (some (.ref f20)))
    (i20 : PySem.W.isFn K (.ref f20) = true)
    (l20 : K.lookup f20 = some ⟨oc20, od20, .func (PySem.W.fnOf "begins" "Desk.begins" (defArgs sBegins) (defBody sBegins) (defScope sBegins) .none kV20 dc20 pm20 an20 cd20 ct20), sl20⟩)
    (c20 : PySem.W.codeIn K cd20 "Desk.begins" = true)
    (k20 : PySem.W.keepIn K (.ref f20) = true)
    (a21 : PySem.W.findIn K (.ref CD) "add_hour" = some (some (.ref f21)))
    (i21 : PySem.W.isFn K (.ref f21) = true)
    (l21 : K.lookup f21 = some ⟨oc21, od21, .func (PySem.W.fnOf "add_hour" "Desk.add_hour" (defArgs sAddHour) (defBody sAddHour) (defScope sAddHour) .none kV21 dc21 pm21 an21 cd21 ct21), sl21⟩)
    (c21 : PySem.W.codeIn K cd21 "Desk.add_hour" = true)
    (k21 : PySem.W.keepIn K (.ref f21) = true)
    (a22 : PySem.W.findIn K (.ref CD) "add_balloon" = some (some (.ref f22)))
    (i22 : PySem.W.isFn K (.ref f22) = true)
    (l22 : K.lookup f22 = some ⟨oc22, od22, .func (PySem.W.fnOf "add_balloon" "Desk.add_balloon" (defArgs sAddBal) (defBody sAddBal) (defScope sAddBal) .none kV22 dc22 pm22 an22 cd22 ct22), sl22⟩)
    (c22 : PySem.W.codeIn K cd22 "Desk.add_balloon" = true)
    (k22 : PySem.W.keepIn K (.ref f22) = true)
    (a23 : PySem.W.findIn K (.ref CD) "check" = some (some (.ref f23)))
    (i23 : PySem.W.isFn K (.ref f23) = true)
    (l23 : K.lookup f23 = some ⟨oc23, od23, .func (PySem.W.fnOf "check" "Desk.check" (defArgs sCheck) (defBody sCheck) (defScope sCheck) .none kV23 dc23 pm23 an23 cd23 ct23), sl23⟩)
    (c23 : PySem.W.codeIn K cd23 "Desk.check" = true)
    (k23 : PySem.W.keepIn K (.ref f23) = true)
    (a24 : PySem.W.findIn K (.ref CD) "plans" = some (some (.ref f24)))
    (i24 : PySem.W.isFn K (.ref f24) = true)
    (l24 : K.lookup f24 = some ⟨oc24, od24, .func (PySem.W.fnOf "plans" "Desk.plans" (defArgs sPlans) (defBody sPlans) (defScope sPlans) .none kV24 dc24 pm24 an24 cd24 ct24), sl24⟩)
    (c24 : PySem.W.codeIn K cd24 "Desk.plans" = true)
    (k24 : PySem.W.keepIn K (.ref f24) = true)
    (a25 : PySem.W.findIn K (.ref CD) "best" = some (some (.ref f25)))
    (i25 : PySem.W.isFn K (.ref f25) = true)
    (l25 : K.lookup f25 = some ⟨oc25, od25, .func (PySem.W.fnOf "best" "Desk.best" (defArgs sBest) (defBody sBest) (defScope sBest) .none kV25 dc25 pm25 an25 cd25 ct25), sl25⟩)
    (c25 : PySem.W.codeIn K cd25 "Desk.best" = true)
    (k25 : PySem.W.keepIn K (.ref f25) = true)
    (a26 : PySem.W.findIn K (.ref CD) "soonest" = some (some (.ref f26)))
    (i26 : PySem.W.isFn K (.ref f26) = true)
    (l26 : K.lookup f26 = some ⟨oc26, od26, .func (PySem.W.fnOf "soonest" "Desk.soonest" (defArgs sSoonest) (defBody sSoonest) (defScope sSoonest) .none kV26 dc26 pm26 an26 cd26 ct26), sl26⟩)
    (c26 : PySem.W.codeIn K cd26 "Desk.soonest" = true)
    (k26 : PySem.W.keepIn K (.ref f26) = true)
    (a27 : PySem.W.findIn K (.ref CD) "lands" = some (some (.ref f27)))
    (i27 : PySem.W.isFn K (.ref f27) = true)
    (l27 : K.lookup f27 = some ⟨oc27, od27, .func (PySem.W.fnOf "lands" "Desk.lands" (defArgs sLands) (defBody sLands) (defScope sLands) .none kV27 dc27 pm27 an27 cd27 ct27), sl27⟩)
    (c27 : PySem.W.codeIn K cd27 "Desk.lands" = true)
    (k27 : PySem.W.keepIn K (.ref f27) = true)
    (a28 : PySem.W.findIn K (.ref CD) "told_by" = some (some (.ref f28)))
    (i28 : PySem.W.isFn K (.ref f28) = true)
    (l28 : K.lookup f28 = some ⟨oc28, od28, .func (PySem.W.fnOf "told_by" "Desk.told_by" (defArgs sToldBy) (defBody sToldBy) (defScope sToldBy) .none kV28 dc28 pm28 an28 cd28 ct28), sl28⟩)
    (c28 : PySem.W.codeIn K cd28 "Desk.told_by" = true)
    (k28 : PySem.W.keepIn K (.ref f28) = true)
    (a29 : PySem.W.findIn K (.ref CD) "answer" = some (some (.ref f29)))
    (i29 : PySem.W.isFn K (.ref f29) = true)
    (l29 : K.lookup f29 = some ⟨oc29, od29, .func (PySem.W.fnOf "answer" "Desk.answer" (defArgs sAnswer) (defBody sAnswer) (defScope sAnswer) .none kV29 dc29 pm29 an29 cd29 ct29), sl29⟩)
    (c29 : PySem.W.codeIn K cd29 "Desk.answer" = true)
    (k29 : PySem.W.keepIn K (.ref f29) = true)
    (a30 : PySem.W.nsIn K mainGlobals "answers" = some (some (.ref f30)))
    (l30 : K.lookup f30 = some ⟨oc30, od30, .func (PySem.W.fnOf "answers" "answers" (defArgs sAnswers) (defBody sAnswers) (defScope sAnswers) .none kV30 dc30 pm30 an30 cd30 ct30), sl30⟩)
    (c30 : PySem.W.codeIn K cd30 "answers" = true)
    (k30 : PySem.W.keepIn K (.ref f30) = true)
    (pgCB : PySem.W.plainGet K CB Str.empty = true)
    (hdCB : PySem.W.hasDictIn K CB = true)
    (poCB : PySem.W.plainOver K CB = true)
    (saCB : PySem.W.findIn K (.ref CB) "__setattr__" = some (some (.builtin "object.__setattr__")))
    (mkCB : PySem.W.makesIn K CB = true)
    (kcCB : PySem.W.keepIn K (.ref CB) = true)
    (pgCW : PySem.W.plainGet K CW Str.empty = true)
    (hdCW : PySem.W.hasDictIn K CW = true)
    (poCW : PySem.W.plainOver K CW = true)
    (saCW : PySem.W.findIn K (.ref CW) "__setattr__" = some (some (.builtin "object.__setattr__")))
    (mkCW : PySem.W.makesIn K CW = true)
    (kcCW : PySem.W.keepIn K (.ref CW) = true)
    (pgCD : PySem.W.plainGet K CD Str.empty = true)
    (hdCD : PySem.W.hasDictIn K CD = true)
    (poCD : PySem.W.plainOver K CD = true)
    (saCD : PySem.W.findIn K (.ref CD) "__setattr__" = some (some (.builtin "object.__setattr__")))
    (mkCD : PySem.W.makesIn K CD = true)
    (kcCD : PySem.W.keepIn K (.ref CD) = true)
    (onEast : PySem.W.findIn K (.ref CB) "east" = some none)
    (onNorth : PySem.W.findIn K (.ref CB) "north" = some none)
    (onFlight : PySem.W.findIn K (.ref CB) "flight" = some none)
    (onHeights : PySem.W.findIn K (.ref CW) "heights" = some none)
    (onHours : PySem.W.findIn K (.ref CW) "hours" = some none)
    (onWinds : PySem.W.findIn K (.ref CD) "winds" = some none)
    (onBals : PySem.W.findIn K (.ref CD) "balloons" = some none)
    (onNear : PySem.W.findIn K (.ref CD) "near" = some none)
    (onWait : PySem.W.findIn K (.ref CD) "most_wait" = some none)
    (z_len : PySem.W.nsIn K mainGlobals "len" = some none)
    (z_zip : PySem.W.nsIn K mainGlobals "zip" = some none)
    (z_enumerate : PySem.W.nsIn K mainGlobals "enumerate" = some none)
    (z_max : PySem.W.nsIn K mainGlobals "max" = some none)
    (z_min : PySem.W.nsIn K mainGlobals "min" = some none)
    (z_range : PySem.W.nsIn K mainGlobals "range" = some none)
    (z_sum : PySem.W.nsIn K mainGlobals "sum" = some none)
    (z_all : PySem.W.nsIn K mainGlobals "all" = some none)
    (z_list : PySem.W.nsIn K mainGlobals "list" = some none)
    (z_ValueError : PySem.W.nsIn K mainGlobals "ValueError" = some none)
    (v0 : PySem.W.nsIn K mainGlobals "BAD" = some (some (.int (-1) t0)))
    (v1 : PySem.W.nsIn K mainGlobals "STRANGE" = some (some (.int (-2) t1)))
    (v2 : PySem.W.nsIn K mainGlobals "FULL" = some (some (.int (-5) t2)))
    (v3 : PySem.W.nsIn K mainGlobals "NONE" = some (some (.int (-6) t3)))
    (v4 : PySem.W.nsIn K mainGlobals "LATE" = some (some (.int (-7) t4)))
    (v5 : PySem.W.nsIn K mainGlobals "MOST_HEIGHTS" = some (some (.int (4) t5)))
    (v6 : PySem.W.nsIn K mainGlobals "MOST_NEAR" = some (some (.int (1000) t6)))
    (v7 : PySem.W.nsIn K mainGlobals "MOST_WAIT" = some (some (.int (3) t7)))
    (v8 : PySem.W.nsIn K mainGlobals "MOST_HOURS" = some (some (.int (8) t8)))
    (v9 : PySem.W.nsIn K mainGlobals "MOST_BALLOONS" = some (some (.int (4) t9)))
    (v10 : PySem.W.nsIn K mainGlobals "MOST_FLIGHT" = some (some (.int (5) t10)))
    (v11 : PySem.W.nsIn K mainGlobals "WIND_ADDED" = some (some (.int (9) t11)))
    (v12 : PySem.W.nsIn K mainGlobals "PLACE_ADDED" = some (some (.int (100) t12)))
    (xL : K.lookup CR = some (excClassObj nm q CR N bs [.type "ValueError", .type "Exception", .type "BaseException", .type "object"] true sn sub ab col dd m0 m1 m2 m3 m5 "ValueError.__new__"))
    (saR : PySem.W.findIn K (.ref CR) "__setattr__" = some (some (.builtin "object.__setattr__")))
    (gaR : PySem.W.findIn K (.ref CR) "__getattribute__" = some (some (.builtin "BaseException.__getattribute__")))
    (ggR : PySem.W.findIn K (.ref CR) "__getattr__" = some none)
    (noR : PySem.W.findIn K (.ref CR) "told" = some none)
    (tI : PySem.W.typeIn K (.ref f17) = some (.type "function"))
    (kR : PySem.W.keepIn K (.ref CR) = true)
    (eR : PySem.W.subIn K (.ref CR) (.type "BaseException") = some true)
    (tR : PySem.W.typeIn K (.ref CR) = some (.type "type"))
    (hR : PySem.W.hasDictIn K CR = true)
    (iR : PySem.W.isClsIn K CR = true)
    (vV : PySem.W.findCls K (.type "ValueError") (.type "type") "__init__" = some (.val (.builtin "ValueError.__init__")))
    (sR : PySem.W.subIn K (.ref CR) (.ref CR) = some true) :
    ∃ fd : FuncData, (∀ (s : Shared) (us : List Value), us.length = (["calls"] : List Str).length → BindsTo s fd ⟨us, []⟩ ((["calls"] : List Str).zip us)) ∧ ∀ base : Heap, K.In base → base.Ns mainGlobals mg → FnOk P w K mg base CX0 10 fa fd ["calls"] (spAnswers K) := by
  have same := hfa.symm.trans (PySem.W.mg_of X G a30)
  cases same
  have F1 := fun_mk (st := sBalInit) l1 c1 k1
  have b1 := F1.binds (ps := ["self", "east", "north", "flight"]) fun _ _ _ _ _ _ us hl => match us, hl with | [_, _, _, _], _ => rfl
  have F2 := fun_mk (st := sDown) l2 c2 k2
  have b2 := F2.binds (ps := ["self", "waits"]) fun _ _ _ _ _ _ us hl => match us, hl with | [_, _], _ => rfl
  have F3 := fun_mk (st := sWinInit) l3 c3 k3
  have b3 := F3.binds (ps := ["self", "heights"]) fun _ _ _ _ _ _ us hl => match us, hl with | [_, _], _ => rfl
  have F4 := fun_mk (st := sMany) l4 c4 k4
  have b4 := F4.binds (ps := ["self"]) fun _ _ _ _ _ _ us hl => match us, hl with | [_], _ => rfl
  have F5 := fun_mk (st := sCarried) l5 c5 k5
  have b5 := F5.binds (ps := ["self", "place", "hour", "height"]) fun _ _ _ _ _ _ us hl => match us, hl with | [_, _, _, _], _ => rfl
  have F6 := fun_mk (st := sWay) l6 c6 k6
  have b6 := F6.binds (ps := ["self", "balloon", "waits"]) fun _ _ _ _ _ _ us hl => match us, hl with | [_, _, _], _ => rfl
  have F7 := fun_mk (st := sLanding) l7 c7 k7
  have b7 := F7.binds (ps := ["self", "balloon", "waits"]) fun _ _ _ _ _ _ us hl => match us, hl with | [_, _, _], _ => rfl
  have F8 := fun_mk (st := sSquare) l8 c8 k8
  have b8 := F8.binds (ps := ["one", "other"]) fun _ _ _ _ _ _ us hl => match us, hl with | [_, _], _ => rfl
  have F9 := fun_mk (st := sMeeting) l9 c9 k9
  have b9 := F9.binds (ps := ["one", "other", "near"]) fun _ _ _ _ _ _ us hl => match us, hl with | [_, _, _], _ => rfl
  have F10 := fun_mk (st := sTooNear) l10 c10 k10
  have b10 := F10.binds (ps := ["winds", "balloons", "plan", "near"]) fun _ _ _ _ _ _ us hl => match us, hl with | [_, _, _, _], _ => rfl
  have F11 := fun_mk (st := sTooLate) l11 c11 k11
  have b11 := F11.binds (ps := ["winds", "balloons", "plan"]) fun _ _ _ _ _ _ us hl => match us, hl with | [_, _, _], _ => rfl
  have F12 := fun_mk (st := sCanBe) l12 c12 k12
  have b12 := F12.binds (ps := ["winds", "balloons", "plan", "near"]) fun _ _ _ _ _ _ us hl => match us, hl with | [_, _, _, _], _ => rfl
  have F13 := fun_mk (st := sAllDown) l13 c13 k13
  have b13 := F13.binds (ps := ["balloons", "plan"]) fun _ _ _ _ _ _ us hl => match us, hl with | [_, _], _ => rfl
  have F14 := fun_mk (st := sAllPlans) l14 c14 k14
  have b14 := F14.binds (ps := ["many", "most"]) fun _ _ _ _ _ _ us hl => match us, hl with | [_, _], _ => rfl
  have F15 := fun_mk (st := sPlansThat) l15 c15 k15
  have b15 := F15.binds (ps := ["winds", "balloons", "most", "near"]) fun _ _ _ _ _ _ us hl => match us, hl with | [_, _, _, _], _ => rfl
  have F16 := fun_mk (st := sLeast) l16 c16 k16
  have b16 := F16.binds (ps := ["plans", "worths"]) fun _ _ _ _ _ _ us hl => match us, hl with | [_, _], _ => rfl
  have F17 := fun_mk (st := sRefInit) l17 c17 k17
  have b17 := F17.binds (ps := ["self", "told"]) fun _ _ _ _ _ _ us hl => match us, hl with | [_, _], _ => rfl
  have F18 := fun_mk (st := sNeed) l18 c18 k18
  have b18 := F18.binds (ps := ["holds", "code"]) fun _ _ _ _ _ _ us hl => match us, hl with | [_, _], _ => rfl
  have F19 := fun_mk (st := sDeskInit) l19 c19 k19
  have b19 := F19.binds (ps := ["self"]) fun _ _ _ _ _ _ us hl => match us, hl with | [_], _ => rfl
  have F20 := fun_mk (st := sBegins) l20 c20 k20
  have b20 := F20.binds (ps := ["self", "numbers"]) fun _ _ _ _ _ _ us hl => match us, hl with | [_, _], _ => rfl
  have F21 := fun_mk (st := sAddHour) l21 c21 k21
  have b21 := F21.binds (ps := ["self", "numbers"]) fun _ _ _ _ _ _ us hl => match us, hl with | [_, _], _ => rfl
  have F22 := fun_mk (st := sAddBal) l22 c22 k22
  have b22 := F22.binds (ps := ["self", "numbers"]) fun _ _ _ _ _ _ us hl => match us, hl with | [_, _], _ => rfl
  have F23 := fun_mk (st := sCheck) l23 c23 k23
  have b23 := F23.binds (ps := ["self", "plan"]) fun _ _ _ _ _ _ us hl => match us, hl with | [_, _], _ => rfl
  have F24 := fun_mk (st := sPlans) l24 c24 k24
  have b24 := F24.binds (ps := ["self"]) fun _ _ _ _ _ _ us hl => match us, hl with | [_], _ => rfl
  have F25 := fun_mk (st := sBest) l25 c25 k25
  have b25 := F25.binds (ps := ["self"]) fun _ _ _ _ _ _ us hl => match us, hl with | [_], _ => rfl
  have F26 := fun_mk (st := sSoonest) l26 c26 k26
  have b26 := F26.binds (ps := ["self"]) fun _ _ _ _ _ _ us hl => match us, hl with | [_], _ => rfl
  have F27 := fun_mk (st := sLands) l27 c27 k27
  have b27 := F27.binds (ps := ["self", "number", "waits"]) fun _ _ _ _ _ _ us hl => match us, hl with | [_, _, _], _ => rfl
  have F28 := fun_mk (st := sToldBy) l28 c28 k28
  have b28 := F28.binds (ps := ["self", "call", "numbers"]) fun _ _ _ _ _ _ us hl => match us, hl with | [_, _, _], _ => rfl
  have F29 := fun_mk (st := sAnswer) l29 c29 k29
  have b29 := F29.binds (ps := ["self", "call", "numbers"]) fun _ _ _ _ _ _ us hl => match us, hl with | [_, _, _], _ => rfl
  have F30 := fun_mk (st := sAnswers) l30 c30 k30
  have kB : Cls K CB := ⟨pgCB, hdCB, poCB, saCB⟩
  have kW : Cls K CW := ⟨pgCW, hdCW, poCW, saCW⟩
  have kD : Cls K CD := ⟨pgCD, hdCD, poCD, saCD⟩
  have T : Txt K mg CB CW CD := { cB := kB, cW := kW, cD := kD, nEast := onEast, nNorth := onNorth, nFlight := onFlight, nHeights := onHeights, nHours := onHours, nWinds := onWinds, nBals := onBals, nNear := onNear, nWait := onWait, mLen := PySem.W.mg_none_of X G z_len, mZip := PySem.W.mg_none_of X G z_zip, mEnum := PySem.W.mg_none_of X G z_enumerate, mMax := PySem.W.mg_none_of X G z_max, mMin := PySem.W.mg_none_of X G z_min, mRange := PySem.W.mg_none_of X G z_range, mSum := PySem.W.mg_none_of X G z_sum, mAll := PySem.W.mg_none_of X G z_all, mList := PySem.W.mg_none_of X G z_list }
  have C : Con mg := ⟨⟨_, PySem.W.mg_of X G v0⟩, ⟨_, PySem.W.mg_of X G v1⟩, ⟨_, PySem.W.mg_of X G v2⟩, ⟨_, PySem.W.mg_of X G v3⟩, ⟨_, PySem.W.mg_of X G v4⟩, ⟨_, PySem.W.mg_of X G v5⟩, ⟨_, PySem.W.mg_of X G v6⟩, ⟨_, PySem.W.mg_of X G v7⟩, ⟨_, PySem.W.mg_of X G v8⟩, ⟨_, PySem.W.mg_of X G v9⟩, ⟨_, PySem.W.mg_of X G v10⟩, ⟨_, PySem.W.mg_of X G v11⟩, ⟨_, PySem.W.mg_of X G v12⟩⟩
  have R : TxtR K mg CR := ⟨⟨⟨nm, q, N, bs, _, sn, sub, ab, col, dd, m0, m1, m2, m3, m5, xL, by decide +kernel⟩, saR, eR, tR, kR⟩, ⟨gaR, ggR, eR, hR⟩, noR, PySem.W.mg_of X G nCR, PySem.W.mg_none_of X G z_ValueError, vV, exm_same eR iR tR sR⟩
  refine ⟨PySem.W.fnOf "answers" "answers" (defArgs sAnswers) (defBody sAnswers) (defScope sAnswers) .none kV30 dc30 pm30 an30 cd30 ct30, fun s us hu => match us, hu with | [_], _ => .of_eq rfl, fun base _ _ => ?_⟩
  have gBal : Mak P w K mg base 1 "Balloon" CB (spBalInit CB) := ⟨⟨f1, _, _, ⟨mkCB, a1, i1, kcCB⟩, ok_balInit F1 T, PySem.W.mg_of X G nCB, b1⟩⟩
  have gDown : Met P w K mg base 1 CB "down_behind" (spDown CB) := ⟨⟨f2, _, _, kB, ⟨a2, i2, k2⟩, ok_down F2 T, b2⟩⟩
  have gWin : Mak P w K mg base 1 "Winds" CW (spWinInit CW) := ⟨⟨f3, _, _, ⟨mkCW, a3, i3, kcCW⟩, ok_winInit F3 T, PySem.W.mg_of X G nCW, b3⟩⟩
  have gMany : Met P w K mg base 1 CW "many_hours" (spMany CW) := ⟨⟨f4, _, _, kW, ⟨a4, i4, k4⟩, ok_many F4 T, b4⟩⟩
  have gCar : Met P w K mg base 1 CW "carried" (spCarried CW) := ⟨⟨f5, _, _, kW, ⟨a5, i5, k5⟩, ok_carried F5 T, b5⟩⟩
  have gWay : Met P w K mg base 2 CW "way_of" (spWay CB CW) := ⟨⟨f6, _, _, kW, ⟨a6, i6, k6⟩, ok_way F6 T gCar, b6⟩⟩
  have gLand : Met P w K mg base 3 CW "landing" (spLanding CB CW) := ⟨⟨f7, _, _, kW, ⟨a7, i7, k7⟩, ok_landing F7 T gWay, b7⟩⟩
  have gSq : Cal P w K mg base 1 "square_of" spSquare := ⟨⟨f8, _, _, ok_square F8, PySem.W.mg_of X G a8, k8, b8⟩⟩
  have gMeet : Cal P w K mg base 2 "meeting_of" spMeeting := ⟨⟨f9, _, _, ok_meeting F9 gSq, PySem.W.mg_of X G a9, k9, b9⟩⟩
  have gNear : Cal P w K mg base 3 "too_near" (spTooNear CB CW) := ⟨⟨f10, _, _, ok_tooNear F10 T gWay gMeet, PySem.W.mg_of X G a10, k10, b10⟩⟩
  have gLate : Cal P w K mg base 2 "too_late" (spTooLate CB CW) := ⟨⟨f11, _, _, ok_tooLate F11 T gDown gMany, PySem.W.mg_of X G a11, k11, b11⟩⟩
  have gCan : Cal P w K mg base 4 "can_be" (spCanBe CB CW) := ⟨⟨f12, _, _, ok_canBe F12 gLate gNear, PySem.W.mg_of X G a12, k12, b12⟩⟩
  have gAll : Cal P w K mg base 2 "all_down" (spAllDown CB) := ⟨⟨f13, _, _, ok_allDown F13 T gDown, PySem.W.mg_of X G a13, k13, b13⟩⟩
  have gPl : Cal P w K mg base 1 "all_plans" spAllPlans := ⟨⟨f14, _, _, ok_allPlans F14 T, PySem.W.mg_of X G a14, k14, b14⟩⟩
  have gThat : Cal P w K mg base 5 "plans_that_can" (spPlansThat CB CW) := ⟨⟨f15, _, _, ok_plansThat F15 T gPl gCan, PySem.W.mg_of X G a15, k15, b15⟩⟩
  have gLeast : Cal P w K mg base 1 "least_of" spLeast := ⟨⟨f16, _, _, ok_least F16 T, PySem.W.mg_of X G a16, k16, b16⟩⟩
  have gNeed : CalX P w K mg base 3 "need" (spNeed CR) := ⟨⟨f18, _, _, ok_need F18 R (ok_refInit F17 R) b17 a17 tI, PySem.W.mg_of X G a18, k18, b18⟩⟩
  have gDesk : Mak P w K mg base 3 "Desk" CD (spDeskInit CB CW CD) := ⟨⟨f19, _, _, ⟨mkCD, a19, i19, kcCD⟩, ok_deskInit F19 T gWin, PySem.W.mg_of X G nCD, b19⟩⟩
  have g0 : MetX P w K mg base 4 CD "begins" (spCall CB CW CD CR tBegins) := ⟨⟨f20, _, _, kD, ⟨a20, i20, k20⟩, ok_begins F20 T C gNeed gWin, b20⟩⟩
  have g1 : MetX P w K mg base 4 CD "add_hour" (spCall CB CW CD CR tHour) := ⟨⟨f21, _, _, kD, ⟨a21, i21, k21⟩, ok_addHour F21 T C gNeed gMany, b21⟩⟩
  have g2 : MetX P w K mg base 4 CD "add_balloon" (spCall CB CW CD CR tBal) := ⟨⟨f22, _, _, kD, ⟨a22, i22, k22⟩, ok_addBal F22 T C gNeed gBal, b22⟩⟩
  have g3 : MetX P w K mg base 4 CD "check" (spCall CB CW CD CR tCheck) := ⟨⟨f23, _, _, kD, ⟨a23, i23, k23⟩, ok_check F23 T C gNeed gLate gNear gAll gLand, b23⟩⟩
  have gp : MetX P w K mg base 6 CD "plans" (spPlans CB CW CD CR) := ⟨⟨f24, _, _, kD, ⟨a24, i24, k24⟩, ok_plans F24 T C gNeed gThat, b24⟩⟩
  have g4 : MetX P w K mg base 7 CD "best" (spMeth0 CB CW CD CR .best) := ⟨⟨f25, _, _, kD, ⟨a25, i25, k25⟩, ok_best F25 T gp gLeast gAll, b25⟩⟩
  have g5 : MetX P w K mg base 7 CD "soonest" (spMeth0 CB CW CD CR .soonest) := ⟨⟨f26, _, _, kD, ⟨a26, i26, k26⟩, ok_soonest F26 T gp gLeast gAll, b26⟩⟩
  have g6 : MetX P w K mg base 4 CD "lands" (spLands CB CW CD CR) := ⟨⟨f27, _, _, kD, ⟨a27, i27, k27⟩, ok_lands F27 T C gNeed gDown gMany gLand, b27⟩⟩
  have gT : MetX P w K mg base 8 CD "told_by" (spToldBy CB CW CD CR) := ⟨⟨f28, _, _, kD, ⟨a28, i28, k28⟩, ok_toldBy F28 T g0 g1 g2 g3 g4 g5 g6, b28⟩⟩
  have gA : Met P w K mg base 9 CD "answer" (spAnswer CB CW CD) := ⟨⟨f29, _, _, kD, ⟨a29, i29, k29⟩, ok_answer F29 T R gT, b29⟩⟩
  exact ok_answers F30 T gDesk gA
end Bal
open PySem PySem.W PyProof.Rows
set_option maxRecDepth 100000 in
set_option maxHeartbeats 16000000 in
theorem PySem.Challenge.cw_waitingballoons_s01_answers_holds : PySem.Challenge.rw_waitingballoons_s01_answers.Holds := by
  w_on; k_headS; (case hw => exact ⟨[.list [.int 4, .int 0, .int 0]], by decide +kernel, by decide +kernel⟩)
  k_fillS
  refine L2.walk_specK (r := PySem.Challenge.rw_waitingballoons_s01_answers) (k := 10) (CX := L2.CX0) (ps := ["calls"]) (sp := Bal.spAnswers) (by decide +kernel) rfl rfl ⟨rfl, by decide, by decide⟩ (fun w h Y => PySem.W.kIn_of Y) ?F ?S (fun _ _ _ _ z => z)
  case F =>
    intro w mg fa h Y KX G hmg
    refine' Bal.all_of KX G hmg ?nCB ?nCW ?nCD ?nCR ?a1 ?i1 ?l1 ?c1 ?k1 ?a2 ?i2 ?l2 ?c2 ?k2 ?a3 ?i3 ?l3 ?c3 ?k3 ?a4 ?i4 ?l4 ?c4 ?k4 ?a5 ?i5 ?l5 ?c5 ?k5 ?a6 ?i6 ?l6 ?c6 ?k6 ?a7 ?i7 ?l7 ?c7 ?k7 ?a8 ?l8 ?c8 ?k8 ?a9 ?l9 ?c9 ?k9 ?a10 ?l10 ?c10 ?k10 ?a11 ?l11 ?c11 ?k11 ?a12 ?l12 ?c12 ?k12 ?a13 ?l13 ?c13 ?k13 ?a14 ?l14 ?c14 ?k14 ?a15 ?l15 ?c15 ?k15 ?a16 ?l16 ?c16 ?k16 ?a17 ?l17 ?c17 ?k17 ?a18 ?l18 ?c18 ?k18 ?a19 ?i19 ?l19 ?c19 ?k19 ?a20 ?i20 ?l20 ?c20 ?k20 ?a21 ?i21 ?l21 ?c21 ?k21 ?a22 ?i22 ?l22 ?c22 ?k22 ?a23 ?i23 ?l23 ?c23 ?k23 ?a24 ?i24 ?l24 ?c24 ?k24 ?a25 ?i25 ?l25 ?c25 ?k25 ?a26 ?i26 ?l26 ?c26 ?k26 ?a27 ?i27 ?l27 ?c27 ?k27 ?a28 ?i28 ?l28 ?c28 ?k28 ?a29 ?i29 ?l29 ?c29 ?k29 ?a30 ?l30 ?c30 ?k30 ?pgCB ?hdCB ?poCB ?saCB ?mkCB ?kcCB ?pgCW ?hdCW ?poCW ?saCW ?mkCW ?kcCW ?pgCD ?hdCD ?poCD ?saCD ?mkCD ?kcCD ?onEast ?onNorth ?onFlight ?onHeights ?onHours ?onWinds ?onBals ?onNear ?onWait ?z_len ?z_zip ?z_enumerate ?z_max ?z_min ?z_range ?z_sum ?z_all ?z_list ?z_ValueError ?v0 ?v1 ?v2 ?v3 ?v4 ?v5 ?v6 ?v7 ?v8 ?v9 ?v10 ?v11 ?v12 ?xL ?saR ?gaR ?ggR ?noR ?tI ?kR ?eR ?tR ?hR ?iR ?vV ?sR
    (case nCB => k_is)
    (case nCW => k_is)
    (case nCD => k_is)
    (case nCR => k_is)
    (case a1 => k_is)
    (case i1 => k_is)
    (case l1 => k_is)
    (case c1 => k_is)
    (case k1 => k_is)
    (case a2 => k_is)
    (case i2 => k_is)
    (case l2 => k_is)
    (case c2 => k_is)
    (case k2 => k_is)
    (case a3 => k_is)
    (case i3 => k_is)
    (case l3 => k_is)
    (case c3 => k_is)
    (case k3 => k_is)
    (case a4 => k_is)
    (case i4 => k_is)
    (case l4 => k_is)
    (case c4 => k_is)
    (case k4 => k_is)
    (case a5 => k_is)
    (case i5 => k_is)
    (case l5 => k_is)
    (case c5 => k_is)
    (case k5 => k_is)
    (case a6 => k_is)
    (case i6 => k_is)
    (case l6 => k_is)
    (case c6 => k_is)
    (case k6 => k_is)
    (case a7 => k_is)
    (case i7 => k_is)
    (case l7 => k_is)
    (case c7 => k_is)
    (case k7 => k_is)
    (case a8 => k_is)
    (case l8 => k_is)
    (case c8 => k_is)
    (case k8 => k_is)
    (case a9 => k_is)
    (case l9 => k_is)
    (case c9 => k_is)
    (case k9 => k_is)
    (case a10 => k_is)
    (case l10 => k_is)
    (case c10 => k_is)
    (case k10 => k_is)
    (case a11 => k_is)
    (case l11 => k_is)
    (case c11 => k_is)
    (case k11 => k_is)
    (case a12 => k_is)
    (case l12 => k_is)
    (case c12 => k_is)
    (case k12 => k_is)
    (case a13 => k_is)
    (case l13 => k_is)
    (case c13 => k_is)
    (case k13 => k_is)
    (case a14 => k_is)
    (case l14 => k_is)
    (case c14 => k_is)
    (case k14 => k_is)
    (case a15 => k_is)
    (case l15 => k_is)
    (case c15 => k_is)
    (case k15 => k_is)
    (case a16 => k_is)
    (case l16 => k_is)
    (case c16 => k_is)
    (case k16 => k_is)
    (case a17 => k_is)
    (case l17 => k_is)
    (case c17 => k_is)
    (case k17 => k_is)
    (case a18 => k_is)
    (case l18 => k_is)
    (case c18 => k_is)
    (case k18 => k_is)
    (case a19 => k_is)
    (case i19 => k_is)
    (case l19 => k_is)
    (case c19 => k_is)
    (case k19 => k_is)
    (case a20 => k_is)
    (case i20 => k_is)
    (case l20 => k_is)
    (case c20 => k_is)
    (case k20 => k_is)
    (case a21 => k_is)
    (case i21 => k_is)
    (case l21 => k_is)
    (case c21 => k_is)
    (case k21 => k_is)
    (case a22 => k_is)
    (case i22 => k_is)
    (case l22 => k_is)
    (case c22 => k_is)
    (case k22 => k_is)
    (case a23 => k_is)
    (case i23 => k_is)
    (case l23 => k_is)
    (case c23 => k_is)
    (case k23 => k_is)
    (case a24 => k_is)
    (case i24 => k_is)
    (case l24 => k_is)
    (case c24 => k_is)
    (case k24 => k_is)
    (case a25 => k_is)
    (case i25 => k_is)
    (case l25 => k_is)
    (case c25 => k_is)
    (case k25 => k_is)
    (case a26 => k_is)
    (case i26 => k_is)
    (case l26 => k_is)
    (case c26 => k_is)
    (case k26 => k_is)
    (case a27 => k_is)
    (case i27 => k_is)
    (case l27 => k_is)
    (case c27 => k_is)
    (case k27 => k_is)
    (case a28 => k_is)
    (case i28 => k_is)
    (case l28 => k_is)
    (case c28 => k_is)
    (case k28 => k_is)
    (case a29 => k_is)
    (case i29 => k_is)
    (case l29 => k_is)
    (case c29 => k_is)
    (case k29 => k_is)
    (case a30 => k_is)
    (case l30 => k_is)
    (case c30 => k_is)
    (case k30 => k_is)
    (case pgCB => k_is)
    (case hdCB => k_is)
    (case poCB => k_is)
    (case saCB => k_is)
    (case mkCB => k_is)
    (case kcCB => k_is)
    (case pgCW => k_is)
    (case hdCW => k_is)
    (case poCW => k_is)
    (case saCW => k_is)
    (case mkCW => k_is)
    (case kcCW => k_is)
    (case pgCD => k_is)
    (case hdCD => k_is)
    (case poCD => k_is)
    (case saCD => k_is)
    (case mkCD => k_is)
    (case kcCD => k_is)
    (case onEast => k_is)
    (case onNorth => k_is)
    (case onFlight => k_is)
    (case onHeights => k_is)
    (case onHours => k_is)
    (case onWinds => k_is)
    (case onBals => k_is)
    (case onNear => k_is)
    (case onWait => k_is)
    (case z_len => k_is)
    (case z_zip => k_is)
    (case z_enumerate => k_is)
    (case z_max => k_is)
    (case z_min => k_is)
    (case z_range => k_is)
    (case z_sum => k_is)
    (case z_all => k_is)
    (case z_list => k_is)
    (case z_ValueError => k_is)
    (case v0 => k_is)
    (case v1 => k_is)
    (case v2 => k_is)
    (case v3 => k_is)
    (case v4 => k_is)
    (case v5 => k_is)
    (case v6 => k_is)
    (case v7 => k_is)
    (case v8 => k_is)
    (case v9 => k_is)
    (case v10 => k_is)
    (case v11 => k_is)
    (case v12 => k_is)
    (case xL => k_is)
    (case saR => k_is)
    (case gaR => k_is)
    (case ggR => k_is)
    (case noR => k_is)
    (case tI => k_is)
    (case kR => k_is)
    (case eR => k_is)
    (case tR => k_is)
    (case hR => k_is)
    (case iR => k_is)
    (case vV => first | rfl | k_is)
    (case sR => first | rfl | k_is)
  case S =>
    intro K H xs a hO hwi hask hx
    cases hx with
    | cons h1 h2 =>
      cases h2
      cases h1 with
      | lst hs ha =>
        have e := L2.ints_dw a.1 _ ha
        subst e
        obtain ⟨ds, d1, d2, d3, d4⟩ := Bal.asked_is (l := a.1) hask
        refine ⟨_, ds, rfl, by rw [← d1]; exact hs, d2, d4, fun H' p hp => ?_⟩
        rw [← d3] at hp
        exact .lst (L2.SqL.of hp) (L2.dw_ints _)
