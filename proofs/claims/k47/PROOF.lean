

import PyProof.Rows.All
import Wide.All
import OpenK.AllK
import Wide.FinOn
import HandS.ForMost
import HandS.Codes
import HandS.IsInst
import HandS.EndBits
import HandS.Walk
import HandS.DeepEq
import HandS.Gcd
import HandS.Wide
import HandS.Defaults
import HandS.OwnEq
import HandS.Dict
import HandS.WordsDict
import HandS.Star
import HandS.Strs
import HandS.RaiseMore
import HandS.More
import HandS.TupMul
import HandS.Conv
import HandS.WideBits
import HandS.ForExc
import HandS.ExcIs
import HandS.ExcField
import KE.KExcSuper
import KE.KSuper
import HandS.TryMany
import HandS.ExcInit
import HandS.CallSlots
import HandS.WrittenGet
import HandS.Iter
import HandS.Zip
import HandS.Property
import HandS.MakeKwOnly
import HandS.Style
import KE.RegKIsAll
import HandS.Rev
import HandS.TupAny
import HandS.Deep
import OpenK.KMeth
import OpenK.KWalk
import OpenK.KMake
import PyProof.InstNe
import KE.GoesZip
import KE.GoesMore
import KE.KTurns
import HandS.HotCalls
import PySem.Challenge.RW_bothgain_k47_tables_of_two_gains
set_option Elab.async false
set_option linter.all false
set_option maxRecDepth 100000
set_option maxHeartbeats 4000000
set_option pp.maxSteps 400

/-! == of tuples, item by item, with any answers; what is tracked stands -/
namespace EqB
open PySem PySem.W PySem.Calls PyProof.V PySem.Spec L2 PySem.SeqAt PyProof
theorem tup_eqB {prog : Program} {w : World} {A : Around} {R : Result → Shared → Prop} (l b : Addr) (items items2 : Array Value) (n n2 : Nat) (dd dd2 : Option Addr) (sl sl2 : Array (Option Value)) (e : Nat → Bool) (J : Shared → Prop)
    (turn : ∀ i (h1 : i < items.size) (h2 : i < items2.size) s, J s → wpAny (model prog w) A.in1 (eqBool items[i] items2[i]) (fun r s' => r = e i ∧ J s') (fun e s' => R (.error e) s') s)
    (fin : ∀ s, J s → R (.ok (.ret (.bool ((List.range (min items.size items2.size)).all e && items.size == items2.size)))) s) {s : Shared} (hl1 : s.heap.get? l = some { cls := .type "tuple", dict := dd, data := .seq items n, slots := sl }) (hb1 : s.heap.get? b = some { cls := .type "tuple", dict := dd2, data := .seq items2 n2, slots := sl2 }) (h : J s) :
    wpAny (model prog w) A.in1 (Builtin.«tuple.__eq__» ⟨[.ref l, .ref b], []⟩) (GQ.FinOf prog w A R) (fun e s' => R (.error e) s') s := by
  have f2 := AutoSeq1.sub_tuple_tuple
  have hZ : (items.toList.zip items2.toList).length = min items.size items2.size := by simp
  have h0 := h
  obtain ⟨hp, g, d, tk, os⟩ := s
  wp_walk using PySem.AutoSeq1.wpAny_loadPart' hl1, PySem.AutoSeq1.wpAny_loadPart' hb1, wpAny_forIn_list _ (fun rest b s' => b.1 = none ∧ J s' ∧ ∃ i, rest = (items.toList.zip items2.toList).drop i ∧
      ((List.range (min items.size items2.size)).drop i).all e = (List.range (min items.size items2.size)).all e) _
  case turn =>
    rintro ⟨y, x⟩ rest b s' ⟨hb', hJ, i, hz, hR⟩
    have hlt : i < (items.toList.zip items2.toList).length := by
      rcases Nat.lt_or_ge i (items.toList.zip items2.toList).length with h' | h'
      · exact h'
      · rw [List.drop_of_length_le h'] at hz; cases hz
    have hm : i < min items.size items2.size := hZ ▸ hlt
    have h1 : i < items.size := Nat.lt_of_lt_of_le hm (Nat.min_le_left _ _)
    have h2 : i < items2.size := Nat.lt_of_lt_of_le hm (Nat.min_le_right _ _)
    rw [List.drop_eq_getElem_cons hlt] at hz
    injection hz with hyx hrest
    have hy : y = items[i] := by have := congrArg Prod.fst hyx; simpa using this
    have hx : x = items2[i] := by have := congrArg Prod.snd hyx; simpa using this
    subst hy hx
    have hd : (List.range (min items.size items2.size)).drop i = i :: (List.range (min items.size items2.size)).drop (i + 1) := by simp [List.drop_eq_getElem_cons, hm]
    rw [hd, List.all_cons] at hR
    refine wpAny_bind (wpAny_mono (turn i h1 h2 s' hJ) (fun r s2 q2 => ?_) fun _ _ x => x)
    obtain ⟨hr, hJ2⟩ := q2
    subst hr
    have fn := fin s2 hJ2
    cases hy : e i with
    | true =>
      rw [hy] at hR
      wp_walk
      exact ⟨rfl, hJ2, i + 1, hrest, by simpa using hR⟩
    | false =>
      rw [hy] at hR
      have hR : false = (List.range (min items.size items2.size)).all e := by simpa using hR
      rw [← hR] at fn
      wp_walk
      simpa using fn
  case fin =>
    rintro ⟨b1, b2⟩ s' ⟨hb', hJ, i, hz, hR⟩
    simp only at hb'
    subst hb'
    have hge : min items.size items2.size ≤ i := by
      rcases Nat.lt_or_ge i (items.toList.zip items2.toList).length with h' | h'
      · rw [List.drop_eq_getElem_cons h'] at hz; cases hz
      · exact hZ ▸ h'
    rw [List.drop_of_length_le (by simpa using hge)] at hR
    have fn := fin s' hJ
    rw [← hR] at fn
    wp_walk
    simpa [Builtin.Tuple.tupleCompareSizes] using fn
  case h =>
    exact ⟨rfl, h0, 0, rfl, by simp⟩
theorem rc_tupB {prog : Program} {w : World} {A : Around} {E : Value → Shared → Prop} {s : Shared} {l b : Addr} {items items2 : Array Value} {Q : Value → Shared → Prop} (hu : A.units < cLine) (e : Nat → Bool) (J : Shared → Prop)
    (hl : s.heap.IsTuple l items) (hb : s.heap.IsTuple b items2)
    (turn : ∀ i (h1 : i < items.size) (h2 : i < items2.size) s, J s → wpAny (model prog w) A.in1 (eqBool items[i] items2[i]) (fun r s' => r = e i ∧ J s') E s)
    (fin : ∀ s, J s → Q (.bool ((List.range (min items.size items2.size)).all e && items.size == items2.size)) s) (h : J s) : wpAny (model prog w) A (richCompare .Eq (.ref l) (.ref b)) Q E s := by
  obtain ⟨⟨cls, dd, data, sl⟩, ho, hc, n, hd⟩ := id hl
  obtain ⟨⟨cls2, dd2, data2, sl2⟩, ho2, hc2, n2, hd2⟩ := id hb
  simp only at hc hd hc2 hd2
  subst hc hd hc2 hd2
  refine wpAny_richCompare_same_room (op := .Eq) ⟨_, ho, rfl⟩ ⟨_, ho2, rfl⟩ F.slot_tuple_eq (GQ.call_here F.slot_tuple_eq ⟨_, ho, rfl⟩ F.entry_tuple_eq (F.args_tuple_eq_2 _ _) ?_) hu
  exact tup_eqB (R := wants (fun v s' => v ≠ .notImplemented ∧ Q v s') E) l b items items2 n n2 dd dd2 sl sl2 e J turn (fun s' q => ⟨(fun x => nomatch x), fin s' q⟩) ho ho2 h
end EqB

/-! zip(list, tuple) in the hand layer -/
namespace ZMx
open PySem PySem.W PySem.Calls PyProof.Rows PyProof.V PySem.Spec L2
abbrev mH1 (h : Heap) (a : Addr) : Heap := h.push { cls := .type "list_iterator", data := .fields #[.ref a, .int 0 0] }
abbrev mH2 (h : Heap) (a b : Addr) : Heap := (mH1 h a).push { cls := .type "tuple_iterator", data := .fields #[.ref b, .int 0 0] }
abbrev mH3 (h : Heap) (a b : Addr) : Heap := (mH2 h a b).push { cls := .type "tuple", data := .seq #[.ref h.objs.size, .ref (mH1 h a).objs.size] }
abbrev mH4 (h : Heap) (a b : Addr) : Heap := (mH3 h a b).push { cls := .type "tuple", data := .seq #[.none, .none] }
abbrev mH5 (h : Heap) (a b : Addr) : Heap := (mH4 h a b).push { cls := .type "zip", data := .fields #[.none, .bool false, .bool false, .ref (mH2 h a b).objs.size, .ref (mH3 h a b).objs.size] }
theorem meets_mix (a b : Addr) (xs ys : Array Value) : Meets (Builtin.«zip.__new__» ⟨[.type "zip", .ref a, .ref b], []⟩) (fun _ R s => s.heap.IsList a xs ∧ s.heap.IsTuple b ys ∧ R (.ok (.ret (.ref (mH4 s.heap a b).objs.size))) { s with heap := mH5 s.heap a b }) :=
  .of_wp fun prog w A R s h => by
    obtain ⟨hp, g, d, tk, os⟩ := s; obtain ⟨ha, hb, h⟩ := h
    have hsub := sub_zip
    have hA : Heap.IsList (Shared.heap ⟨hp, g, d, tk, os⟩) a xs := ha
    have hB : Heap.IsTuple (Shared.heap ⟨mH1 hp a, g, d, tk, os⟩) b ys := Heap.IsTuple.push hb _
    wp_walk using wpAny_pyIter_list hA, wpAny_pyIter_tuple hB
    exact ⟨_, rfl, h⟩
theorem call_mix {prog : Program} {w : World} {A : Around} {E : Value → Shared → Prop} {s : Shared} {a b : Addr} {xs ys : Array Value} {Q : Value → Shared → Prop} (ha : s.heap.IsList a xs) (hb : s.heap.IsTuple b ys)
    (k : ∀ h' I, I = s.heap.objs.size → IsZip h' (I + 4) (I + 2) (I + 3) .none → IsPair h' (I + 2) (.ref I) (.ref (I + 1)) → IsPair h' (I + 3) .none .none → h'.IsListIter I a 0 → h'.IsTupleIter (I + 1) b 0 → (∀ c o, s.heap.get? c = some o → h'.get? c = some o) → Q (.ref (I + 4)) { s with heap := h' }) :
    wpAny (model prog w) A (call (.type "zip") [.ref a, .ref b]) Q E s := by
  have n1 : (mH1 s.heap a).objs.size = s.heap.objs.size + 1 := Heap.size_push ..
  have n2 : (mH2 s.heap a b).objs.size = s.heap.objs.size + 2 := by rw [Heap.size_push, n1]
  have n3 : (mH3 s.heap a b).objs.size = s.heap.objs.size + 3 := by rw [Heap.size_push, n2]
  have n4 : (mH4 s.heap a b).objs.size = s.heap.objs.size + 4 := by rw [Heap.size_push, n3]
  have up : ∀ {h : Heap} {o q : Obj} {c : Addr}, h.get? c = some o → (h.push q).get? c = some o := fun e => Heap.get?_push_of_some _ e
  have e5 : (mH5 s.heap a b).get? (mH4 s.heap a b).objs.size = some _ := Heap.get?_push_size _ rfl
  have e4 : (mH5 s.heap a b).get? (mH3 s.heap a b).objs.size = some _ := up (Heap.get?_push_size _ rfl)
  have e3 : (mH5 s.heap a b).get? (mH2 s.heap a b).objs.size = some _ := up (up (Heap.get?_push_size _ rfl))
  have e2 : (mH5 s.heap a b).get? (mH1 s.heap a).objs.size = some _ := up (up (up (Heap.get?_push_size _ rfl)))
  have e1 : (mH5 s.heap a b).get? s.heap.objs.size = some _ := up (up (up (up (Heap.get?_push_size _ rfl))))
  rw [n2, n3, n4] at e5; rw [n3] at e4; rw [n1, n2] at e3; rw [n1] at e2
  refine callType_new F.called_zip (by decide) (F.typeCall_zip_2 _ _) (F.newCall_zip_2 _ _) (fun ob => F.args_object_init_3 ob _ _) F.entry_zip_new (meets_mix a b xs ys) ⟨ha, hb, ?_⟩
  show _ ∧ _
  rw [n4]
  exact ⟨⟨_, e5, rfl⟩, k _ _ rfl e5 e3 e4 ⟨_, e1, rfl, rfl⟩ ⟨_, e2, rfl, rfl⟩ fun c o x => up (up (up (up (up x))))⟩
/-- the list at a and the tuple at b, item by item in new pairs -/
def ItM (K : PySem.W.Frag) (a b : Addr) : It :=
  ⟨fun i H => ∃ (xs ys : List V) (x y : V), SqL K H a xs ∧ SqT K H b ys ∧ xs[i]? = some x ∧ ys[i]? = some y, fun i H v H' => ∃ T x y, v = .ref T ∧ H T = none ∧ H' = upd H T (.tup [x, y]) ∧ (∀ xs, SqL K H a xs → xs[i]? = some x) ∧ ∀ ys, SqT K H b ys → ys[i]? = some y,
    fun i H => ∃ xs ys : List V, SqL K H a xs ∧ SqT K H b ys ∧ ys.length = xs.length ∧ i = xs.length⟩
theorem mem5 {c z t u i j : Addr} (h : c ∈ [z, t, u, i, j]) : c = z ∨ c = t ∨ c = u ∨ c = i ∨ c = j := by simpa using h
theorem sep {z TI TO i1 i2 a b : Addr} (D : ZipApart z TI TO i1 i2 a b) : ZipSep2 z TI TO i1 i2 [i1, a] [i2, b] where
  TIz := D.TIz
  TOz := D.TOz
  TITO := D.TITO
  TIi1 := D.TIi1
  mem1 := by simp
  zf1 := by simp [D.i1z.symm, D.l1z.symm]
  Tf1 := by simp [D.TOi1, D.l1TO.symm]
  TIi2 := D.TIi2
  mem2 := by simp
  zf2 := by simp [D.i2z.symm, D.l2z.symm]
  Tf2 := by simp [D.TOi2, D.l2TO.symm]
  sep1_2 := by simp [D.i12, D.l2i1.symm]
  sep2_1 := by simp [D.i12.symm, D.l1i2.symm]
theorem turn_mix {P : Program} {w : World} {K : PySem.W.Frag} {elts : List Expr} {kk : Nat} {tpos : Pos} {a b z TI TO i1 i2 : Addr} (D : ZipApart z TI TO i1 i2 a b) :
    Turn P w K (.Tuple elts kk tpos) (ItM K a b) [z, TI, TO, i1, i2] z (fun i h => IsZip h z TI TO .none ∧ IsPair h TI (.ref i1) (.ref i2) ∧ (∃ x y, IsPair h TO x y) ∧ h.IsListIter i1 a i ∧ h.IsTupleIter i2 b i) where
  mem := by simp
  obj := fun i h st c hc => by
    obtain ⟨hz, hTI, ⟨x, y, hTO⟩, ⟨o1, e1, _, d1⟩, ⟨o2, e2, _, d2⟩⟩ := st
    rcases mem5 hc with rfl | rfl | rfl | rfl | rfl
    · exact ⟨_, hz, fun v q => nomatch q⟩
    · exact ⟨_, hTI, fun v q => nomatch q⟩
    · exact ⟨_, hTO, fun v q => nomatch q⟩
    · exact ⟨o1, e1, fun v q => by rw [d1] at q; cases q⟩
    · exact ⟨o2, e2, fun v q => by rw [d2] at q; cases q⟩
  keep := fun i h h' st k => ⟨k z (by simp) _ st.1, k TI (by simp) _ st.2.1, let ⟨x, y, q⟩ := st.2.2.1; ⟨x, y, k TO (by simp) _ q⟩, st.2.2.2.1.at fun o q => k i1 (by simp) o q, st.2.2.2.2.at fun o q => k i2 (by simp) o q⟩
  item := by
    intro X hP hw hK hc i pins s σ H E I hf st hg
    subst hP hw hK
    obtain ⟨hz, hTI, ⟨x0, y0, hTO⟩, h1, h2⟩ := st
    obtain ⟨xs, ys, x, y, hqx, hqy, hx, hy⟩ := hg
    obtain ⟨us, ru, pu, _⟩ := I.list hqx
    obtain ⟨vs, rv, pv, _⟩ := I.tuple hqy
    obtain ⟨u, hu, rxu⟩ := ru.get hx
    obtain ⟨v, hv, ryv⟩ := rv.get hy
    have hzl : z < s.heap.objs.size := Heap.lt_size hz
    have hh : X.A.in1.handled = none := I.ok.hd hc
    refine wpAny_pyNext_zipD2_item (sep D) (Draws.list hh i1 a D.l1i1 us.toArray) (Draws.tuple hh i2 b D.l2i2 vs.toArray) hz hTI hTO ⟨h1, pu.isList⟩ ⟨h2, pv⟩ (by simpa using (List.getElem?_eq_some_iff.mp hu).1) (by simpa using (List.getElem?_eq_some_iff.mp hv).1) fun x1 x2 h' tk p1 p2 z' TO' st1 st2 hT hsz hk => ?_
    have ex : x1 = u := by simpa [hu] using p1.symm
    have ey : x2 = v := by simpa [hv] using p2.symm
    subst ex ey
    refine ⟨_, rfl, wpAny_letOwnedTupleGo_zip (s := { s with heap := h', toks := tk }) z' fun h'' z'' sb => ?_⟩
    have hT2 : h''.get? s.heap.objs.size = some { cls := .type "tuple", data := .seq #[x1, x2] } := (sb.2 _ (Nat.ne_of_gt hzl)).trans hT
    have new : ObjOk X.prog X.w (upd H s.heap.objs.size (.tup [x, y])) h'' s.heap.objs.size (.tup [x, y]) := ⟨(by show 2 ≤ sizeLine; decide), [x1, x2], .cons rxu (.cons ryv .nil), ⟨_, hT2, rfl, _, rfl⟩⟩
    have far : ∀ c o, c ∉ [z, TI, TO, i1, i2] → s.heap.get? c = some o → h''.get? c = some o := fun c o hb q => by
      simp only [List.mem_cons, List.not_mem_nil, or_false, not_or] at hb
      exact (sb.2 c hb.1).trans (hk c o hb.1 hb.2.2.1 hb.2.2.2.1 hb.2.2.2.2 q)
    have I1 : Inv X pins σ (upd H s.heap.objs.size (.tup [x, y])) { s with heap := h'', toks := tk } := I.turnedNew (ch := [z, TI, TO, i1, i2]) far hf (Nat.le_refl _) new
    have lts : ∀ c, c ∈ [z, TI, TO, i1, i2] → c < s.heap.objs.size := fun c hcm => by
      rcases mem5 hcm with rfl | rfl | rfl | rfl | rfl
      · exact hzl
      · exact Heap.lt_size hTI
      · exact Heap.lt_size hTO
      · obtain ⟨_, e, _⟩ := h1; exact Heap.lt_size e
      · obtain ⟨_, e, _⟩ := h2; exact Heap.lt_size e
    refine ⟨.ref s.heap.objs.size, _, I1, rfl, ⟨_, x, y, rfl, I.hok.fresh (Nat.le_refl _), rfl, fun l hl => by rw [I.list_inj hl hqx]; exact hx, fun l hl => by rw [I.tuple_inj hl hqy]; exact hy⟩, ⟨z'', ?_, ⟨x1, x2, (sb.2 _ D.TOz).trans TO'⟩, st1.1.at fun o q => (sb.2 _ D.i1z).trans q, st2.1.at fun o q => (sb.2 _ D.i2z).trans q⟩, fun c hcm => ?_⟩
    · exact (sb.2 _ D.TIz).trans (hk _ _ D.TIz D.TITO D.TIi1 D.TIi2 hTI)
    · rw [upd_ne (Nat.ne_of_lt (lts c hcm))]
      exact (hf c hcm).1
  done := by
    intro X hP hw hK hc i pins s σ H E I hf st hg
    subst hP hw hK
    obtain ⟨hz, hTI, ⟨x0, y0, hTO⟩, h1, h2⟩ := st
    obtain ⟨xs, ys, hqx, hqy, hl, rfl⟩ := hg
    obtain ⟨us, ru, pu, _⟩ := I.list hqx
    obtain ⟨vs, rv, pv, _⟩ := I.tuple hqy
    have l1 := ru.length
    have l2 := rv.length
    have hh : X.A.in1.handled = none := I.ok.hd hc
    refine wpAny_pyNext_zipD2_end (sep D) (Draws.list hh i1 a D.l1i1 us.toArray) (Draws.tuple hh i2 b D.l2i2 vs.toArray) hz hTI hTO ⟨h1, pu.isList⟩ ⟨h2, pv⟩ (by simp; omega) (by simp; omega) (.inl (by simp; omega)) fun h' tk hk => ⟨rfl, I.turnedL (t' := tk) (ch := [z, TI, TO, i1, i2]) (fun c o hb q => ?_) hf⟩
    simp only [List.mem_cons, List.not_mem_nil, or_false, not_or] at hb
    exact hk c o hb.1 hb.2.2.1 hb.2.2.2.1 hb.2.2.2.2 q
  self := fun A i s Q E st h => wpAny_pyIter_zip st.1 h
def iZipM (K : PySem.W.Frag) (ta : TA) : TI := fun σ H R => ta σ H fun vs H1 => ∃ a b xs ys, vs = [.ref a, .ref b] ∧ SqL K H1 a xs ∧ SqT K H1 b ys ∧ R (ItM K a b) H1
theorem pi_zipM {X : Cx} {e e2 : Expr} {ta : TA} {p pos tpos : Pos} {elts : List Expr} {kk : Nat} (hg : Gl X "zip") (hm : X.mg "zip" = none) (ha : PA X [e, e2] ta)
    (hs : starEach [e, e2] X.env = (false, eval e X.env) :: starEach [e2] X.env := by rfl) (hpl : (backTo pos (starEach [e2] X.env)).any (·.1) = false := by rfl) : PI X (.Tuple elts kk tpos) (.Call (.Name "zip" p) [e, e2] [] pos) (iZipM X.K ta) := by
  refine ⟨fun pins s σ H R I h => ?_⟩
  refine Call_ (ld_blt I hg hm PyProof.Rows.boot_zip (PyProof.Rows.callWith_type1 (thn (ha.run pos pins s σ H _ I h) fun us s1 ⟨vs, H1, I1, r1, q1⟩ => ?_) hs hpl))
  obtain ⟨a, b, xs, ys, rfl, hqx, hqy, q⟩ := q1
  obtain ⟨ua, ub, rfl, ra, rb⟩ : ∃ ua ub, us = [ua, ub] ∧ RelV (.ref a) ua ∧ RelV (.ref b) ub := by
    cases r1 with
    | cons r rr =>
      cases rr with
      | cons r' rr => cases rr; exact ⟨_, _, rfl, r, r'⟩
  cases ra
  cases rb
  obtain ⟨us, ru, pu, _⟩ := I1.list hqx
  obtain ⟨vs, rv, pv, _⟩ := I1.tuple hqy
  have hbl : b < s1.heap.objs.size := by obtain ⟨_, e, _⟩ := pv; exact Heap.lt_size e
  refine call_mix pu.isList pv fun h' J eJ hz hTI hTO h1 h2 hk => wpAny_pyIter_zip hz ?_
  subst eJ
  have I2 : Inv X pins σ H1 { s1 with heap := h' } := I1.kept (t' := s1.toks) hk
  refine ⟨s1.heap.objs.size + 4, [s1.heap.objs.size + 4, s1.heap.objs.size + 2, s1.heap.objs.size + 3, s1.heap.objs.size, s1.heap.objs.size + 1], _, _, H1, rfl, I2, turn_mix (PySem.W.ktu_apart s1.heap.objs.size a b pu.lt hbl), ⟨hz, hTI, ⟨_, _, hTO⟩, h1, h2⟩, fun c hcm => ?_, q⟩
  have hle : s1.heap.objs.size ≤ c := by
    rcases mem5 hcm with rfl | rfl | rfl | rfl | rfl <;> first | exact Nat.le_refl _ | exact Nat.le_add_right _ _
  exact I1.fpOk hle (I1.hok.fresh hle)
theorem walk_mix {K : PySem.W.Frag} {a b : Addr} {xs ys : List V} (hl : ys.length = xs.length) : Walk (ItM K a b) xs.length (fun H => SqL K H a xs ∧ SqT K H b ys) (YPair (fun i => xs[i]?) (fun i => ys[i]?)) := by
  refine ⟨fun i _ hi q => ⟨xs, ys, xs[i], ys[i]'(by omega), q.1, q.2, by simp [hi], by simp [hl, hi]⟩, fun _ q => ⟨xs, ys, q.1, q.2, hl, rfl⟩, fun i H v H' _ q y => ?_⟩
  obtain ⟨T, x, z, h1, h2, h3, h4, h5⟩ := y
  exact ⟨T, x, z, h1, h2, h3, h4 xs q.1, h5 ys q.2⟩
end ZMx

/-! zip(tuple, list) in the hand layer -/
namespace ZNx
open PySem PySem.W PySem.Calls PyProof.Rows PyProof.V PySem.Spec L2
abbrev mH1 (h : Heap) (a : Addr) : Heap := h.push { cls := .type "tuple_iterator", data := .fields #[.ref a, .int 0 0] }
abbrev mH2 (h : Heap) (a b : Addr) : Heap := (mH1 h a).push { cls := .type "list_iterator", data := .fields #[.ref b, .int 0 0] }
abbrev mH3 (h : Heap) (a b : Addr) : Heap := (mH2 h a b).push { cls := .type "tuple", data := .seq #[.ref h.objs.size, .ref (mH1 h a).objs.size] }
abbrev mH4 (h : Heap) (a b : Addr) : Heap := (mH3 h a b).push { cls := .type "tuple", data := .seq #[.none, .none] }
abbrev mH5 (h : Heap) (a b : Addr) : Heap := (mH4 h a b).push { cls := .type "zip", data := .fields #[.none, .bool false, .bool false, .ref (mH2 h a b).objs.size, .ref (mH3 h a b).objs.size] }
theorem meets_mix (a b : Addr) (xs ys : Array Value) : Meets (Builtin.«zip.__new__» ⟨[.type "zip", .ref a, .ref b], []⟩) (fun _ R s => s.heap.IsTuple a xs ∧ s.heap.IsList b ys ∧ R (.ok (.ret (.ref (mH4 s.heap a b).objs.size))) { s with heap := mH5 s.heap a b }) :=
  .of_wp fun prog w A R s h => by
    obtain ⟨hp, g, d, tk, os⟩ := s; obtain ⟨ha, hb, h⟩ := h
    have hsub := sub_zip
    have hA : Heap.IsTuple (Shared.heap ⟨hp, g, d, tk, os⟩) a xs := ha
    have hB : Heap.IsList (Shared.heap ⟨mH1 hp a, g, d, tk, os⟩) b ys := Heap.IsList.push hb _
    wp_walk using wpAny_pyIter_tuple hA, wpAny_pyIter_list hB
    exact ⟨_, rfl, h⟩
theorem call_mix {prog : Program} {w : World} {A : Around} {E : Value → Shared → Prop} {s : Shared} {a b : Addr} {xs ys : Array Value} {Q : Value → Shared → Prop} (ha : s.heap.IsTuple a xs) (hb : s.heap.IsList b ys)
    (k : ∀ h' I, I = s.heap.objs.size → IsZip h' (I + 4) (I + 2) (I + 3) .none → IsPair h' (I + 2) (.ref I) (.ref (I + 1)) → IsPair h' (I + 3) .none .none → h'.IsTupleIter I a 0 → h'.IsListIter (I + 1) b 0 → (∀ c o, s.heap.get? c = some o → h'.get? c = some o) → Q (.ref (I + 4)) { s with heap := h' }) :
    wpAny (model prog w) A (call (.type "zip") [.ref a, .ref b]) Q E s := by
  have n1 : (mH1 s.heap a).objs.size = s.heap.objs.size + 1 := Heap.size_push ..
  have n2 : (mH2 s.heap a b).objs.size = s.heap.objs.size + 2 := by rw [Heap.size_push, n1]
  have n3 : (mH3 s.heap a b).objs.size = s.heap.objs.size + 3 := by rw [Heap.size_push, n2]
  have n4 : (mH4 s.heap a b).objs.size = s.heap.objs.size + 4 := by rw [Heap.size_push, n3]
  have up : ∀ {h : Heap} {o q : Obj} {c : Addr}, h.get? c = some o → (h.push q).get? c = some o := fun e => Heap.get?_push_of_some _ e
  have e5 : (mH5 s.heap a b).get? (mH4 s.heap a b).objs.size = some _ := Heap.get?_push_size _ rfl
  have e4 : (mH5 s.heap a b).get? (mH3 s.heap a b).objs.size = some _ := up (Heap.get?_push_size _ rfl)
  have e3 : (mH5 s.heap a b).get? (mH2 s.heap a b).objs.size = some _ := up (up (Heap.get?_push_size _ rfl))
  have e2 : (mH5 s.heap a b).get? (mH1 s.heap a).objs.size = some _ := up (up (up (Heap.get?_push_size _ rfl)))
  have e1 : (mH5 s.heap a b).get? s.heap.objs.size = some _ := up (up (up (up (Heap.get?_push_size _ rfl))))
  rw [n2, n3, n4] at e5; rw [n3] at e4; rw [n1, n2] at e3; rw [n1] at e2
  refine callType_new F.called_zip (by decide) (F.typeCall_zip_2 _ _) (F.newCall_zip_2 _ _) (fun ob => F.args_object_init_3 ob _ _) F.entry_zip_new (meets_mix a b xs ys) ⟨ha, hb, ?_⟩
  show _ ∧ _
  rw [n4]
  exact ⟨⟨_, e5, rfl⟩, k _ _ rfl e5 e3 e4 ⟨_, e1, rfl, rfl⟩ ⟨_, e2, rfl, rfl⟩ fun c o x => up (up (up (up (up x))))⟩
/-- the tuple at a and the list at b, item by item in new pairs -/
def ItN (K : PySem.W.Frag) (a b : Addr) : It :=
  ⟨fun i H => ∃ (xs ys : List V) (x y : V), SqT K H a xs ∧ SqL K H b ys ∧ xs[i]? = some x ∧ ys[i]? = some y, fun i H v H' => ∃ T x y, v = .ref T ∧ H T = none ∧ H' = upd H T (.tup [x, y]) ∧ (∀ xs, SqT K H a xs → xs[i]? = some x) ∧ ∀ ys, SqL K H b ys → ys[i]? = some y,
    fun i H => ∃ xs ys : List V, SqT K H a xs ∧ SqL K H b ys ∧ ys.length = xs.length ∧ i = xs.length⟩
theorem mem5 {c z t u i j : Addr} (h : c ∈ [z, t, u, i, j]) : c = z ∨ c = t ∨ c = u ∨ c = i ∨ c = j := by simpa using h
theorem sep {z TI TO i1 i2 a b : Addr} (D : ZipApart z TI TO i1 i2 a b) : ZipSep2 z TI TO i1 i2 [i1, a] [i2, b] where
  TIz := D.TIz
  TOz := D.TOz
  TITO := D.TITO
  TIi1 := D.TIi1
  mem1 := by simp
  zf1 := by simp [D.i1z.symm, D.l1z.symm]
  Tf1 := by simp [D.TOi1, D.l1TO.symm]
  TIi2 := D.TIi2
  mem2 := by simp
  zf2 := by simp [D.i2z.symm, D.l2z.symm]
  Tf2 := by simp [D.TOi2, D.l2TO.symm]
  sep1_2 := by simp [D.i12, D.l2i1.symm]
  sep2_1 := by simp [D.i12.symm, D.l1i2.symm]
theorem turn_mix {P : Program} {w : World} {K : PySem.W.Frag} {elts : List Expr} {kk : Nat} {tpos : Pos} {a b z TI TO i1 i2 : Addr} (D : ZipApart z TI TO i1 i2 a b) :
    Turn P w K (.Tuple elts kk tpos) (ItN K a b) [z, TI, TO, i1, i2] z (fun i h => IsZip h z TI TO .none ∧ IsPair h TI (.ref i1) (.ref i2) ∧ (∃ x y, IsPair h TO x y) ∧ h.IsTupleIter i1 a i ∧ h.IsListIter i2 b i) where
  mem := by simp
  obj := fun i h st c hc => by
    obtain ⟨hz, hTI, ⟨x, y, hTO⟩, ⟨o1, e1, _, d1⟩, ⟨o2, e2, _, d2⟩⟩ := st
    rcases mem5 hc with rfl | rfl | rfl | rfl | rfl
    · exact ⟨_, hz, fun v q => nomatch q⟩
    · exact ⟨_, hTI, fun v q => nomatch q⟩
    · exact ⟨_, hTO, fun v q => nomatch q⟩
    · exact ⟨o1, e1, fun v q => by rw [d1] at q; cases q⟩
    · exact ⟨o2, e2, fun v q => by rw [d2] at q; cases q⟩
  keep := fun i h h' st k => ⟨k z (by simp) _ st.1, k TI (by simp) _ st.2.1, let ⟨x, y, q⟩ := st.2.2.1; ⟨x, y, k TO (by simp) _ q⟩, st.2.2.2.1.at fun o q => k i1 (by simp) o q, st.2.2.2.2.at fun o q => k i2 (by simp) o q⟩
  item := by
    intro X hP hw hK hc i pins s σ H E I hf st hg
    subst hP hw hK
    obtain ⟨hz, hTI, ⟨x0, y0, hTO⟩, h1, h2⟩ := st
    obtain ⟨xs, ys, x, y, hqx, hqy, hx, hy⟩ := hg
    obtain ⟨us, ru, pu, _⟩ := I.tuple hqx
    obtain ⟨vs, rv, pv, _⟩ := I.list hqy
    obtain ⟨u, hu, rxu⟩ := ru.get hx
    obtain ⟨v, hv, ryv⟩ := rv.get hy
    have hzl : z < s.heap.objs.size := Heap.lt_size hz
    have hh : X.A.in1.handled = none := I.ok.hd hc
    refine wpAny_pyNext_zipD2_item (sep D) (Draws.tuple hh i1 a D.l1i1 us.toArray) (Draws.list hh i2 b D.l2i2 vs.toArray) hz hTI hTO ⟨h1, pu⟩ ⟨h2, pv.isList⟩ (by simpa using (List.getElem?_eq_some_iff.mp hu).1) (by simpa using (List.getElem?_eq_some_iff.mp hv).1) fun x1 x2 h' tk p1 p2 z' TO' st1 st2 hT hsz hk => ?_
    have ex : x1 = u := by simpa [hu] using p1.symm
    have ey : x2 = v := by simpa [hv] using p2.symm
    subst ex ey
    refine ⟨_, rfl, wpAny_letOwnedTupleGo_zip (s := { s with heap := h', toks := tk }) z' fun h'' z'' sb => ?_⟩
    have hT2 : h''.get? s.heap.objs.size = some { cls := .type "tuple", data := .seq #[x1, x2] } := (sb.2 _ (Nat.ne_of_gt hzl)).trans hT
    have new : ObjOk X.prog X.w (upd H s.heap.objs.size (.tup [x, y])) h'' s.heap.objs.size (.tup [x, y]) := ⟨(by show 2 ≤ sizeLine; decide), [x1, x2], .cons rxu (.cons ryv .nil), ⟨_, hT2, rfl, _, rfl⟩⟩
    have far : ∀ c o, c ∉ [z, TI, TO, i1, i2] → s.heap.get? c = some o → h''.get? c = some o := fun c o hb q => by
      simp only [List.mem_cons, List.not_mem_nil, or_false, not_or] at hb
      exact (sb.2 c hb.1).trans (hk c o hb.1 hb.2.2.1 hb.2.2.2.1 hb.2.2.2.2 q)
    have I1 : Inv X pins σ (upd H s.heap.objs.size (.tup [x, y])) { s with heap := h'', toks := tk } := I.turnedNew (ch := [z, TI, TO, i1, i2]) far hf (Nat.le_refl _) new
    have lts : ∀ c, c ∈ [z, TI, TO, i1, i2] → c < s.heap.objs.size := fun c hcm => by
      rcases mem5 hcm with rfl | rfl | rfl | rfl | rfl
      · exact hzl
      · exact Heap.lt_size hTI
      · exact Heap.lt_size hTO
      · obtain ⟨_, e, _⟩ := h1; exact Heap.lt_size e
      · obtain ⟨_, e, _⟩ := h2; exact Heap.lt_size e
    refine ⟨.ref s.heap.objs.size, _, I1, rfl, ⟨_, x, y, rfl, I.hok.fresh (Nat.le_refl _), rfl, fun l hl => by rw [I.tuple_inj hl hqx]; exact hx, fun l hl => by rw [I.list_inj hl hqy]; exact hy⟩, ⟨z'', ?_, ⟨x1, x2, (sb.2 _ D.TOz).trans TO'⟩, st1.1.at fun o q => (sb.2 _ D.i1z).trans q, st2.1.at fun o q => (sb.2 _ D.i2z).trans q⟩, fun c hcm => ?_⟩
    · exact (sb.2 _ D.TIz).trans (hk _ _ D.TIz D.TITO D.TIi1 D.TIi2 hTI)
    · rw [upd_ne (Nat.ne_of_lt (lts c hcm))]
      exact (hf c hcm).1
  done := by
    intro X hP hw hK hc i pins s σ H E I hf st hg
    subst hP hw hK
    obtain ⟨hz, hTI, ⟨x0, y0, hTO⟩, h1, h2⟩ := st
    obtain ⟨xs, ys, hqx, hqy, hl, rfl⟩ := hg
    obtain ⟨us, ru, pu, _⟩ := I.tuple hqx
    obtain ⟨vs, rv, pv, _⟩ := I.list hqy
    have l1 := ru.length
    have l2 := rv.length
    have hh : X.A.in1.handled = none := I.ok.hd hc
    refine wpAny_pyNext_zipD2_end (sep D) (Draws.tuple hh i1 a D.l1i1 us.toArray) (Draws.list hh i2 b D.l2i2 vs.toArray) hz hTI hTO ⟨h1, pu⟩ ⟨h2, pv.isList⟩ (by simp; omega) (by simp; omega) (.inl (by simp; omega)) fun h' tk hk => ⟨rfl, I.turnedL (t' := tk) (ch := [z, TI, TO, i1, i2]) (fun c o hb q => ?_) hf⟩
    simp only [List.mem_cons, List.not_mem_nil, or_false, not_or] at hb
    exact hk c o hb.1 hb.2.2.1 hb.2.2.2.1 hb.2.2.2.2 q
  self := fun A i s Q E st h => wpAny_pyIter_zip st.1 h
def iZipN (K : PySem.W.Frag) (ta : TA) : TI := fun σ H R => ta σ H fun vs H1 => ∃ a b xs ys, vs = [.ref a, .ref b] ∧ SqT K H1 a xs ∧ SqL K H1 b ys ∧ R (ItN K a b) H1
theorem pi_zipN {X : Cx} {e e2 : Expr} {ta : TA} {p pos tpos : Pos} {elts : List Expr} {kk : Nat} (hg : Gl X "zip") (hm : X.mg "zip" = none) (ha : PA X [e, e2] ta)
    (hs : starEach [e, e2] X.env = (false, eval e X.env) :: starEach [e2] X.env := by rfl) (hpl : (backTo pos (starEach [e2] X.env)).any (·.1) = false := by rfl) : PI X (.Tuple elts kk tpos) (.Call (.Name "zip" p) [e, e2] [] pos) (iZipN X.K ta) := by
  refine ⟨fun pins s σ H R I h => ?_⟩
  refine Call_ (ld_blt I hg hm PyProof.Rows.boot_zip (PyProof.Rows.callWith_type1 (thn (ha.run pos pins s σ H _ I h) fun us s1 ⟨vs, H1, I1, r1, q1⟩ => ?_) hs hpl))
  obtain ⟨a, b, xs, ys, rfl, hqx, hqy, q⟩ := q1
  obtain ⟨ua, ub, rfl, ra, rb⟩ : ∃ ua ub, us = [ua, ub] ∧ RelV (.ref a) ua ∧ RelV (.ref b) ub := by
    cases r1 with
    | cons r rr =>
      cases rr with
      | cons r' rr => cases rr; exact ⟨_, _, rfl, r, r'⟩
  cases ra
  cases rb
  obtain ⟨us, ru, pu, _⟩ := I1.tuple hqx
  obtain ⟨vs, rv, pv, _⟩ := I1.list hqy
  have hbl : a < s1.heap.objs.size := by obtain ⟨_, e, _⟩ := pu; exact Heap.lt_size e
  refine call_mix pu pv.isList fun h' J eJ hz hTI hTO h1 h2 hk => wpAny_pyIter_zip hz ?_
  subst eJ
  have I2 : Inv X pins σ H1 { s1 with heap := h' } := I1.kept (t' := s1.toks) hk
  refine ⟨s1.heap.objs.size + 4, [s1.heap.objs.size + 4, s1.heap.objs.size + 2, s1.heap.objs.size + 3, s1.heap.objs.size, s1.heap.objs.size + 1], _, _, H1, rfl, I2, turn_mix (PySem.W.ktu_apart s1.heap.objs.size a b hbl pv.lt), ⟨hz, hTI, ⟨_, _, hTO⟩, h1, h2⟩, fun c hcm => ?_, q⟩
  have hle : s1.heap.objs.size ≤ c := by
    rcases mem5 hcm with rfl | rfl | rfl | rfl | rfl <;> first | exact Nat.le_refl _ | exact Nat.le_add_right _ _
  exact I1.fpOk hle (I1.hok.fresh hle)
theorem walk_mixN {K : PySem.W.Frag} {a b : Addr} {xs ys : List V} (hl : ys.length = xs.length) : Walk (ItN K a b) xs.length (fun H => SqT K H a xs ∧ SqL K H b ys) (YPair (fun i => xs[i]?) (fun i => ys[i]?)) := by
  refine ⟨fun i _ hi q => ⟨xs, ys, xs[i], ys[i]'(by omega), q.1, q.2, by simp [hi], by simp [hl, hi]⟩, fun _ q => ⟨xs, ys, q.1, q.2, hl, rfl⟩, fun i H v H' _ q y => ?_⟩
  obtain ⟨T, x, z, h1, h2, h3, h4, h5⟩ := y
  exact ⟨T, x, z, h1, h2, h3, h4 xs q.1, h5 ys q.2⟩
end ZNx

/-! an iteration whose reading is one of two -/
theorem pi_or {X : L2.Cx} {tg it : PySem.Expr} {w1 w2 : L2.TI} (h1 : L2.PI X tg it w1) (h2 : L2.PI X tg it w2) : L2.PI X tg it (fun σ H R => w1 σ H R ∨ w2 σ H R) :=
  ⟨fun pins s σ H R I h => h.elim (fun h => h1.run pins s σ H R I h) fun h => h2.run pins s σ H R I h⟩

namespace My
open PySem L2 C8 SX
/-! own base: tests, heaps -/
theorem bo_len : bootBuiltins "len" = some (.builtin "len") := by decide +kernel
theorem bo_isinstance : bootBuiltins "isinstance" = some (.builtin "isinstance") := by decide +kernel
theorem bo_min : bootBuiltins "min" = some (.builtin "min") := by decide +kernel
theorem bo_max : bootBuiltins "max" = some (.builtin "max") := by decide +kernel
theorem bo_abs : bootBuiltins "abs" = some (.builtin "abs") := by decide +kernel
theorem bo_int : bootBuiltins "int" = some (.type "int") := by decide +kernel
theorem bo_str : bootBuiltins "str" = some (.type "str") := by decide +kernel
theorem bo_bool : bootBuiltins "bool" = some (.type "bool") := by decide +kernel
theorem bo_list : bootBuiltins "list" = some (.type "list") := by decide +kernel
theorem bo_ord : bootBuiltins "ord" = some (.builtin "ord") := by decide +kernel
theorem bo_chr : bootBuiltins "chr" = some (.builtin "chr") := by decide +kernel
theorem bo_sum : bootBuiltins "sum" = some (.builtin "sum") := by decide +kernel
theorem bo_all : bootBuiltins "all" = some (.builtin "all") := by decide +kernel
theorem bo_any : bootBuiltins "any" = some (.builtin "any") := by decide +kernel
theorem bo_sorted : bootBuiltins "sorted" = some (.builtin "sorted") := by decide +kernel
theorem bo_dict : bootBuiltins "dict" = some (.type "dict") := by decide +kernel
theorem bo_tuple : bootBuiltins "tuple" = some (.type "tuple") := by decide +kernel
theorem iteD {p A B : Prop} [Decidable p] (h1 : p → A) (h2 : ¬ p → B) : if decide p = true then A else B := by
  by_cases h : p
  · rw [decide_eq_true h]; exact iteT (h1 h)
  · rw [decide_eq_false h]; exact iteF (h2 h)
theorem iteN {p A B : Prop} [Decidable p] (h1 : ¬ p → A) (h2 : p → B) : if (!decide p) = true then A else B := by
  by_cases h : p
  · rw [decide_eq_true h]; exact iteF (h2 h)
  · rw [decide_eq_false h]; exact iteT (h1 h)
theorem iteDT {p A B : Prop} [Decidable p] (h : p) (k : A) : if decide p = true then A else B := iteD (fun _ => k) fun z => absurd h z
theorem iteDF {p A B : Prop} [Decidable p] (h : ¬ p) (k : B) : if decide p = true then A else B := iteD (fun z => absurd z h) fun _ => k
theorem iteNT {p A B : Prop} [Decidable p] (h : ¬ p) (k : A) : if (!decide p) = true then A else B := iteN (fun _ => k) fun z => absurd z h
theorem iteNF {p A B : Prop} [Decidable p] (h : p) (k : B) : if (!decide p) = true then A else B := iteN (fun z => absurd h z) fun _ => k
theorem iteB {b : Bool} {A B : Prop} (h1 : b = true → A) (h2 : b = false → B) : if b = true then A else B := by
  cases b with
  | true => exact iteT (h1 rfl)
  | false => exact iteF (h2 rfl)
/-- in a comprehension without a test -/
theorem yes_then {σ : St} {H : Hp} {F G : Hp → Prop} (h : F H) : tYes σ H (fun b H3 => if b = true then F H3 else G H3) := h
/-- all that was tracked stands, but at W -/
def Keep (W : List Addr) (H H' : Hp) : Prop := ∀ b o, H b = some o → b ∉ W → H' b = some o
theorem Keep.refl (W : List Addr) (H : Hp) : Keep W H H := fun _ _ h _ => h
theorem Keep.trans {W : List Addr} {H H1 H2 : Hp} (a : Keep W H H1) (b : Keep W H1 H2) : Keep W H H2 := fun c o h w => b c o (a c o h w) w
theorem Keep.mono {W W' : List Addr} {H H1 : Hp} (a : Keep W H H1) (h : ∀ b, b ∈ W → b ∈ W') : Keep W' H H1 := fun c o q w => a c o q fun z => w (h c z)
theorem Keep.new {W : List Addr} {H : Hp} {p : Addr} {o : HO} (h : H p = none) : Keep W H (upd H p o) := fun b u q _ => by
  rw [upd_ne (ne_of_none q h)]; exact q
theorem Keep.at_ {W : List Addr} {H : Hp} {p : Addr} {o : HO} (h : p ∈ W) : Keep W H (upd H p o) := fun b u q w => by
  rw [upd_ne (fun z => w (by rw [z]; exact h))]; exact q
theorem Keep.then_new {W : List Addr} {H H1 : Hp} {p : Addr} {o : HO} (a : Keep W H H1) (h : H1 p = none) : Keep W H (upd H1 p o) := a.trans (Keep.new h)
theorem Keep.then_at {W : List Addr} {H H1 : Hp} {p : Addr} {o : HO} (a : Keep W H H1) (h : p ∈ W) : Keep W H (upd H1 p o) := a.trans (Keep.at_ h)
/-- what was new since H is not among the kept -/
theorem Keep.then_own {W : List Addr} {H H1 : Hp} {p : Addr} {o : HO} (a : Keep W H H1) (h : H p = none) : Keep W H (upd H1 p o) := fun b u q w => by
  rw [upd_ne (ne_of_none q h)]; exact a b u q w
theorem Keep.free {H H' : Hp} (e : Keep [] H H') {l : Addr} (h : H' l = none) : H l = none := by
  cases q : H l with
  | none => rfl
  | some o => rw [e l o q (by simp)] at h; cases h
theorem Keep.free1 {H H' : Hp} {p : Addr} {o : HO} (e : Keep [p] H H') (hp : H' p = some o) {l : Addr} (h : H' l = none) : H l = none := by
  cases q : H l with
  | none => rfl
  | some u =>
    by_cases z : l = p
    · subst z; rw [hp] at h; cases h
    · rw [e l u q (by simpa using z)] at h; cases h
theorem Keep.seqL {W : List Addr} {K : PySem.W.Frag} {H H' : Hp} {a : Addr} {xs : List V} (e : Keep W H H') (h : SqL K H a xs) (w : a ∉ W) : SqL K H' a xs := by
  rcases h with (h | ⟨o, h⟩) | h
  · exact .inl (.inl (e _ _ h w))
  · exact .inl (.inr ⟨o, e _ _ h w⟩)
  · exact .inr h
theorem Keep.seqT {W : List Addr} {K : PySem.W.Frag} {H H' : Hp} {a : Addr} {xs : List V} (e : Keep W H H') (h : SqT K H a xs) (w : a ∉ W) : SqT K H' a xs := by
  rcases h with (h | ⟨o, h⟩) | h
  · exact .inl (.inl (e _ _ h w))
  · exact .inl (.inr ⟨o, e _ _ h w⟩)
  · exact .inr h
theorem Keep.same {H H' : Hp} (e : Keep [] H H') : Same H H' := fun b o h => e b o h (by simp)
theorem ints_get {ns : List Int} {i : Nat} {v : V} (h : (ns.map V.int)[i]? = some v) : ∃ z, ns[i]? = some z ∧ v = V.int z := by
  rw [List.getElem?_map] at h
  cases e : ns[i]? with
  | none => rw [e] at h; cases h
  | some z => rw [e] at h; exact ⟨z, rfl, (Option.some.inj h).symm⟩
theorem strs_get {ns : List Str} {i : Nat} {v : V} (h : (ns.map V.str)[i]? = some v) : ∃ z, ns[i]? = some z ∧ v = V.str z := by
  rw [List.getElem?_map] at h
  cases e : ns[i]? with
  | none => rw [e] at h; cases h
  | some z => rw [e] at h; exact ⟨z, rfl, (Option.some.inj h).symm⟩
theorem smallM {n : Nat} (h : n ≤ 1000000) : n ≤ sizeLine := Nat.le_trans h (by decide)
theorem smallL {n : Nat} (h : n ≤ 1000000) : n < sizeLine := Nat.lt_of_le_of_lt h (by decide)
/-- a promise that asks the impossible: any def at all keeps it -/
def spNo : Sp := fun _ _ _ _ => False
/-! the same rules with the written part named (within a comprehension) -/
section
variable {X : Cx} {K : PySem.W.Frag}
theorem pe_fldK {e : Expr} {f : Str} {pos : Pos} {ta : TE} (he : PE X e ta) (hb : attributeBase e f X.env (eval e X.env) = eval e X.env) (hK : X.K = K := by rfl) : PE X (.Attribute e f pos) (tFld K ta f) := hK ▸ pe_fld he hb
theorem ix_listK (hK : X.K = K := by rfl) : IxR X (rIxL K) := hK ▸ ix_list
theorem ix_tupK (hK : X.K = K := by rfl) : IxR X (rIxT K) := hK ▸ ix_tup
theorem sl_listK (hK : X.K = K := by rfl) : SlR X (rSlL K) := hK ▸ sl_list
theorem sl_tupK (hK : X.K = K := by rfl) : SlR X (rSlT K) := hK ▸ sl_tup
theorem call_len_seqK (hK : X.K = K := by rfl) : CallR X (.builtin "len") (fun xs H Q => ∃ p ys, xs = [.ref p] ∧ (SqL K H p ys ∨ SqT K H p ys) ∧ Q (.int ys.length) H) := hK ▸ call_len_seq
theorem call_list_ofK (hK : X.K = K := by rfl) : CallR X (.type "list") (fun xs H Q => ∃ p ys, xs = [.ref p] ∧ (SqL K H p ys ∨ SqT K H p ys) ∧ ∀ l, H l = none → Q (.ref l) (upd H l (.lst ys))) := hK ▸ call_list_of
theorem call_isiK2 (hK : X.K = K := by rfl) : CallR X (.builtin "isinstance") (rIsi K) := hK ▸ call_isi
end
/-- behind the making of an instance -/
theorem keep_made {H H2 : Hp} {x dx : Addr} {o : HO} (hx : H x = none) (hd : H dx = none) (k : Keep [x] (upd (upd H dx (.own x)) x o) H2) : Keep [] H H2 := fun b u e _ =>
  k b u (by rw [upd_ne (ne_of_none e hx), upd_ne (ne_of_none e hd)]; exact e) (by simpa using ne_of_none e hx)
theorem kitSelf {K : PySem.W.Frag} {C : Addr} : PySem.W.kitOne K (.ref C) (.ref C) = some true := by
  unfold PySem.W.kitOne
  simp
/-- a call without arguments -/
theorem pe_c0 {X : Cx} {x : Str} {p pos : Pos} {k j : Nat} {sp : Sp} {dvs : List V} (c : C8.Cal X.prog X.w X.K X.mg X.base k x sp dvs) (hr : Room j X.A) (hk : k ≤ j) (hg : Gl X x) (hdb : (x == ("__debug__" : Str)) = false := by decide) :
    PE X (.Call (.Name x p) [] [] pos) (tCall sp dvs C8.E0 tNil) := by
  obtain ⟨f, fd, ps, ds, F, hm, kp, b, d⟩ := c.ex
  exact pe_call0 F (hr.mono hk) hg hm kp b d C8.pass0 hdb

/-! in a comprehension: unpack a tuple (the written part named) -/
theorem pg_tupK {X : Cx} {K : PySem.W.Frag} {es : List Expr} {k : Nat} {t : TGs} {n : Nat} {pos : Pos} (h : PGs X es t) (hc : X.calm = true := by rfl) (hK : X.K = K := by rfl)
    (hn : (assignEach es X.env).length = n := by rfl) (hst : (assignEach es X.env).findIdx? (·.1) = none := by rfl) : PG X (.Tuple es k pos) (gTup K n t) := hK ▸ pg_tup hc h hn hst
theorem op_in_seqK {X : Cx} {K : PySem.W.Frag} (hK : X.K = K := by rfl) : OpR X (compareOp .In) (rIn K false) := hK ▸ op_in_seq
theorem op_notIn_seqK {X : Cx} {K : PySem.W.Frag} (hK : X.K = K := by rfl) : OpR X (compareOp .NotIn) (rIn K true) := hK ▸ op_notIn_seq

/-! == and != by a def of the text's own, whatever it answers -/
structure Own (P : Program) (w : World) (K : PySem.W.Frag) (mg : Str → Option Value) (base : Heap) (k : Nat) (C : Addr) (nm : Str) (sp : Sp) : Prop where
  ex : ∃ (f : Addr) (fd : FuncData) (ps : List Str), PySem.W.findIn K (.ref C) nm = some (some (.ref f)) ∧ PySem.W.isFn K (.ref f) = true ∧ FnOk P w K mg base C8.CX0 k f fd ps sp ∧ Binds K fd ps []
def qB (Q : VK) : VK := fun v H => match v with
  | .bl r => Q (.bl r) H
  | _ => False
def qN (Q : VK) : VK := fun v H => match v with
  | .bl r => Q (.bl (!r)) H
  | _ => False
/-- two instances of the class at C: what the own def answers -/
def rOwn (C : Addr) (sp : Sp) : R2 := fun x y H Q => ∃ a b dx dy fs gs, x = .ref a ∧ y = .ref b ∧ H a = some (.ins C dx fs) ∧ H b = some (.ins C dy gs) ∧ sp [.ref a, .ref b] H (qB Q) C8.E0
def rOwnN (C : Addr) (sp : Sp) : R2 := fun x y H Q => ∃ a b dx dy fs gs, x = .ref a ∧ y = .ref b ∧ H a = some (.ins C dx fs) ∧ H b = some (.ins C dy gs) ∧ sp [.ref a, .ref b] H (qN Q) C8.E0
theorem ne_bind (self : Value) : bindSpecial (.builtin "object.__ne__") self = pure (.builtin "object.__ne__", [self]) :=
  (Slot.of (T := "object") (name := "__ne__") (owner := "object") (n := "__ne__") (by rw [typeLookup_type, builtinLookup_eq_fast]; kernel_rfl) (by decide +kernel) (by decide +kernel) (by decide +kernel)
    (.inl (by decide +kernel)) (by rw [isSubtype_type]; kernel_rfl)).bind self
theorem ne_plain : plainId "object.__ne__" = true := by decide +kernel
section
variable {X : Cx} {k j : Nat} {C : Addr} {sp : Sp}
theorem own_call {A : Around} {pins : List (Addr × Obj)} {s : Shared} {σ : St} {H : Hp} {a b f : Addr} {fd : FuncData} {ps : List Str} {Q : VK} (sb : Sub X k A) (I : Inv X pins σ H s)
    (F : FnOk X.prog X.w X.K X.mg X.base C8.CX0 k f fd ps sp) (bi : Binds X.K fd ps []) (hsp : sp [.ref a, .ref b] H Q C8.E0) :
    wpAny (model X.prog X.w) A (call (.ref f) [.ref a, .ref b]) (fun v s' => ∃ z H', Inv X pins σ H' s' ∧ RelV z v ∧ Q z H') X.xe s := by
  have e0 : Env0 X.prog X.w X.K X.mg X.base A X.stack s H := by
    have e := I.env0
    exact ⟨by rw [sb.fr]; exact e.frames, e.mod, e.bs, e.bsz, e.funs, e.frf, e.hok, e.bare⟩
  have hl := F.len _ _ _ _ hsp
  have r2 : Vals [V.ref a, V.ref b] [Value.ref a, Value.ref b] := .cons rfl (.cons rfl .nil)
  refine wpAny_call (codeAny_mono (F.run A X.stack s H ⟨[.ref a, .ref b], []⟩ [.ref a, .ref b] [.ref a, .ref b] _ C8.E0 sb.room e0 (by
    have := bi s [.ref a, .ref b] I.kIn (by simpa using hl)
    simpa using this) r2 hsp) fun r s' hq => ?_)
  cases r with
  | error e => exact C8.pass0 (X := X) (E := C8.E0) pins σ H s e s' I hq
  | ok fl =>
    cases fl with
    | ret w =>
      obtain ⟨z, H', I', rz, ez⟩ := I.after hq
      exact ⟨z, H', I', rz, ez⟩
    | next => exact False.elim hq
    | brk => exact False.elim hq
    | cont => exact False.elim hq
theorem op_own (c : Own X.prog X.w X.K X.mg X.base k C "__eq__" sp) (hr : Room j X.A) (hk : k ≤ j) : OpR X (compareOp .Eq) (rOwn C sp) := by
  intro pins s σ H x y v u Q I rx ry hq
  obtain ⟨f, fd, ps, hs, hf, F, bi⟩ := c.ex
  obtain ⟨a, b, dx, dy, fs, gs, rfl, rfl, ha, hb, hsp⟩ := hq
  cases rx
  cases ry
  obtain ⟨mA, J, _⟩ := ins_get I.hok ha
  obtain ⟨mB, J', _⟩ := ins_get I.hok hb
  obtain ⟨od, J, _⟩ := J.look
  obtain ⟨od', J', _⟩ := J'.look
  obtain ⟨m, hF⟩ := I.fr
  have sb : Sub X k X.A := ⟨hr.mono hk, rfl⟩
  show wpAny (model X.prog X.w) X.A (richCompare .Eq (.ref a) (.ref b)) (EP X pins σ Q) X.xe s
  refine PySem.W.cmp_K (op := .Eq) (tb := .ref C) sb.room.units0 hF I.ok.mod.kin J J'.type (by simp [PySem.W.notFirst]) hs hf ?_
  refine wpAny_mono (own_call sb I F bi hsp) (fun v s' z => ?_) fun _ _ x => x
  obtain ⟨z, H', I', rz, q⟩ := z
  cases z with
  | bl r => cases rz; exact ⟨.bl r, H', I', rfl, q⟩
  | _ => exact False.elim q
theorem op_ownN (c : Own X.prog X.w X.K X.mg X.base k C "__eq__" sp) (hn : PySem.W.findIn X.K (.ref C) "__ne__" = some (some (.builtin "object.__ne__"))) (hm : PySem.W.mroIn X.K C (.type "object") = some true) (hr : Room j X.A) (hk : k + 1 ≤ j) : OpR X (compareOp .NotEq) (rOwnN C sp) := by
  intro pins s σ H x y v u Q I rx ry hq
  obtain ⟨f, fd, ps, hs, hf, G, bi⟩ := c.ex
  obtain ⟨a, b, dx, dy, fs, gs, rfl, rfl, ha, hb, hsp⟩ := hq
  cases rx
  cases ry
  obtain ⟨mA, J, _⟩ := ins_get I.hok ha
  obtain ⟨mB, J', _⟩ := ins_get I.hok hb
  obtain ⟨od, J, _⟩ := J.look
  obtain ⟨od', J', _⟩ := J'.look
  obtain ⟨m, hF⟩ := I.fr
  have sb : Sub X (k + 1) X.A := ⟨hr.mono hk, rfl⟩
  have XK := I.ok.mod.kin.keeps hF.keep
  show wpAny (model X.prog X.w) X.A (richCompare .NotEq (.ref a) (.ref b)) (EP X pins σ Q) X.xe s
  unfold richCompare
  simp only [oneThing_ref]
  refine wpAny_holding (wpAny_bind (wpAny_cRoomFor sb.room.units0 ?_))
  rw [cmpInfo_NotEq]
  dsimp only
  refine wpAny_bind (J.type.here (wpAny_bind (J'.type.here ?_)))
  rw [show (Value.ref C != Value.ref C) = false from by simp]
  simp only [Bool.false_eq_true, if_false]
  refine wpAny_bind (wpAny_pure ?_)
  simp only [Bool.false_eq_true, if_false]
  have fin : ∀ (v : Value) (s' : Shared), (∃ z H', Inv X pins σ H' s' ∧ RelV z v ∧ qN Q z H') → ∃ r : Bool, v = .bool r ∧ EP X pins σ Q (.bool (!r)) s' := by
    rintro v s' ⟨z, H', I', rz, q⟩
    cases z with
    | bl r => cases rz; exact ⟨r, rfl, .bl (!r), H', I', rfl, q⟩
    | _ => exact False.elim q
  have inner : wpAny (model X.prog X.w) X.A (call (.builtin "object.__ne__") [.ref a, .ref b]) (fun v s' => ∃ r : Bool, v = .bool r ∧ EP X pins σ Q v s') X.xe s := by
    refine wpAny_call (codeAny_call_builtin ne_plain PySem.F.cmpEntry_ne (PySem.W.check_slot PySem.F.cmpKind_ne PySem.F.cmpSplit_ne (J.type.andThen (PySem.W.looks_mroIn XK hm)) (PySem.F.cmpArgs_ne _ _) ?_))
    unfold Builtin.«object.__ne__»
    repeat (first
      | with_reducible refine wpAny_cRoomFor sb.in1.room.units0 ?_
      | (refine wpAny_bind (m := callSpecialIfBound? (.ref a) (Str.ofString "__eq__") [.ref b]) (PySem.W.ifBound_K XK J hs hf (wpAny_mono (own_call sb.in1 I G bi hsp) (fun v s' z => ?_) fun _ _ x => x)))
      | wp_step)
    obtain ⟨r, rfl, q⟩ := fin v s' z
    refine wpAny_bind (m := truthy (.bool _)) (wpAny_truthy_bool ?_)
    exact wpAny_pure ⟨!r, rfl, q⟩
  unfold tryCompare
  refine wpAny_bind (wpAny_bind ?_)
  simp only [callSpecialIfBound?, bindSpecialIfBound?]
  refine wpAny_holding (wpAny_bind (wpAny_bind (wpAny_bind (J.type.here ((PySem.W.looks_findIn XK hn).here ?_)))))
  refine wpAny_bind (wpAny_askSetting (wpAny_ite ?_))
  split
  · refine wpAny_bind ?_
    rw [ne_bind]
    refine wpAny_pure (wpAny_pure ?_)
    refine wpAny_bind (wpAny_mono inner (fun v s' z => ?_) fun _ _ x => x)
    obtain ⟨r, rfl, q⟩ := z
    exact wpAny_pure (wpAny_pure (wpAny_pure q))
  · refine wpAny_tryCatch (wpAny_bind ?_)
    rw [ne_bind]
    refine wpAny_pure (wpAny_pure ?_)
    refine wpAny_bind (wpAny_mono inner (fun v s' z => ?_) fun _ _ x => x)
    obtain ⟨r, rfl, q⟩ := z
    exact wpAny_pure (wpAny_pure (wpAny_pure q))
end

/-! == of two lists as long as each other whose items are instances with an own __eq__ that answers True each time: the state may change within -/
namespace EqW
open PySem PySem.W PySem.Calls PyProof.V PySem.Spec L2 PySem.SeqAt
open MeetsSeq MeetsSeq2 MeetsSeq3 SeqRoads2
theorem eq_loopW {prog : Program} {w : World} (l b : Addr) (items items2 : Array Value) (hsz : items.size = items2.size) (W : Nat → Shared → Prop) (hW : ∀ i s, W i s → s.heap.IsList l items ∧ s.heap.IsList b items2) (k : Nat) :
    ∀ i : Nat, items.size - i = k → i ≤ items.size → MeetsIn prog w (Builtin.«list.__eq__.loop» ⟨[.ref l, .ref b, rawInt i, rawInt 2], []⟩)
      (fun A R s => W i s ∧ (∀ j (h1 : j < items.size) (h2 : j < items2.size) s, W j s → wpAny (model prog w) A.in1 (eqBool items[j] items2[j]) (fun v s' => v = true ∧ W (j + 1) s') (fun e s' => R (.error e) s') s) ∧
        ∀ s', W items.size s' → R (.ok (.ret (.bool true))) s') := by
  induction k with
  | zero =>
    intro i hk hile A R s h
    obtain ⟨hp, g, d, tk, os⟩ := s; obtain ⟨hw, he, h⟩ := h
    obtain ⟨h1, h2⟩ := hW _ _ hw
    obtain ⟨⟨cls, dd, data, sl⟩, ho, hc, n, hd⟩ := id h1
    obtain ⟨⟨cls2, dd2, data2, sl2⟩, ho2, hc2, n2, hd2⟩ := id h2
    simp only at hc hd hc2 hd2
    subst hc hd hc2 hd2
    wp_walk using PySem.AutoSeq1.wpAny_loadPart' ho, PySem.AutoSeq1.wpAny_loadPart' ho2
    have hi : i = items.size := by omega
    subst hi
    have hi1 : items[((items.size : Nat) : Int).toNat]? = none := by simp
    have hi2 : items2[((items.size : Nat) : Int).toNat]? = none := by simp [hsz]
    rw [hi1, hi2]
    wp_walk using PySem.AutoSeq1.wpAny_loadPart' ho, PySem.AutoSeq1.wpAny_loadPart' ho2
    show R (.ok (.ret (.bool (items.size == items2.size)))) _
    rw [show (items.size == items2.size) = true by simp [hsz]]
    exact h _ hw
  | succ k ih =>
    intro i hk hile A R s h
    obtain ⟨hp, g, d, tk, os⟩ := s; obtain ⟨hw, he, h⟩ := h
    obtain ⟨h1, h2⟩ := hW _ _ hw
    obtain ⟨⟨cls, dd, data, sl⟩, ho, hc, n, hd⟩ := id h1
    obtain ⟨⟨cls2, dd2, data2, sl2⟩, ho2, hc2, n2, hd2⟩ := id h2
    simp only at hc hd hc2 hd2
    subst hc hd hc2 hd2
    wp_walk using PySem.AutoSeq1.wpAny_loadPart' ho, PySem.AutoSeq1.wpAny_loadPart' ho2
    have hlt : i < items.size := by omega
    have hlt2 : i < items2.size := by omega
    have hi1 : items[((i : Nat) : Int).toNat]? = some items[i] := by simp [hlt]
    have hi2 : items2[((i : Nat) : Int).toNat]? = some items2[i] := by simp [hlt2]
    have hc : ((i : Int) + 1) = ((i + 1 : Nat) : Int) := by push_cast; rfl
    rw [hi1, hi2]
    refine wpAny_bind (wpAny_mono (he i hlt hlt2 _ hw) (fun v s' z => ?_) fun _ _ x => x)
    obtain ⟨rfl, hw'⟩ := z
    wp_walk
    rw [hc]
    exact ⟨plainId_quiet plain_eq_loop _, codeAny_builtin entry_eq_loop (by
      rw [Around.under_plainId plain_eq_loop _]
      exact ih (i + 1) (by omega) (by omega) A R _ ⟨hw', he, h⟩)⟩
theorem list_eqW {prog : Program} {w : World} (l b : Addr) (items items2 : Array Value) (hsz : items.size = items2.size) (W : Nat → Shared → Prop) (hW : ∀ i s, W i s → s.heap.IsList l items ∧ s.heap.IsList b items2) :
    MeetsIn prog w (Builtin.«list.__eq__» ⟨[.ref l, .ref b], []⟩)
      (fun A R s => W 0 s ∧ (∀ j (h1 : j < items.size) (h2 : j < items2.size) s, W j s → wpAny (model prog w) A.in1 (eqBool items[j] items2[j]) (fun v s' => v = true ∧ W (j + 1) s') (fun e s' => R (.error e) s') s) ∧
        ∀ s', W items.size s' → R (.ok (.ret (.bool true))) s') := by
  intro A R s h
  obtain ⟨hp, g, d, tk, os⟩ := s; obtain ⟨hw, he, h⟩ := h
  obtain ⟨h1, h2⟩ := hW _ _ hw
  obtain ⟨⟨cls, dd, data, sl⟩, ho, hc, n, hd⟩ := id h1
  obtain ⟨⟨cls2, dd2, data2, sl2⟩, ho2, hc2, n2, hd2⟩ := id h2
  simp only at hc hd hc2 hd2
  subst hc hd hc2 hd2
  have f3 := AutoSeq1.sub_list_list
  have hne : ¬ (items.size != items2.size) = true := by simp [hsz]
  wp_walk using PySem.AutoSeq1.wpAny_loadPart' ho, PySem.AutoSeq1.wpAny_loadPart' ho2
  exact ⟨plainId_quiet plain_eq_loop _, codeAny_builtin entry_eq_loop (by
    rw [Around.under_plainId plain_eq_loop _]
    exact eq_loopW l b items items2 hsz W hW _ 0 rfl (Nat.zero_le _) A R _ ⟨hw, he, h⟩)⟩
theorem compare_listsW {prog : Program} {w : World} {A : Around} {E : Value → Shared → Prop} {s : Shared} {Q : Value → Shared → Prop} {l b : Addr} {items items2 : Array Value} (hsz : items.size = items2.size) (W : Nat → Shared → Prop) (hW : ∀ i s, W i s → s.heap.IsList l items ∧ s.heap.IsList b items2)
    (h0 : W 0 s) (he : ∀ j (h1 : j < items.size) (h2 : j < items2.size) s, W j s → wpAny (model prog w) A.in1 (eqBool items[j] items2[j]) (fun v s' => v = true ∧ W (j + 1) s') E s) (hf : ∀ s', W items.size s' → Q (.bool true) s') (hu : A.units < cLine) :
    wpAny (model prog w) A (richCompare .Eq (.ref l) (.ref b)) Q E s := by
  obtain ⟨h1, h2⟩ := hW _ _ h0
  obtain ⟨o, ho, hc, _⟩ := id h1
  obtain ⟨o2, ho2, hc2, _⟩ := id h2
  refine wpAny_richCompare_same_room ⟨o, ho, hc⟩ ⟨o2, ho2, hc2⟩ F.slot_list_eq (call_meetsIn F.slot_list_eq ⟨o, ho, hc⟩ F.entry_list_eq (F.args_list_eq_2 _ _) (list_eqW l b items items2 hsz W hW) ?_) hu
  exact ⟨h0, he, fun s' hw => ⟨(fun x => nomatch x), hf s' hw⟩⟩
theorem ne_loopW {prog : Program} {w : World} (l b : Addr) (items items2 : Array Value) (hsz : items.size = items2.size) (W : Nat → Shared → Prop) (hW : ∀ i s, W i s → s.heap.IsList l items ∧ s.heap.IsList b items2) (k : Nat) :
    ∀ i : Nat, items.size - i = k → i ≤ items.size → MeetsIn prog w (Builtin.«list.__eq__.loop» ⟨[.ref l, .ref b, rawInt i, rawInt 3], []⟩)
      (fun A R s => W i s ∧ (∀ j (h1 : j < items.size) (h2 : j < items2.size) s, W j s → wpAny (model prog w) A.in1 (eqBool items[j] items2[j]) (fun v s' => v = true ∧ W (j + 1) s') (fun e s' => R (.error e) s') s) ∧
        ∀ s', W items.size s' → R (.ok (.ret (.bool false))) s') := by
  induction k with
  | zero =>
    intro i hk hile A R s h
    obtain ⟨hp, g, d, tk, os⟩ := s; obtain ⟨hw, he, h⟩ := h
    obtain ⟨h1, h2⟩ := hW _ _ hw
    obtain ⟨⟨cls, dd, data, sl⟩, ho, hc, n, hd⟩ := id h1
    obtain ⟨⟨cls2, dd2, data2, sl2⟩, ho2, hc2, n2, hd2⟩ := id h2
    simp only at hc hd hc2 hd2
    subst hc hd hc2 hd2
    wp_walk using PySem.AutoSeq1.wpAny_loadPart' ho, PySem.AutoSeq1.wpAny_loadPart' ho2
    have hi : i = items.size := by omega
    subst hi
    have hi1 : items[((items.size : Nat) : Int).toNat]? = none := by simp
    have hi2 : items2[((items.size : Nat) : Int).toNat]? = none := by simp [hsz]
    rw [hi1, hi2]
    wp_walk using PySem.AutoSeq1.wpAny_loadPart' ho, PySem.AutoSeq1.wpAny_loadPart' ho2
    show R (.ok (.ret (.bool (items.size != items2.size)))) _
    rw [show (items.size != items2.size) = false by simp [hsz]]
    exact h _ hw
  | succ k ih =>
    intro i hk hile A R s h
    obtain ⟨hp, g, d, tk, os⟩ := s; obtain ⟨hw, he, h⟩ := h
    obtain ⟨h1, h2⟩ := hW _ _ hw
    obtain ⟨⟨cls, dd, data, sl⟩, ho, hc, n, hd⟩ := id h1
    obtain ⟨⟨cls2, dd2, data2, sl2⟩, ho2, hc2, n2, hd2⟩ := id h2
    simp only at hc hd hc2 hd2
    subst hc hd hc2 hd2
    wp_walk using PySem.AutoSeq1.wpAny_loadPart' ho, PySem.AutoSeq1.wpAny_loadPart' ho2
    have hlt : i < items.size := by omega
    have hlt2 : i < items2.size := by omega
    have hi1 : items[((i : Nat) : Int).toNat]? = some items[i] := by simp [hlt]
    have hi2 : items2[((i : Nat) : Int).toNat]? = some items2[i] := by simp [hlt2]
    have hc : ((i : Int) + 1) = ((i + 1 : Nat) : Int) := by push_cast; rfl
    rw [hi1, hi2]
    refine wpAny_bind (wpAny_mono (he i hlt hlt2 _ hw) (fun v s' z => ?_) fun _ _ x => x)
    obtain ⟨rfl, hw'⟩ := z
    wp_walk
    rw [hc]
    exact ⟨plainId_quiet plain_eq_loop _, codeAny_builtin entry_eq_loop (by
      rw [Around.under_plainId plain_eq_loop _]
      exact ih (i + 1) (by omega) (by omega) A R _ ⟨hw', he, h⟩)⟩
theorem list_neW {prog : Program} {w : World} (l b : Addr) (items items2 : Array Value) (hsz : items.size = items2.size) (W : Nat → Shared → Prop) (hW : ∀ i s, W i s → s.heap.IsList l items ∧ s.heap.IsList b items2) :
    MeetsIn prog w (Builtin.«list.__ne__» ⟨[.ref l, .ref b], []⟩)
      (fun A R s => W 0 s ∧ (∀ j (h1 : j < items.size) (h2 : j < items2.size) s, W j s → wpAny (model prog w) A.in1 (eqBool items[j] items2[j]) (fun v s' => v = true ∧ W (j + 1) s') (fun e s' => R (.error e) s') s) ∧
        ∀ s', W items.size s' → R (.ok (.ret (.bool false))) s') := by
  intro A R s h
  obtain ⟨hp, g, d, tk, os⟩ := s; obtain ⟨hw, he, h⟩ := h
  obtain ⟨h1, h2⟩ := hW _ _ hw
  obtain ⟨⟨cls, dd, data, sl⟩, ho, hc, n, hd⟩ := id h1
  obtain ⟨⟨cls2, dd2, data2, sl2⟩, ho2, hc2, n2, hd2⟩ := id h2
  simp only at hc hd hc2 hd2
  subst hc hd hc2 hd2
  have f3 := AutoSeq1.sub_list_list
  have hne : ¬ (items.size != items2.size) = true := by simp [hsz]
  wp_walk using PySem.AutoSeq1.wpAny_loadPart' ho, PySem.AutoSeq1.wpAny_loadPart' ho2
  exact ⟨plainId_quiet plain_eq_loop _, codeAny_builtin entry_eq_loop (by
    rw [Around.under_plainId plain_eq_loop _]
    exact ne_loopW l b items items2 hsz W hW _ 0 rfl (Nat.zero_le _) A R _ ⟨hw, he, h⟩)⟩
theorem compare_neW {prog : Program} {w : World} {A : Around} {E : Value → Shared → Prop} {s : Shared} {Q : Value → Shared → Prop} {l b : Addr} {items items2 : Array Value} (hsz : items.size = items2.size) (W : Nat → Shared → Prop) (hW : ∀ i s, W i s → s.heap.IsList l items ∧ s.heap.IsList b items2)
    (h0 : W 0 s) (he : ∀ j (h1 : j < items.size) (h2 : j < items2.size) s, W j s → wpAny (model prog w) A.in1 (eqBool items[j] items2[j]) (fun v s' => v = true ∧ W (j + 1) s') E s) (hf : ∀ s', W items.size s' → Q (.bool false) s') (hu : A.units < cLine) :
    wpAny (model prog w) A (richCompare .NotEq (.ref l) (.ref b)) Q E s := by
  obtain ⟨h1, h2⟩ := hW _ _ h0
  obtain ⟨o, ho, hc, _⟩ := id h1
  obtain ⟨o2, ho2, hc2, _⟩ := id h2
  refine wpAny_richCompare_same_room ⟨o, ho, hc⟩ ⟨o2, ho2, hc2⟩ F.slot_list_ne (call_meetsIn F.slot_list_ne ⟨o, ho, hc⟩ F.entry_list_ne (F.args_list_ne_2 _ _) (list_neW l b items items2 hsz W hW) ?_) hu
  exact ⟨h0, he, fun s' hw => ⟨(fun x => nomatch x), hf s' hw⟩⟩
end EqW

/-! a binary operator by a def of the text's own (its class first in its own mro): what the def answers -/
def rOwnB (C : Addr) (sp : Sp) : R2 := fun x y H Q => ∃ a b dx dy fs gs, x = .ref a ∧ y = .ref b ∧ H a = some (.ins C dx fs) ∧ H b = some (.ins C dy gs) ∧ sp [.ref a, .ref b] H Q C8.E0
section
variable {X : Cx} {k j : Nat} {C : Addr} {sp : Sp}
theorem op_ownB {op : Operator} {nm : Str} (c : Own X.prog X.w X.K X.mg X.base k C nm sp) (hnm : PySem.dunder op.info.2 = nm) (hc : PySem.W.selfFirst X.K C = true) (hr : Room j X.A) (hk : k ≤ j) : OpR X (binaryOp op) (rOwnB C sp) := by
  intro pins s σ H x y v u Q I rx ry hq
  obtain ⟨f, fd, ps, hs, hf, F, bi⟩ := c.ex
  obtain ⟨a, b, dx, dy, fs, gs, rfl, rfl, ha, hb, hsp⟩ := hq
  cases rx
  cases ry
  obtain ⟨mA, J, _⟩ := ins_get I.hok ha
  obtain ⟨mB, J', _⟩ := ins_get I.hok hb
  obtain ⟨od, J, _⟩ := J.look
  obtain ⟨od', J', _⟩ := J'.look
  obtain ⟨m, hF⟩ := I.fr
  have sb : Sub X k X.A := ⟨hr.mono hk, rfl⟩
  show wpAny (model X.prog X.w) X.A (binaryOp op (.ref a) (.ref b)) (EP X pins σ Q) X.xe s
  refine PySem.W.binop_K hF I.ok.mod.kin J J'.type hc (by rw [hnm]; exact hs) hf ?_
  refine wpAny_mono (own_call sb I F bi hsp) (fun v s' z => ?_) fun _ _ x => x
  obtain ⟨z, H', I', rz, q⟩ := z
  have hv : v ≠ Value.notImplemented := fun e => by
    subst e
    cases z <;> first | (obtain ⟨_, h⟩ := rz; cases h) | cases rz
  show PySem.W.CmpBack _ v s'
  cases v <;> first | exact absurd rfl hv | exact ⟨z, H', I', rz, q⟩
end

/-! the text by places -/
def top (i : Nat) : Stmt := PySem.Challenge.pw_bothgain_k47_tables_of_two_gains.main.body.getD i (.Pass ⟨0, 0, 0, 0⟩)
abbrev s_law_same : Stmt := top 25
theorem sc_law_same : FnScope ["actual", "due", "k"] ["actual", "due"] (fnScope s_law_same) := fnScope_by (by decide +kernel)
abbrev s_against : Stmt := top 20
theorem sc_against : FnScope ["gains", "mix", "row", "lot", "number"] ["gains", "mix"] (fnScope s_against) := fnScope_by (by decide +kernel)
abbrev s_gain : Stmt := top 21
theorem sc_gain : FnScope ["gains", "player", "first", "second", "lot", "number"] ["gains", "player", "first", "second"] (fnScope s_gain) := fnScope_by (by decide +kernel)
abbrev s_law_told : Stmt := top 40
theorem sc_law_told : FnScope ["cells", "e"] ["cells"] (fnScope s_law_told) := fnScope_by (by decide +kernel)
abbrev s_law_dot : Stmt := top 35
theorem sc_law_dot : FnScope ["one", "other", "whole", "k"] ["one", "other"] (fnScope s_law_dot) := fnScope_by (by decide +kernel)
abbrev s_law_row_gains : Stmt := top 36
theorem sc_law_row_gains : FnScope ["table", "mix", "row", "cell"] ["table", "mix"] (fnScope s_law_row_gains) := fnScope_by (by decide +kernel)
abbrev s_law_gain_due : Stmt := top 43
theorem sc_law_gain_due : FnScope ["table", "player", "first", "second", "whole", "i", "cell"] ["table", "player", "first", "second"] (fnScope s_law_gain_due) := fnScope_by (by decide +kernel)
abbrev s_law_number : Stmt := top 30
theorem sc_law_number : FnScope ["ratio"] ["ratio"] (fnScope s_law_number) := fnScope_by (by decide +kernel)
abbrev s_law_plain : Stmt := top 31
theorem sc_law_plain : FnScope ["part", "inner"] ["part"] (fnScope s_law_plain) := fnScope_by (by decide +kernel)
abbrev s_law_gain : Stmt := top 32
theorem sc_law_gain : FnScope ["pool", "way"] ["pool", "way"] (fnScope s_law_gain) := fnScope_by (by decide +kernel)
abbrev s_law_table : Stmt := top 33
theorem sc_law_table : FnScope ["pool", "most", "way", "width", "rows", "i", "row", "j", "one", "two"] ["pool", "most"] (fnScope s_law_table) := fnScope_by (by decide +kernel)
abbrev s_law_mix : Stmt := top 37
theorem sc_law_mix : FnScope ["pool", "count", "weights", "at", "k", "weight"] ["pool", "count"] (fnScope s_law_mix) := fnScope_by (by decide +kernel)
abbrev s_law_wrong : Stmt := top 41
theorem sc_law_wrong : FnScope ["pool", "table", "cell", "wide", "rows", "at"] ["pool", "table"] (fnScope s_law_wrong) := fnScope_by (by decide +kernel)
abbrev s_law_unlike : Stmt := top 42
theorem sc_law_unlike : FnScope ["pool", "table", "at", "of", "one", "two", "found", "cell", "row"] ["pool", "table"] (fnScope s_law_unlike) := fnScope_by (by decide +kernel)
abbrev s_law : Stmt := top 44
theorem sc_law : FnScope ["script", "pool", "table", "cells", "word", "made", "row", "wrong", "same", "other", "unlike", "strange", "first", "second", "handed", "player", "rows", "pure", "own", "i", "k"] ["script"] (fnScope s_law) := fnScope_by (by decide +kernel)
abbrev s_common : Stmt := top 11
theorem sc_common : FnScope ["ratios", "den", "ratio"] ["ratios"] (fnScope s_common) := fnScope_by (by decide +kernel)
abbrev s_are_lots : Stmt := top 12
theorem sc_are_lots : FnScope ["ratios", "weights", "den", "weight"] ["ratios"] (fnScope s_are_lots) := fnScope_by (by decide +kernel)
abbrev s_BadGains___init : Stmt := L2.inClass (top 9) 0
abbrev s_Ratio___init : Stmt := L2.inClass (top 14) 0
theorem sc_Ratio___init : FnScope ["self", "num", "den", "part"] ["self", "num", "den"] (fnScope s_Ratio___init) := fnScope_by (by decide +kernel)
abbrev s_Ratio___eq : Stmt := L2.inClass (top 14) 1
theorem sc_Ratio___eq : FnScope ["self", "other"] ["self", "other"] (fnScope s_Ratio___eq) := fnScope_by (by decide +kernel)
abbrev s_Gains___init : Stmt := L2.inClass (top 18) 0
theorem sc_Gains___init : FnScope ["self", "cells", "width", "row", "cell"] ["self", "cells"] (fnScope s_Gains___init) := fnScope_by (by decide +kernel)
abbrev s_Gains___eq : Stmt := L2.inClass (top 18) 1
theorem sc_Gains___eq : FnScope ["self", "other"] ["self", "other"] (fnScope s_Gains___eq) := fnScope_by (by decide +kernel)
abbrev s_Gains_width : Stmt := L2.inClass (top 18) 3
theorem sc_Gains_width : FnScope ["self"] ["self"] (fnScope s_Gains_width) := fnScope_by (by decide +kernel)
abbrev s_Gains_own : Stmt := L2.inClass (top 18) 4
theorem sc_Gains_own : FnScope ["self", "row", "cell"] ["self"] (fnScope s_Gains_own) := fnScope_by (by decide +kernel)
abbrev s_Ratio___add : Stmt := L2.inClass (top 14) 2
theorem sc_Ratio___add : FnScope ["self", "other"] ["self", "other"] (fnScope s_Ratio___add) := fnScope_by (by decide +kernel)
abbrev s_Ratio___mul : Stmt := L2.inClass (top 14) 4
theorem sc_Ratio___mul : FnScope ["self", "other"] ["self", "other"] (fnScope s_Ratio___mul) := fnScope_by (by decide +kernel)
abbrev s_total : Stmt := top 15
theorem sc_total : FnScope ["ratios", "result", "ratio"] ["ratios"] (fnScope s_total) := fnScope_by (by decide +kernel)
abbrev s_turned : Stmt := top 19
theorem sc_turned : FnScope ["gains", "cells", "at", "row"] ["gains"] (fnScope s_turned) := fnScope_by (by decide +kernel)
abbrev s_law_pool : Stmt := top 23
theorem sc_law_pool : FnScope ["script", "budget"] ["script", "budget"] (fnScope s_law_pool) := fnScope_by (by decide +kernel)
abbrev s_law_draw : Stmt := top 24
theorem sc_law_draw : FnScope ["pool", "size", "cell", "value"] ["pool", "size"] (fnScope s_law_draw) := fnScope_by (by decide +kernel)
abbrev s_law_lists : Stmt := top 39
theorem sc_law_lists : FnScope ["table", "row", "one", "two"] ["table"] (fnScope s_law_lists) := fnScope_by (by decide +kernel)
abbrev s_law_row_made : Stmt := top 38
theorem sc_law_row_made : FnScope ["numbers", "number"] ["numbers"] (fnScope s_law_row_made) := fnScope_by (by decide +kernel)
abbrev s_law_turned : Stmt := top 34
theorem sc_law_turned : FnScope ["table", "j", "row"] ["table"] (fnScope s_law_turned) := fnScope_by (by decide +kernel)
abbrev s_law_gcd : Stmt := top 26
theorem sc_law_gcd : FnScope ["one", "two", "a", "b", "k"] ["one", "two"] (fnScope s_law_gcd) := fnScope_by (by decide +kernel)
abbrev s_law_less : Stmt := top 27
theorem sc_law_less : FnScope ["num", "den", "shared"] ["num", "den"] (fnScope s_law_less) := fnScope_by (by decide +kernel)
abbrev s_law_plus : Stmt := top 28
theorem sc_law_plus : FnScope ["one", "other"] ["one", "other"] (fnScope s_law_plus) := fnScope_by (by decide +kernel)
abbrev s_law_times : Stmt := top 29
theorem sc_law_times : FnScope ["one", "other"] ["one", "other"] (fnScope s_law_times) := fnScope_by (by decide +kernel)
end My
/-! an own exception class over ValueError (by way of GameError) whose __init__ says super().__init__('..') and keeps its one argument -/
namespace SupX_BadGains
open My PySem L2 C8 PySem.W PySem.Calls PyProof.Rows PySem.HandSPX
/-- what the written part says of the class at C, and of its __init__ at fI -/
structure Txt (P : Program) (K : Frag) (mg : Str → Option Value) (nm : Str) (C fI : Addr) : Prop where
  gC : mg nm = some (.ref C)
  cls : ∃ nm q N bs bm sn sub ab col dd k0 k1 k2 k3 k5, K.lookup C = some (excClassObj nm q C N bs bm true sn sub ab col dd k0 k1 k2 k3 k5 "ValueError.__new__") ∧ refsVE bm = true
  along : ks_superIn K C C "__init__" = some (some (.builtin "ValueError.__init__"))
  veC : subIn K (.ref C) (.type "ValueError") = some true
  sa : findIn K (.ref C) "__setattr__" = some (some (.builtin "object.__setattr__"))
  ga : findIn K (.ref C) "__getattribute__" = some (some (.builtin "BaseException.__getattribute__"))
  gg : findIn K (.ref C) "__getattr__" = some none
  noN : findIn K (.ref C) "what" = some none
  iC : findIn K (.ref C) "__init__" = some (some (.ref fI))
  tC : typeIn K (.ref fI) = some (.type "function")
  kC : keepIn K (.ref C) = true
  exC : subIn K (.ref C) (.type "BaseException") = some true
  tyC : typeIn K (.ref C) = some (.type "type")
  hdC : hasDictIn K C = true
  opq : nsIn K cStatics "thirdparty.any" = some none
  noS : mg "super" = none
  mroC : mroIn K C (.ref C) = some true
  top : (P.main.scope.names.lookup ("super" : Str)).isSome = false
  fn : ∃ (oc : Value) (od : Option Addr) (doc pm : Value) (an : Option Addr) (cda : Addr) (ct : Value) (osl : Array (Option Value)) (cc : Addr) (cl : Value) (cld : Option Addr) (csl : Array (Option Value)) (ccl : Value) (cdd : Option Addr) (vs : Array Value) (ccs : Array (Option Value)) (file : Str) (tf : Tok),
    K.lookup fI = some ⟨oc, od, .func (fnX "__init__" "BadGains.__init__" (fnArgs s_BadGains___init) (fnBody s_BadGains___init) (fnScope s_BadGains___init) [("__class__", cc)] .none .none doc pm an (.ref cda) ct), osl⟩ ∧ codeIn K (.ref cda) "BadGains.__init__" = true ∧
    K.lookup cc = some ⟨cl, cld, .cell (some (.ref C)), csl⟩ ∧ K.lookup cda = some ⟨ccl, cdd, .fields vs, ccs⟩ ∧ vs[2]? = some (.str file tf) ∧ ((P.main.file : Str) == file) = true
/-- what __init__ leaves of a fresh exception at x -/
structure Left (h h' : Heap) (x C dx t1 : Addr) (v : Value) : Prop where
  keep : ∀ b o, b ≠ x → h.get? b = some o → h'.get? b = some o
  obj : h'.get? x = some { cls := .ref C, dict := some dx, data := .fields #[.ref t1, .none, .none, .none, .bool false, .none] }
  dbig : h.objs.size ≤ dx
  dne : dx ≠ x
  ns : h'.Ns1 dx (fun y => if y = "what" then some v else none)
section
variable {prog : Program} {w : World} {A : Around} {E : Value → Shared → Prop} {R : Result → Shared → Prop} {s : Shared} {K : Frag} {mg mb : Str → Option Value} {C fI : Addr} {nm : Str}
/-- such an __init__, run on a fresh exception -/
theorem init (T : Txt prog K mg nm C fI) {x t0 : Addr} {v : Value} (X : K.In s.heap) (hlim : s.heap.NoLimit) (hmg : s.heap.Ns mainGlobals mg) (hmb : s.heap.Ns builtinsNs mb) (hsu : mb "super" = some (.type "super"))
    (hx : s.heap.get? x = some (excO C t0)) (hnx : K.lookup x = none) (hroom : A.depth < recursionLimit)
    (hq : ∀ h' tk dx t1, Left s.heap h' x C dx t1 v → R (.ok (.ret .none)) { s with heap := h', toks := tk }) :
    codeAny (model prog w) A (.call (.ref fI) ⟨[.ref x, v], []⟩) R s := by
  obtain ⟨oc, od, doc, pm, an, cda, ct, osl, cc, cl, cld, csl, ccl, cdd, vs, ccs, file, tf, ho, hcd, hcc, hcda, hvs, hfile⟩ := T.fn
  obtain ⟨nmC, q, N, bs, bm, sn, sub, ab, col, dd, k0, k1, k2, k3, k5, hC, hbm⟩ := T.cls
  have hcl : clsIn K C = some { name := nmC, bases := bs, mro := .ref C :: bm, ns := N, qualname := q, hasDict := true, slotNames := sn, subclasses := sub, abstract := ab, collection := col, hasDel := false } := by unfold clsIn; rw [hC] <;> rfl
  have hal := T.along
  unfold ks_superIn at hal
  rw [hcl] at hal
  have hxC : x ≠ C := fun z => by rw [z, hC] at hnx; cases hnx
  refine ks_codeAny_call_defAt (fd := fnX "__init__" "BadGains.__init__" (fnArgs s_BadGains___init) (fnBody s_BadGains___init) (fnScope s_BadGains___init) [("__class__", cc)] .none .none doc pm an (.ref cda) ct) (binds := [("self", .ref x), ("what", v)]) hroom (X _ _ ho) rfl hlim
    (codeRec_of X hcd) rfl ?hb ?hcell ?hloc (fun h₁ hns k => ?_) rfl rfl rfl
  case hb => exact BindsTo.of_eq (by first | rfl | with_unfolding_all rfl)
  case hcell =>
    show ∀ x ∈ (fnScope s_BadGains___init).names, x.2 ≠ .cell
    decide +kernel
  case hloc =>
    intro y hy
    rcases List.mem_cons.mp hy with rfl | hy
    · first | rfl | kernel_rfl
    · rw [List.mem_singleton.mp hy]
      first | rfl | kernel_rfl
  have X1 : K.In h₁ := X.keeps k
  have hx1 := k _ _ hx
  have hxL : s.heap.objs.size ≠ x := Nat.ne_of_gt (Heap.lt_size hx)
  show PySem.wpAt _ (A.deeper (ksEnv "BadGains.__init__" (fnScope s_BadGains___init) s.heap.objs.size fI (.ref cda) cc)) (.func (fnBody s_BadGains___init) (ksEnv "BadGains.__init__" (fnScope s_BadGains___init) s.heap.objs.size fI (.ref cda) cc)) (execs (fnBody s_BadGains___init) (ksEnv "BadGains.__init__" (fnScope s_BadGains___init) s.heap.objs.size fI (.ref cda) cc)) _ _ _
  refine ks_wpAt_execs_cons (ks_wpAt_Expr_any (ks_wpAt_MethodCall ?_))
  obtain ⟨arS, har, hars⟩ : ∃ ar, ((fnArgs s_BadGains___init).posonlyargs ++ (fnArgs s_BadGains___init).args).head? = some ar ∧ ar.arg = "self" := ⟨_, rfl, rfl⟩
  refine ks_wpAt_super_base (f := fI) (cc := cda) (file := file) (tf := tf) (vs := vs) (ar := arS) rfl rfl (by decide) rfl (X1 _ _ ho) rfl har rfl (X1 _ _ hcda) rfl hvs hfile T.top ?_
  refine ks_loadName_global rfl rfl (loadGlobal_builtin (hmg.keeps k) T.noS (hmb.keeps k) hsu ⟨rfl, ?_⟩)
  refine wpAny_loadName_free rfl rfl (c := cc) rfl ⟨_, X1 _ _ hcc, rfl⟩ ?_
  rw [hars]
  refine wpAny_loadName_local rfl rfl hns (v := .ref x) ?_ ?_
  · first | rfl | with_unfolding_all rfl | kernel_rfl
  refine ks_wpAny_isType_cls (X1 _ _ hC) rfl ⟨rfl, ?_⟩
  refine ks_wpAny_call_super (X1 _ _ hC) rfl hx1 rfl (fun c e => by cases e) (looks_mroIn X1 T.mroC) (fun h2 e2 g2 => ?_)
  have X2 : K.In h2 := X1.keeps g2
  have hx2 := g2 _ _ hx1
  have hI : InstAt h2 x (excO C t0) C none := ⟨hx2, rfl, rfl, trivial⟩
  refine kxs_getMethod kxs_ValueError e2 (looks_opaque X2 T.opq) (l₀ := .ref C :: bm) ((looks_clsIn X2 hcl).andThen .now) rfl X2 hal (hI.type.andThen (looks_subIn X2 T.veC)) hxC (by decide) ?_
  have up3 : ∀ b o, h2.get? b = some o → (h2.push (kxs_mw "ValueError.__init__" x)).get? b = some o := fun b o e => Heap.get?_push_of_some _ e
  have hw3 : (h2.push (kxs_mw "ValueError.__init__" x)).get? h2.objs.size = some (kxs_mw "ValueError.__init__" x) := Heap.get?_push_at rfl rfl
  generalize h2.push (kxs_mw "ValueError.__init__" x) = h3 at *
  refine kxs_callWith1 (u := h2.objs.size) (i := "ValueError.__init__") (x := x) (h₀ := h2) (L := x) (news := [(h2.objs.size, kxs_mw "ValueError.__init__" x)]) (fun p hp => ?_) (by simp) ?_
  · rw [List.mem_singleton] at hp
    subst hp
    exact ⟨hw3, fun z => absurd (Heap.lt_size hx2) (by rw [← show h2.objs.size = x from z]; exact Nat.lt_irrefl _), by
      cases e : h2.get? h2.objs.size with
      | none => rfl
      | some o => exact absurd (Heap.lt_size e) (Nat.lt_irrefl _)⟩
  refine PyProof.Rows.spliced_more (wpAny_Constant_str (PyProof.Rows.spliced_none ⟨hw3, ?_⟩))
  refine wpAny_call (codeAny_of_tree ?_)
  show wpAny _ _ (callAny (.ref h2.objs.size) ⟨[_], []⟩) _ _ _
  have hmwT : (Value.type "method-wrapper" == Value.type "method" || Value.type "method-wrapper" == Value.type "builtin_function_or_method" || Value.type "method-wrapper" == Value.type "method-wrapper") = true := by decide
  simp only [callAny]
  refine wpAny_bind (wpAny_load hw3 ?_)
  simp only [kxs_mw, hmwT, if_true]
  have X3 : K.In h3 := X2.keeps up3
  have hx3 := up3 _ _ hx2
  refine KFB.if_so (by decide) (wpAny_bind (check_bound_init F.excBase_ValueError.toExcCallFacts (X3 _ _ hC) hx3 rfl (wpAny_bind (wpAny_pure (wpAny_pure ⟨plainId_quiet F.excBase_ValueError.init.plain _, codeAny_builtin F.excBase_ValueError.initEntry ?_⟩)))))
  refine exc_init_tree (cls := .ref C) (t0 := t0) (dv := none) (c2 := .none) (c3 := .none) (b4 := .bool false) hx3 (by show 1 ≤ sizeLine; decide) (fun h4 k4 hx4 _ => ?_)
  have X4 : K.In h4 := fun a o e => k4 a o (fun z => by rw [z, hnx] at e; cases e) (X3 a o e)
  have old : ∀ b o, b ≠ x → h₁.get? b = some o → h4.get? b = some o := fun b o hb e => k4 b o hb (up3 b o (g2 b o e))
  have hns4 := hns.at (h' := h4) fun o e => old _ o hxL e
  refine wpAt_of_wpAny (wpAny_execs_cons (plainObj_wpAny_Assign_Attribute (wpAny_Name (wpAny_loadName_local rfl rfl hns4 (v := v) ?_ (wpAny_Name (wpAny_loadName_local rfl rfl hns4 (v := .ref x) ?_ ?_))))))
  · first | rfl | with_unfolding_all rfl | kernel_rfl
  · first | rfl | with_unfolding_all rfl | kernel_rfl
  refine set_plain X4 (ox := excO C h3.objs.size) (od := none) ⟨hx4, rfl, rfl, trivial⟩ T.sa ?_
  refine exc_osa X4 hx4 hcl (show refsVE (.ref C :: bm) = true from hbm) rfl T.noN (fun h5 tk5 dx k5 dn dne hx5 hn5 => wpAny_execs_nil (hq h5 tk5 dx _ ⟨fun b o hb e => k5 b o hb (old b o hb (k b o e)), hx5, ?_, dne, hn5⟩))
  exact Nat.le_of_lt (Nat.lt_of_lt_of_le hns4.lt dn)
/-- a made one -/
structure Made (h h' : Heap) (e C d : Addr) (v : Value) : Prop where
  keep : ∀ b o, h.get? b = some o → h'.get? b = some o
  new : h.objs.size ≤ e
  obj : ∃ oe vs, h'.get? e = some oe ∧ oe.cls = .ref C ∧ oe.dict = some d ∧ oe.data = .fields vs ∧ vs[1]? = some .none
  dbig : h.objs.size ≤ d
  dne : d ≠ e
  ns : h'.Ns1 d (fun y => if y = "what" then some v else none)
theorem made (T : Txt prog K mg nm C fI) {v : Value} (X : K.In s.heap) (hlim : s.heap.NoLimit) (hmg : s.heap.Ns mainGlobals mg) (hmb : s.heap.Ns builtinsNs mb) (hsu : mb "super" = some (.type "super")) (hroom : A.depth + 1 < recursionLimit)
    (hq : ∀ h' tk e d, Made s.heap h' e C d v → R (.ok (.ret (.ref e))) { s with heap := h', toks := tk }) : codeAny (model prog w) A (.call (.ref C) ⟨[v], []⟩) R s := by
  obtain ⟨nmC, q, N, bs, bm, sn, sub, ab, col, dd, k0, k1, k2, k3, k5, hC, hbm⟩ := T.cls
  obtain ⟨hp, g, dr, tk, os⟩ := s
  have up : ∀ b o, hp.get? b = some o → ((hp.push (kdv_tup [v])).push (excO C hp.objs.size)).get? b = some o := fun b o e => Heap.get?_push_of_some _ (Heap.get?_push_of_some _ e)
  have at2 : ((hp.push (kdv_tup [v])).push (excO C hp.objs.size)).get? (hp.objs.size + 1) = some (excO C hp.objs.size) := by heap_get
  have none2 : K.lookup (hp.objs.size + 1) = none := by
    cases e : K.lookup (hp.objs.size + 1) with
    | none => rfl
    | some o => exact absurd (Nat.lt_of_succ_lt (Heap.lt_size (show hp.get? (hp.objs.size + 1) = some o from X _ _ e))) (Nat.lt_irrefl _)
  refine call_own F.excBase_ValueError (fun Y => refsVE_contains Y bm hbm) (X _ _ hC) (looks_findIn X T.iC) (fun self => bind_fn X self T.tC) (by show 1 ≤ sizeLine; decide) ?_
  refine init (s := ⟨(hp.push (kdv_tup [v])).push (excO C hp.objs.size), g, dr, tk, os⟩) T (X.keeps up) (hlim.keeps up) (hmg.keeps up) (hmb.keeps up) hsu at2 none2 ?_ fun h' tk' dx t1 L => ⟨rfl, ?_⟩
  · show A.depth + 1 < recursionLimit
    exact hroom
  · have big : hp.objs.size + 1 + 1 ≤ dx := by
      have z := L.dbig
      rw [Heap.size_push, Heap.size_push] at z
      exact z
    exact hq h' tk' (hp.objs.size + 1) dx ⟨fun b o e => L.keep b o (Nat.ne_of_lt (Nat.lt_succ_of_lt (Heap.lt_size e))) (up b o e), Nat.le_succ _, ⟨_, _, L.obj, rfl, rfl, rfl, rfl⟩, Nat.le_trans (Nat.le_trans (Nat.le_succ _) (Nat.le_succ _)) big, L.dne, L.ns⟩
end
/-! the rules -/
theorem relO_fld {v : V} {u : Value} (r : RelV v u) (f : Str) : RelO (List.lookup f [(("what" : Str), v)]) (if f = "what" then some u else none) := by
  by_cases h : f = "what"
  · subst h
    have q : List.lookup ("what" : Str) [(("what" : Str), v)] = some v := by simp [List.lookup]
    rw [q, if_pos rfl]
    exact r
  · have e : (f == ("what" : Str)) = false := by simpa using h
    rw [if_neg h]
    simp [List.lookup, e]
    trivial
/-- BadGains(e), raised -/
def tMkE (C : Addr) (ta : TA) : L2.St → Hp → XK → Prop := fun σ H Q => ta σ H fun vs H1 => ∃ v, vs = [v] ∧ ∀ d, H1 d = none → Q (.ref C) (some d) (upd H1 d (.xd [(("what" : Str), v)]))
section
variable {X : Cx} {C fI : Addr} {nm : Str}
theorem pmk {a : Expr} {ta : TA} {p pos : Pos} {k : Nat} (T : Txt X.prog X.K X.mg nm C fI) (hr : Room k X.A) (ha : PA X [a] ta) (hg : Gl X nm := by rfl) (hdb : (nm == ("__debug__" : Str)) = false := by decide)
    (he : starEach (a :: []) X.env = (false, eval a X.env) :: starEach [] X.env := by rfl) (hpl : (backTo pos (starEach [] X.env)).any (·.1) = false := by rfl) :
    PMk X (.Call (.Name nm p) [a] [] pos) (tMkE C ta) := by
  intro pins s σ H Q I h
  refine wpAny_Call_Name_kw (ld_glob I hg T.gC ?_ hdb)
  refine PySem.W.callWith_K (h₀ := X.base) I.ok.mod.kin T.kC (thn (ha.run pos pins s σ H _ I h) fun us s1 hh => ?_) he hpl
  obtain ⟨vs, H1, I1, r1, v, ev, q1⟩ := hh
  subst ev
  refine ⟨I1.kIn, ?_⟩
  cases r1 with
  | cons rv rn =>
    rename_i u us'
    cases rn
    show wpAny _ _ (call (.ref C) [u]) _ _ _
    have lim := I1.nolimit
    obtain ⟨mb, hmb1, hmb2⟩ := I1.mod.blt
    have hg1 := I1.mod.glob.keeps I1.bk
    have hb1 := hmb1.keeps I1.bk
    have hsu : mb "super" = some (.type "super") := (hmb2 _ (by decide)).trans (by decide +kernel)
    obtain ⟨hp, g, dr, tk, os⟩ := s1
    refine wpAny_call (made (mb := mb) T I1.kIn lim hg1 hb1 hsu (by have := hr.dp; omega) fun h' tk' e d M => ?_)
    show MkP X pins σ Q (.ref e) ⟨h', g, dr, tk', os⟩
    obtain ⟨oe, fv, hoe, hc, hd, hdat, h1⟩ := M.obj
    obtain ⟨G', g1, g2⟩ := restrict h' fun b => decide (b ≠ e)
    have there : ∀ b, b ≠ e → G'.get? b = h'.get? b := fun b hb => g1 b (decide_eq_true hb)
    have gone : G'.get? e = none := g2 e (by simp)
    have J : Inv X pins σ (upd H1 d (.xd [(("what" : Str), v)])) ⟨G', g, dr, tk', os⟩ := I1.laid (t' := tk') (fun b o q => (there b (Nat.ne_of_lt (Nat.lt_of_lt_of_le (Heap.lt_size q) M.new))).trans (M.keep b o q)) M.dbig
      ⟨_, M.ns.at (fun o q => (there d M.dne).trans q), fun f => relO_fld rv f⟩
    refine ⟨e, oe, fv, ⟨G', g, dr, tk', os⟩, _, .ref C, some d, rfl, J, fun b o q => ?_, gone, hoe, ⟨hc, hd⟩, hdat, h1, ?_, rfl, I1.bare, raises_own T.exC T.tyC, q1 d (I1.hok.fresh M.dbig)⟩
    · by_cases hb : b = e
      · have q' : G'.get? b = some o := q
        rw [hb, gone] at q'; cases q'
      · exact (there b hb).symm.trans q
    · rw [upd_ne (Ne.symm M.dne)]
      exact I1.hok.fresh M.new
/-- raise BadGains(e) -/
def tRaiseE (C : Addr) (W : WX) (ta : TA) : TS := fun _ σ H => tMkE C ta σ H fun cls d H' => W cls d σ H'
theorem ps_raiseE {a : Expr} {ta : TA} {W : WX} {p pos pos2 : Pos} {k : Nat} (hc : X.calm = true) (T : Txt X.prog X.K X.mg nm C fI) (hr : Room k X.A) (tk : Takes X W) (ha : PA X [a] ta) (hg : Gl X nm := by rfl) (hdb : (nm == ("__debug__" : Str)) = false := by decide)
    (he : starEach (a :: []) X.env = (false, eval a X.env) :: starEach [] X.env := by rfl) (hpl : (backTo pos (starEach [] X.env)).any (·.1) = false := by rfl) :
    PS X (.Raise (some (.Call (.Name nm p) [a] [] pos)) none pos2) (tRaiseE C W ta) := ps_raise hc tk (pmk T hr ha hg hdb he hpl)
end
end SupX_BadGains

namespace My
open PySem L2 C8 SX
end My
/-! isinstance(e, ..) of a caught error of an own class that has its dict -/
namespace ExIs
open PySem PySem.W PySem.Spec PySem.Calls PyProof.Rows
/-- what the class at D must say -/
structure ErrC (K : Frag) (D : Addr) : Prop where
  ga : findIn K (.ref D) "__getattribute__" = some (some (.builtin "BaseException.__getattribute__"))
  gg : findIn K (.ref D) "__getattr__" = some none
  exC : subIn K (.ref D) (.type "BaseException") = some true
  hdC : hasDictIn K D = true
  ca : findIn K (.ref D) "__class__" = some (some (.builtin "object.__class__"))
  sp : specialIn K (.builtin "object.__class__") "__get__" = some (some (.builtin "getset_descriptor.__get__"))
  tk : takesIn K (.builtin "object.__class__") = some true
  mo : mroIn K D (.type "object") = some true
theorem ErrC.clsThere {K : Frag} {D : Addr} (T : ErrC K D) : ∃ cd, clsIn K D = some cd := by
  obtain ⟨cd, hc, _⟩ := any_some T.hdC
  exact ⟨cd, hc⟩
theorem ErrC.binds {K : Frag} {D : Addr} (T : ErrC K D) (od : Option Obj) : findObj K D od "__class__" = some (.bind (.builtin "getset_descriptor.__get__") (.builtin "object.__class__")) := by
  obtain ⟨cd, hcd⟩ := T.clsThere
  have e1 := T.ca
  have e2 := T.sp
  have e3 := T.tk
  unfold findObj
  rw [hcd, Option.bind_some, e1, Option.bind_some]
  simp [e2, e3]
section
variable {prog : Program} {w : World} {A : Around} {E : Value → Shared → Prop} {s : Shared} {K : Frag} {x D : Addr} {ox : Obj} {od : Option Obj}
theorem askClass {Q : Option Value → Shared → Prop} (T : ErrC K D) (X : K.In s.heap) (I : InstAt s.heap x ox D od) (h : Q (some (.ref D)) { s with toks := s.toks + 1 }) : wpAny (model prog w) A (getAttr? (.ref x) "__class__") Q E s := by
  obtain ⟨hp, gs, dr, tok, os⟩ := s
  have ty := I.type (M := model prog w)
  have lga := looks_findIn (M := model prog w) X T.ga
  have lgg := looks_findIn (M := model prog w) X T.gg
  have lcl := looks_find (M := model prog w) X I (T.binds od)
  have isB : Looks (model prog w) hp (isInstance (.ref x) (.type "BaseException")) true := ty.andThen (looks_subIn X T.exC)
  have nq : (Value.builtin "BaseException.__getattribute__" == Value.builtin "object.__getattribute__") = false := by decide +kernel
  unfold getAttr? getAttrBy? getAttrBy
  refine wpAny_bind (wpAny_mkText (wpAny_bind (wpAny_attempt (wpAny_holding (wpAny_bind (ty.at (wpAny_bind (lga.at (?goal : _))))))))) 
  show wpAny _ _ (ite ((onTheHeap (Value.ref D) && Value.builtin "BaseException.__getattribute__" == Value.builtin "object.__getattribute__") = true) _ _) _ _ _
  rw [if_neg (by rw [nq]; simp)]
  unfold getAttrByItsOwn hookBefore
  refine wpAny_bind (?g2 : _)
  have onH : onTheHeap (Value.ref D) = true := rfl
  rw [if_pos onH]
  refine lgg.at (wpAny_bind (wpAny_attempt (wpAny_holding (?g3 : _))))
  unfold callGetattribute
  rw [if_neg (by simp)]
  unfold boundAndCalled
  rw [PySem.F.excAttr_ValueError.ga.bind (.ref x)]
  refine wpAny_bind (wpAny_pure (?g4 : _))
  show wpAny _ _ (call (.builtin "BaseException.__getattribute__") [.ref x, .str "__class__" tok]) _ _ _
  refine wpAny_call (codeAny_call_builtin PySem.F.excAttr_ValueError.ga.plain PySem.F.entry_bexc_ga (@check_slot (model prog w) _ _ ⟨hp, gs, dr, tok + 1, os⟩ "BaseException.__getattribute__" "BaseException" "__getattribute__" (.ref x) [.str "__class__" tok] [] _ (by decide +kernel) (by decide +kernel) isB
    (PySem.F.args_bexc_ga (.ref x) (.str "__class__" tok)) (?g5 : _)))
  unfold Builtin.«object.__getattribute__»
  refine wpAny_bind (wpAny_of_eq (a := ((Value.ref x : Value), [Value.str "__class__" tok])) (by first | rfl | (simp only [slotArgs]; rfl)) (wpAny_bind (wpAny_pure (wpAny_bind (ty.at (wpAny_bind (lcl.at (?g6 : _))))))))
  show wpAny _ _ (holding [Value.builtin "object.__class__"] (call (.builtin "getset_descriptor.__get__") [.builtin "object.__class__", .ref x, .ref D]) >>= ret) _ _ _
  refine wpAny_bind (wpAny_holding (wpAny_call (class_get (s := ⟨hp, gs, dr, tok + 1, os⟩) (ox := ox) (od := od) X I T.mo (wpAny_pure (?g7 : _)))))
  show wpAny _ _ (handedOut (.ref D)) _ _ _
  rw [handedOut_of (v := .ref D) rfl]
  first | exact wpAny_pure (wpAny_pure h) | exact wpAny_pure h | exact wpAny_pure (wpAny_bind (wpAny_pure (wpAny_pure h)))
theorem kit (T : ErrC K D) : KitX K (.ref x) (.ref D) (fun h => InstAt h x ox D od) where
  ty := fun _ _ _ I => I.type
  it := fun _ _ X _ => by
    obtain ⟨cd, hcd⟩ := T.clsThere
    unfold clsIn at hcd
    split at hcd
    · rename_i c' d' cd' sl' ho
      intro A' Q' E' s' k q
      unfold isType loadHead
      exact wpAny_bind (wpAny_loadPart (k _ _ (X _ _ ho)) (wpAny_pure q))
    · cases hcd
  ne := fun h tp dd its n sl X htp => Bool.eq_false_iff.mpr fun q => by
    obtain ⟨cd, hcd⟩ := T.clsThere
    have e : D = tp := Value.ref.inj (beq_iff_eq.mp q)
    subst e
    unfold clsIn at hcd
    split at hcd
    · rename_i c' d' cd' sl' ho
      cases (X _ _ ho).symm.trans htp
    · cases hcd
  ca := fun X I k => askClass T X I k
end
end ExIs
namespace L2
open PySem PySem.Spec PyProof.Rows
theorem inst_of {X : Cx} {pins : List (Addr × Obj)} {σ : L2.St} {H : Hp} {s : Shared} {a D dd : Addr} {oe : Obj} {pn : List (Addr × Obj)} {fs : List (Str × V)} (I : Inv (X.suite a ((a, oe) :: pn)) pins σ H s) (hz : Zc (.ref D) (some dd) oe) (hf : ∃ vs, oe.data = .fields vs) (he : H dd = some (.xd fs)) :
    ∃ od, PySem.W.InstAt s.heap a oe D (some od) := by
  obtain ⟨ha, _⟩ := I.pin (a, oe) (List.mem_append_left _ List.mem_cons_self)
  obtain ⟨vs, hd⟩ := hf
  have hx : ObjOk X.prog X.w H s.heap dd (.xd fs) := I.hok dd _ he
  obtain ⟨mA, hns, _⟩ := hx
  obtain ⟨od, ho, _⟩ := lookIn_ns hns
  exact ⟨od, ha, hz.1, by unfold PySem.W.notCls; rw [hd] <;> rfl, by rw [hz.2]; exact ho⟩
/-- isinstance(e, C), e the caught exception -/
def rIsX (K : PySem.W.Frag) (a : Addr) (cls : Value) (d : Option Addr) : List V → Hp → VK → Prop := fun xs H Q => ∃ (D C dd : Addr) (fs : List (Str × V)) (b : Bool), xs = [.ref a, .ref C] ∧ cls = .ref D ∧ d = some dd ∧ ExIs.ErrC K D ∧ H dd = some (.xd fs) ∧ PySem.W.kitOne K (.ref D) (.ref C) = some b ∧ Q (.bl b) H
theorem call_isX {X : Cx} {a : Addr} {cls : Value} {d : Option Addr} {oe : Obj} {pn : List (Addr × Obj)} (hz : Zc cls d oe) (hf : ∃ vs, oe.data = .fields vs) : CallR (X.suite a ((a, oe) :: pn)) (.builtin "isinstance") (rIsX X.K a cls d) := by
  intro pins s σ H xs us Q I r h
  obtain ⟨D, C, dd, fs, b, rfl, rfl, rfl, T, hx, e, q⟩ := h
  obtain ⟨u1, u2, rfl, r1, r2⟩ := vals2 r
  cases (show u1 = Value.ref a from r1)
  cases (show u2 = Value.ref C from r2)
  obtain ⟨od, J⟩ := inst_of I hz hf hx
  exact PySem.W.kia_one (ExIs.kit T) I.kIn J e (fun z => nomatch z) fun tk => ⟨.bl b, H, I.tok tk, rfl, q⟩
theorem crefs_of {cs : List Addr} {its : List Value} (h : Vals (cs.map V.ref) its) : its = cs.map Value.ref := by
  induction cs generalizing its with
  | nil => cases h; rfl
  | cons c cs ih =>
    cases h with
    | cons h1 h2 => rw [ih h2]; cases (show _ = Value.ref c from h1); rfl
/-- isinstance(e, (C1, ..)) -/
def rIsXT (K : PySem.W.Frag) (a : Addr) (cls : Value) (d : Option Addr) : List V → Hp → VK → Prop := fun xs H Q => ∃ (D tp dd : Addr) (cs : List Addr) (fs : List (Str × V)) (b : Bool), xs = [.ref a, .ref tp] ∧ cls = .ref D ∧ d = some dd ∧ ExIs.ErrC K D ∧ H dd = some (.xd fs) ∧ H tp = some (.tup (cs.map V.ref)) ∧
  PySem.W.kitAny K (.ref D) (cs.map Value.ref) = some b ∧ Q (.bl b) H
theorem call_isXT {X : Cx} {a : Addr} {cls : Value} {d : Option Addr} {oe : Obj} {pn : List (Addr × Obj)} (hz : Zc cls d oe) (hf : ∃ vs, oe.data = .fields vs) : CallR (X.suite a ((a, oe) :: pn)) (.builtin "isinstance") (rIsXT X.K a cls d) := by
  intro pins s σ H xs us Q I r h
  obtain ⟨D, tp, dd, cs, fs, b, rfl, rfl, rfl, T, hx, hT, e, q⟩ := h
  obtain ⟨u1, u2, rfl, r1, r2⟩ := vals2 r
  cases (show u1 = Value.ref a from r1)
  cases (show u2 = Value.ref tp from r2)
  obtain ⟨od, J⟩ := inst_of I hz hf hx
  obtain ⟨_, its, rv, o, h1, h2, n, h3⟩ := (show ObjOk X.prog X.w H s.heap tp (.tup (cs.map V.ref)) from I.hok tp _ hT)
  have e3 := crefs_of rv
  subst e3
  obtain ⟨oc, od2, dt, sl⟩ := o
  simp only at h2 h3
  subst h2 h3
  exact PySem.W.kia_tup (ExIs.kit T) I.kIn J h1 e (fun z => nomatch z) fun tk => ⟨.bl b, H, I.tok tk, rfl, q⟩
end L2
namespace My
open PySem L2 C8 SX

/-- what the walk asks of the module -/
structure Txt (K : PySem.W.Frag) (mg : Str → Option Value) (C_Ratio : Addr) (C_Gains : Addr) (C_GameError : Addr) (C_BadEdit : Addr) (C_BadPlan : Addr) (C_BadRatio : Addr) (C_BadText : Addr) (C_TooLarge : Addr) (C_BadGains : Addr) : Prop where
  n_abs : mg "abs" = none
  n_all : mg "all" = none
  n_any : mg "any" = none
  n_bool : mg "bool" = none
  n_int : mg "int" = none
  n_isinstance : mg "isinstance" = none
  n_len : mg "len" = none
  n_list : mg "list" = none
  n_range : mg "range" = none
  n_str : mg "str" = none
  n_sum : mg "sum" = none
  n_tuple : mg "tuple" = none
  n_zip : mg "zip" = none
  f_gcd : mg "gcd" = some (.builtin "math.gcd")
  f_lcm : mg "lcm" = some (.builtin "math.lcm")
  cl_Ratio : Cls K C_Ratio
  m_Ratio : mg "Ratio" = some (.ref C_Ratio)
  i_Ratio : InsC K C_Ratio
  a_Ratio_num : NoAttr K C_Ratio "num"
  a_Ratio_den : NoAttr K C_Ratio "den"
  cl_Gains : Cls K C_Gains
  m_Gains : mg "Gains" = some (.ref C_Gains)
  i_Gains : InsC K C_Gains
  a_Gains_cells : NoAttr K C_Gains "cells"
  v_MOST_MOVES : ∃ u, mg "MOST_MOVES" = some u ∧ RelV (.int 8) u
  m_GameError : mg "GameError" = some (.ref C_GameError)
  m_BadEdit : mg "BadEdit" = some (.ref C_BadEdit)
  m_BadPlan : mg "BadPlan" = some (.ref C_BadPlan)
  m_BadRatio : mg "BadRatio" = some (.ref C_BadRatio)
  m_BadText : mg "BadText" = some (.ref C_BadText)
  m_TooLarge : mg "TooLarge" = some (.ref C_TooLarge)
  m_BadGains : mg "BadGains" = some (.ref C_BadGains)
  e_BadGains : ExIs.ErrC K C_BadGains
  f_BadGains : XfC K C_BadGains
  no_BadGains : PySem.W.findIn K (.ref C_BadGains) "what" = some none
  x_BadGains : PySem.W.exmOne K (.ref C_BadGains) (.ref C_BadGains) = some true
  sfR : PySem.W.selfFirst K C_Ratio = true
  gE : PySem.W.subIn K (.ref C_GameError) (.type "BaseException") = some true
  gH : PySem.W.hasDictIn K C_GameError = true
  gT : PySem.W.typeIn K (.ref C_GameError) = some (.type "type")
  gS : PySem.W.subIn K (.ref C_BadGains) (.ref C_GameError) = some true
  kX : PySem.W.kitAny K (.ref C_BadGains) [.ref C_BadEdit, .ref C_BadPlan, .ref C_BadRatio, .ref C_BadText, .ref C_TooLarge] = some false
  kTR : PySem.W.kitOne K (.type "tuple") (.ref C_Ratio) = some false
  nR : PySem.W.findIn K (.ref C_Ratio) "__ne__" = some (some (.builtin "object.__ne__"))
  ok : True
/-! defs that raise: their promise, their calls (in a def that raises, in a try) -/
structure CalX (P : Program) (w : World) (K : PySem.W.Frag) (mg : Str → Option Value) (base : Heap) (k : Nat) (x : Str) (sp : Sp) (dvs : List V) : Prop where
  ex : ∃ (f : Addr) (fd : FuncData) (ps : List Str) (ds : List Value), FnOk P w K mg base (L2.CX P w) k f fd ps sp ∧ mg x = some (.ref f) ∧ PySem.W.keepIn K (.ref f) = true ∧ Binds K fd ps ds ∧ Vals dvs ds
/-- .. called with keywords -/
structure CalXK (P : Program) (w : World) (K : PySem.W.Frag) (mg : Str → Option Value) (base : Heap) (k : Nat) (x : Str) (sp : Sp) (n : Nat) (ks : List Str) (gV : List V → List V → List V) : Prop where
  ex : ∃ (f : Addr) (fd : FuncData) (ps : List Str) (g : List Value → List Value → List Value), FnOk P w K mg base (L2.CX P w) k f fd ps sp ∧ mg x = some (.ref f) ∧ PySem.W.keepIn K (.ref f) = true ∧ KBn K fd ps n ks g gV
structure MetX (P : Program) (w : World) (K : PySem.W.Frag) (mg : Str → Option Value) (base : Heap) (k : Nat) (C : Addr) (m : Str) (sp : Sp) (dvs : List V) : Prop where
  ex : ∃ (f : Addr) (fd : FuncData) (ps : List Str) (ds : List Value), Cls K C ∧ Meth K C m f ∧ FnOk P w K mg base (L2.CX P w) k f fd ps sp ∧ Binds K fd ps ds ∧ Vals dvs ds
section
variable {P : Program} {w : World} {K : PySem.W.Frag} {mg : Str → Option Value} {base : Heap}
theorem fnx {x qual : Str} {st : Stmt} {f : Addr} {fd : FuncData} {N ps : List Str} {k : Nat} {sp : Sp} (F : C8.Fun K x qual st f fd) (S : FnScope N ps (fnScope st)) (len : ∀ vs H Q E, sp vs H Q E → vs.length = ps.length)
    (hbody : ∀ (cdv : Value) (A : Around) (outer : List Env) (s : Shared) (H : Hp) (vs : List V) (Q : VK) (E : XK), Room k (A.deeper (PyProof.Rows.envOfC qual (fnScope st) s.heap.objs.size f cdv)) → sp vs H Q E →
      ∃ t, PSs (cxOf (L2.CX P w) P w K mg base N qual (fnScope st) f cdv A outer s H E) (fnBody st) t ∧ t { nx := fun _ H' => Q .non H', rt := Q } (start N vs) H) : FnOk P w K mg base (L2.CX P w) (k + 1) f fd ps sp := by
  obtain ⟨oc, od, dV, kV, doc, pm, an, cdv, ct, osl, rfl, lk, hcd⟩ := F.ex
  exact fn_of lk hcd S len fun A outer s H vs Q E hr hsp => hbody cdv A outer s H vs Q E hr hsp
theorem CalX.of {x : Str} {st : Stmt} {f : Addr} {fd : FuncData} {ps : List Str} {ds : List Value} {dvs : List V} {k : Nat} {sp : Sp} (F : C8.Def K mg x st f fd) (ok : FnOk P w K mg base (L2.CX P w) k f fd ps sp) (b : Binds K fd ps ds) (d : Vals dvs ds) : CalX P w K mg base k x sp dvs :=
  ⟨f, fd, ps, ds, ok, F.mgf, F.kp, b, d⟩
end
section
variable {X : Cx} {k j n : Nat} {C : Addr} {x m : Str} {sp : Sp} {dvs : List V} {p pos apos : Pos} {e o : Expr} {es : List Expr} {ta : TE} {t tk : TA} {E : XK} {W : WX} {ks : List Str} {gV : List V → List V → List V} {kws : List Keyword}
/-- called in a def that lets out what E says -/
theorem pe_cX (c : CalX X.prog X.w X.K X.mg X.base k x sp dvs) (hr : Room j X.A) (hk : k ≤ j) (hg : Gl X x) (hx : Passes (L2.CX X.prog X.w) X E) (ha : PA X (e :: es) t)
    (hdb : (x == ("__debug__" : Str)) = false := by decide) (he : starEach (e :: es) X.env = (false, eval e X.env) :: starEach es X.env := by rfl) (hpl : (backTo pos (starEach es X.env)).any (·.1) = false := by rfl) :
    PE X (.Call (.Name x p) (e :: es) [] pos) (tCall sp dvs E t) := by
  obtain ⟨f, fd, ps, ds, F, hm, kp, b, d⟩ := c.ex
  exact pe_call F (hr.mono hk) hg hm kp b d hx ha hdb he hpl
/-- called in a try -/
theorem pe_cS (c : CalX X.prog X.w X.K X.mg X.base k x sp dvs) (hr : Room j X.A) (hk : k ≤ j) (hg : Gl X x) (tk : Takes X W) (ha : PA X (e :: es) t)
    (hdb : (x == ("__debug__" : Str)) = false := by decide) (he : starEach (e :: es) X.env = (false, eval e X.env) :: starEach es X.env := by rfl) (hpl : (backTo pos (starEach es X.env)).any (·.1) = false := by rfl) :
    PE X (.Call (.Name x p) (e :: es) [] pos) (tCallSD sp dvs (WE W) t) := by
  obtain ⟨f, fd, ps, ds, F, hm, kp, b, d⟩ := c.ex
  exact pe_callSD F (hr.mono hk) hg hm kp b d (fun σ => passAt tk σ) ha hdb he hpl
def tCallSK (sp : Sp) (n : Nat) (ks : List Str) (gV : List V → List V → List V) (E : L2.St → XK) (t tk : TA) : TE := fun σ H Q => t σ H fun vs H1 => tk σ H1 fun zs H2 => vs.length = n ∧ zs.length = ks.length ∧ sp (gV vs zs) H2 Q (E σ)
/-- called in a try, with keywords -/
theorem pe_cKS (c : CalXK X.prog X.w X.K X.mg X.base k x sp n ks gV) (hr : Room j X.A) (hk : k ≤ j) (hg : Gl X x) (tw : Takes X W) (ha : PA X (e :: es) t) (hkw : PK X kws tk)
    (hall : (backToKw pos (keywordEach kws X.env)).all (·.1.isSome) = true := by rfl) (hks : (backToKw pos (keywordEach kws X.env)).filterMap (·.1) = ks := by rfl)
    (hdb : (x == ("__debug__" : Str)) = false := by decide) (he : starEach (e :: es) X.env = (false, eval e X.env) :: starEach es X.env := by rfl)
    (hpl : ((backTo pos (starEach (e :: es) X.env)).any (·.1) || (backToKw pos (keywordEach kws X.env)).any (·.1.isNone)) = false := by rfl) :
    PE X (.Call (.Name x p) (e :: es) kws pos) (tCallSK sp n ks gV (WE W) t tk) := by
  obtain ⟨f, fd, ps, g, F, hm, kp, b⟩ := c.ex
  refine ⟨fun pins s σ H Q I h => wpAny_Call_Name_kw (ld_glob I hg hm (PySem.W.callWith_KW (h₀ := X.base) I.ok.mod.kin kp hall (thn (ha.run pos pins s σ H _ I h) fun us s1 ⟨vs, H1, I1, r, q⟩ => ?_) hpl he) hdb)⟩
  refine thn (hkw.run pos pins s1 σ H1 _ I1 q) fun ws s2 ⟨zs, H2, I2, rz, l1, l2, q2⟩ => ⟨I2.kIn, ?_⟩
  rw [hks]
  have r2 := b.rel r rz
  refine wpAny_call (codeAny_mono (F.run X.A X.stack s2 H2 ⟨us, ks.zip ws⟩ (g us ws) (gV vs zs) Q (WE W σ) (hr.mono hk) I2.env0 (b.to s2 us ws I2.kIn (r.length.symm.trans l1) (rz.length.symm.trans l2)) r2 q2) fun r s' hq => ?_)
  cases r with
  | error er => exact passAt tw σ pins H2 s2 er s' I2 hq
  | ok fl =>
    cases fl with
    | ret u => exact I2.after hq
    | next => exact hq.elim
    | brk => exact hq.elim
    | cont => exact hq.elim
end

/-! an own class whose __init__ raises, made within a try -/
structure MakX (P : Program) (w : World) (K : PySem.W.Frag) (mg : Str → Option Value) (base : Heap) (k : Nat) (x : Str) (C : Addr) (sp : Sp) : Prop where
  ex : ∃ (f : Addr) (fd : FuncData) (ps : List Str), Mk K C f ∧ FnOk P w K mg base (L2.CX P w) k f fd ps sp ∧ mg x = some (.ref C) ∧ Binds K fd ps []
def tMakeSD (C : Addr) (sp : Sp) (E : L2.St → XK) (t : TA) : TE := fun σ H Q => t σ H fun vs H1 => ∀ x dx, H1 x = none → H1 dx = none → dx ≠ x → sp (.ref x :: vs) (upd (upd H1 dx (.own x)) x (.ins C dx [])) (fun v H2 => v = .non ∧ Q (.ref x) H2) (E σ)
section
variable {X : Cx} {k j : Nat} {C : Addr} {x : Str} {sp : Sp} {p pos : Pos} {e : Expr} {es : List Expr} {t : TA} {W : WX}
theorem pe_mkS (c : MakX X.prog X.w X.K X.mg X.base k x C sp) (hr : Room j X.A) (hk : k + 1 ≤ j) (hg : Gl X x) (tk : Takes X W) (ha : PA X (e :: es) t)
    (hdb : (x == ("__debug__" : Str)) = false := by decide) (he : starEach (e :: es) X.env = (false, eval e X.env) :: starEach es X.env := by rfl) (hpl : (backTo pos (starEach es X.env)).any (·.1) = false := by rfl) : PE X (.Call (.Name x p) (e :: es) [] pos) (tMakeSD C sp (WE W) t) := by
  obtain ⟨f, fd, ps, M, F, hm, b⟩ := c.ex
  refine ⟨fun pins s0 σ H Q I h => wpAny_Call_Name_kw (ld_glob I hg hm (PySem.W.callWith_K (h₀ := X.base) I.ok.mod.kin M.kp (thn (ha.run pos pins s0 σ H _ I h) fun us s ⟨vs, H1, I1, r, q⟩ => ⟨I1.kIn, ?_⟩) he hpl) hdb)⟩
  have nx : H1 (s.heap.objs.size + 1) = none := I1.hok.fresh (Nat.le_succ _)
  have nd : H1 s.heap.objs.size = none := I1.hok.fresh (Nat.le_refl _)
  have hsp := q _ _ nx nd (Nat.ne_of_lt (Nat.lt_succ_self _))
  have Im := Inv.made (C := C) I1
  have rr : Vals (V.ref (s.heap.objs.size + 1) :: vs) (Value.ref (s.heap.objs.size + 1) :: us) := .cons rfl r
  have hln : (Value.ref (s.heap.objs.size + 1) :: us).length = ps.length := rr.length.symm.trans (F.len _ _ _ _ hsp)
  have rm : Room k (X.A.under (.builtin "type.__call__" ⟨.ref C :: us, []⟩)) := (hr.mono hk).make C us []
  have bt := b _ (Value.ref (s.heap.objs.size + 1) :: us) Im.kIn (by rw [List.append_nil]; exact hln)
  rw [List.append_nil] at bt
  have go := F.run _ X.stack _ _ ⟨Value.ref (s.heap.objs.size + 1) :: us, []⟩ (Value.ref (s.heap.objs.size + 1) :: us) _ _ (WE W σ) rm (Im.env0.make C us []) bt rr hsp
  refine wpAny_call (make_map (f := f) I1.kIn M.makes M.init (beq_iff_eq.mp M.fn) (codeAny_mono go fun res s2 hres => ?_))
  match res, hres with
  | .error er, hres => exact passAt tk σ pins _ _ er s2 Im hres
  | .ok (.ret u), hres =>
    obtain ⟨v, H2, I2, rv, ev, q2⟩ := Im.after hres
    subst ev
    exact ⟨rv, V.ref (s.heap.objs.size + 1), H2, I2, rfl, q2⟩
  | .ok .next, hres => exact hres.elim
  | .ok .brk, hres => exact hres.elim
  | .ok .cont, hres => exact hres.elim
end

/-! ratios: an own object of two ints -/
theorem kND : ¬ (("num" : Str) = "den") := by decide +kernel
theorem kDN : ¬ (("den" : Str) = "num") := by decide +kernel
def rf (n d : Int) : List (Str × V) := putF "den" (.int d) (putF "num" (.int n) [])
theorem rf_num (n d : Int) : (rf n d).lookup ("num" : Str) = some (.int n) := by
  unfold rf
  rw [lookup_putF, if_neg kND, lookup_putF, if_pos rfl]
theorem rf_den (n d : Int) : (rf n d).lookup ("den" : Str) = some (.int d) := by
  unfold rf
  rw [lookup_putF, if_pos rfl]
theorem rf_no (n d : Int) {m : Str} (h1 : ¬ m = "num") (h2 : ¬ m = "den") : (rf n d).lookup m = none := by
  unfold rf
  rw [lookup_putF, if_neg h2, lookup_putF, if_neg h1]; rfl
/-- a Ratio stands at p -/
def RatAt (C : Addr) (H : Hp) (p : Addr) (n d : Int) : Prop := ∃ dx, H p = some (.ins C dx (rf n d))
theorem RatAt.keep {C p : Addr} {H H' : Hp} {W : List Addr} {n d : Int} (h : RatAt C H p n d) (k : Keep W H H') (w : p ∉ W) : RatAt C H' p n d := by
  obtain ⟨dx, h⟩ := h
  exact ⟨dx, k _ _ h w⟩
theorem RatAt.keep0 {C p : Addr} {H H' : Hp} {n d : Int} (h : RatAt C H p n d) (k : Keep [] H H') : RatAt C H' p n d := h.keep k (by simp)
/-- the sign of the divisor stands with the common part -/
def sg (n d : Int) : Int := if d < 0 then -((Nat.gcd n.natAbs d.natAbs : Nat) : Int) else ((Nat.gcd n.natAbs d.natAbs : Nat) : Int)
def redN (n d : Int) : Int := n.fdiv (sg n d)
def redD (n d : Int) : Int := d.fdiv (sg n d)
theorem gcd_pos_of {n d : Int} (h : d ≠ 0) : 0 < Nat.gcd n.natAbs d.natAbs := Nat.gcd_pos_of_pos_right _ (by omega)
theorem sg_ne {n d : Int} (h : d ≠ 0) : sg n d ≠ 0 := by
  have := gcd_pos_of (n := n) h
  unfold sg
  split <;> omega
theorem sg_dvd_n (n d : Int) : sg n d ∣ n := by
  have h : ((Nat.gcd n.natAbs d.natAbs : Nat) : Int) ∣ n := Int.ofNat_dvd_left.mpr (Nat.gcd_dvd_left _ _)
  unfold sg
  split
  · exact Int.neg_dvd.mpr h
  · exact h
theorem sg_dvd_d (n d : Int) : sg n d ∣ d := by
  have h : ((Nat.gcd n.natAbs d.natAbs : Nat) : Int) ∣ d := Int.ofNat_dvd_left.mpr (Nat.gcd_dvd_right _ _)
  unfold sg
  split
  · exact Int.neg_dvd.mpr h
  · exact h
theorem fdiv_of_mul {m c s : Int} (hs : s ≠ 0) (h : m = s * c) : m.fdiv s = c := by
  subst h; exact Int.mul_fdiv_cancel_left c hs
theorem red_n {n d : Int} (h : d ≠ 0) : redN n d * sg n d = n := by
  obtain ⟨c, hc⟩ := sg_dvd_n n d
  unfold redN
  rw [fdiv_of_mul (sg_ne h) hc, Int.mul_comm]; exact hc.symm
theorem red_d {n d : Int} (h : d ≠ 0) : redD n d * sg n d = d := by
  obtain ⟨c, hc⟩ := sg_dvd_d n d
  unfold redD
  rw [fdiv_of_mul (sg_ne h) hc, Int.mul_comm]; exact hc.symm
theorem redD_pos {n d : Int} (h : d ≠ 0) : 0 < redD n d := by
  have e := red_d (n := n) h
  have g := gcd_pos_of (n := n) h
  have hne : redD n d ≠ 0 := fun z => by rw [z, Int.zero_mul] at e; exact h e.symm
  rcases Int.lt_or_gt_of_ne hne with hl | hl
  · exfalso
    unfold sg at e
    split at e
    · rename_i hd
      have : 0 ≤ redD n d * -((Nat.gcd n.natAbs d.natAbs : Nat) : Int) := Int.mul_nonneg_of_nonpos_of_nonpos (by omega) (by omega)
      omega
    · rename_i hd
      have : redD n d * ((Nat.gcd n.natAbs d.natAbs : Nat) : Int) < 0 := Int.mul_neg_of_neg_of_pos hl (by omega)
      omega
  · exact hl
/-- the same ratio -/
theorem red_cross {n d : Int} (h : d ≠ 0) : redN n d * d = n * redD n d := by
  have e1 := red_n (n := n) h
  have e2 := red_d (n := n) h
  calc redN n d * d = redN n d * (redD n d * sg n d) := by rw [e2]
    _ = redN n d * sg n d * redD n d := by rw [Int.mul_comm (redD n d), Int.mul_assoc]
    _ = n * redD n d := by rw [e1]
theorem red_gcd {n d : Int} (h : d ≠ 0) : Nat.gcd (redN n d).natAbs (redD n d).natAbs = 1 := by
  have e1 : (redN n d).natAbs * (sg n d).natAbs = n.natAbs := by rw [← Int.natAbs_mul, red_n h]
  have e2 : (redD n d).natAbs * (sg n d).natAbs = d.natAbs := by rw [← Int.natAbs_mul, red_d h]
  have e3 : (sg n d).natAbs = Nat.gcd n.natAbs d.natAbs := by unfold sg; split <;> omega
  have e4 := Nat.gcd_mul_right (redN n d).natAbs (sg n d).natAbs (redD n d).natAbs
  rw [e1, e2, e3] at e4
  have g := gcd_pos_of (n := n) h
  exact Nat.eq_of_mul_eq_mul_right g (by omega)
theorem red_abs_n {n d : Int} (h : d ≠ 0) : (redN n d).natAbs ≤ n.natAbs := by
  have e1 : (redN n d).natAbs * (sg n d).natAbs = n.natAbs := by rw [← Int.natAbs_mul, red_n h]
  have : 0 < (sg n d).natAbs := by have := sg_ne (n := n) h; omega
  rw [← e1]
  exact Nat.le_mul_of_pos_right _ this
theorem red_dvd {n d : Int} (h : d ≠ 0) : redD n d ∣ d := ⟨sg n d, (red_d h).symm⟩
/-- what the rules ask of numbers below a power of two -/
theorem log2_lt9 {i : Int} {b : Nat} (h : i.natAbs < 2 ^ b) (h0 : 0 < b) : i.natAbs.log2 < b := PySem.Flt.log2_lt_of h0 h
section
variable {X : Cx}
def CDivG (_ j : Int) : Prop := j ≠ 0 ∧ j.natAbs.log2 < 9000
theorem op_fdivG : OpR X (binaryOp .FloorDiv) (rI CDivG fun i j => .int (i.fdiv j)) := opI fun i j _ _ _ _ _ hc q =>
  PyProof.Rows.floordiv_int hc.1 q (.inl (PyProof.noPylong_of_log2 hc.2))
def CPowB (i j : Int) : Prop := 2 ≤ i.natAbs ∧ 1 ≤ j ∧ (Builtin.Int.intBits i : Int) * j ≤ 100000000
theorem op_mulO : OpR X (binaryOp .Mult) (rI IntMulOk fun i j => .int (i * j)) := opI fun _ _ _ _ _ _ _ hc q => PyProof.Rows.mul_int q hc
end
def sp_rat (C : Addr) : Sp := fun vs H Q _ => ∃ (x dx : Addr) (n d : Int), vs = [.ref x, .int n, .int d] ∧ d ≠ 0 ∧ d.natAbs < 2 ^ 8000 ∧ H x = some (.ins C dx []) ∧
  ∀ H', Keep [x] H H' → H' x = some (.ins C dx (rf (redN n d) (redD n d))) → Q .non H'

set_option exponentiation.threshold 100000
/-! great ints: lcm, a fourth power -/
section
variable {X : Cx}
def rLcm : List V → Hp → VK → Prop := fun vs H Q => ∃ a b : Int, vs = [.int a, .int b] ∧ a.natAbs < 2 ^ 6000 ∧ b.natAbs < 2 ^ 6000 ∧ Q (.int ((Nat.lcm a.natAbs b.natAbs : Nat) : Int)) H
theorem cr_lcm : CallR X (.builtin "math.lcm") rLcm := by
  intro pins s σ H vs us Q I r h
  obtain ⟨a, b, rfl, ha, hb, q⟩ := h
  obtain ⟨t, u, rfl⟩ := Vals.int2 r
  have e1 : Nat.lcm 1 a.natAbs = a.natAbs := PySem.W.mc_lcm_one _
  have l1 : (max 1 a.natAbs).log2 < 6001 := by
    refine PySem.Flt.log2_lt_of (by decide) ?_
    have : (1 : Nat) < 2 ^ 6001 := Nat.one_lt_two_pow (by decide)
    have : a.natAbs < 2 ^ 6001 := Nat.lt_trans ha (Nat.pow_lt_pow_right (by decide) (by decide))
    omega
  have l2 : (max a.natAbs b.natAbs).log2 < 6000 := PySem.Flt.log2_lt_of (by decide) (by omega)
  refine call_function_meets PySem.W.MGF.kind_lcm PySem.W.MGF.plain_lcm PySem.W.MGF.entry_lcm (PySem.W.MGF.args_lcm _ _) (PySem.W.mg_run_lcm a t b u (by omega) (by omega) ?_).meets ⟨.int _, H, I.tok _, ⟨_, rfl⟩, by rw [e1]; exact q⟩
  rw [e1, Int.natAbs_natCast]
  have h1 : Nat.lcm a.natAbs b.natAbs < 2 ^ 12000 := by
    refine Nat.lt_of_le_of_lt (PySem.W.mc_lcm_le _ _) ?_
    have e : (2 : Nat) ^ 12000 = 2 ^ 6000 * 2 ^ 6000 := by rw [← Nat.pow_add]
    rw [e]
    exact Nat.mul_lt_mul'' ha hb
  have h2 := PySem.Flt.log2_lt_of (k := 12000) (by decide) h1
  have e : bitsLine = 134217728 := by decide
  omega
/-- a ** 4 -/
theorem op_pow4 : OpR X (binaryOp .Pow) (fun x y H Q => ∃ i : Int, x = .int i ∧ y = .int 4 ∧ Builtin.Int.intBits i ≤ 2000000 ∧ Q (.int (i ^ 4)) H) := by
  intro pins s σ H x y v u Q I rx ry h
  obtain ⟨i, rfl, rfl, hb, q⟩ := h
  obtain ⟨t, rfl⟩ := rx
  obtain ⟨t', rfl⟩ := ry
  have fin : ∀ z : Int, z = i ^ 4 → ∀ k tk, EP X pins σ Q (.int z tk) { s with toks := k } := fun z e k tk => ⟨.int z, H, I.tok _, ⟨_, rfl⟩, by rw [e]; exact q⟩
  by_cases h1 : (i == 0 || i == 1) = true
  · refine AutoIntOps.pow_1 (by decide) (by decide) h1 (fin i ?_ _ _)
    rcases (Bool.or_eq_true _ _ ▸ h1) with e | e
    · have := eq_of_beq e; subst this; rfl
    · have := eq_of_beq e; subst this; rfl
  · by_cases h2 : (i == -1) = true
    · refine AutoIntOps.pow_2 (by decide) (by decide) h1 h2 (fin _ ?_ _ _)
      have := eq_of_beq h2; subst this; rfl
    · refine AutoIntOps.pow_4 (by decide) (by decide) h1 h2 ?_ (fin _ ?_ _ _)
      · unfold Builtin.Int.intTooBig
        have e : bitsLine = 134217728 := by decide
        intro z
        have z := of_decide_eq_true z
        rw [e] at z
        omega
      · rfl
end

/-- tuples stand -/
def TK (H H' : Hp) : Prop := ∀ b xs, H b = some (.tup xs) → H' b = some (.tup xs)
theorem TK.refl (H : Hp) : TK H H := fun _ _ h => h
theorem TK.trans {H H1 H2 : Hp} (a : TK H H1) (b : TK H1 H2) : TK H H2 := fun c xs h => b c xs (a c xs h)
theorem TK.new {H : Hp} {p : Addr} {o : HO} (h : H p = none) : TK H (upd H p o) := fun b xs q => by rw [upd_ne (ne_of_none q h)]; exact q
theorem TK.lst {H : Hp} {p : Addr} {o : HO} {ys : List V} (h : H p = some (.lst ys)) : TK H (upd H p o) := fun b xs q => by
  rw [upd_ne (ne_of q h (by intro z; cases z))]; exact q
theorem Keep.tk {H H' : Hp} (k : Keep [] H H') : TK H H' := fun b xs q => k b _ q (by simp)
theorem Keep.tk1 {H H' : Hp} {p : Addr} {ys : List V} (k : Keep [p] H H') (h : H p = some (.lst ys)) : TK H H' := fun b xs q => k b _ q (by
  have := ne_of q h (by intro z; cases z)
  simpa using this)

/-! data of tuples: what never changes -/
mutual
inductive TD (H : Hp) : V → PyData → Prop
  | non : TD H .non .none
  | bl (b : Bool) : TD H (.bl b) (.bool b)
  | int (i : Int) : TD H (.int i) (.int i)
  | str (x : Str) : TD H (.str x) (.str x)
  | tup {a : Addr} {xs : List V} {ds : List PyData} : H a = some (.tup xs) → TDs H xs ds → TD H (.ref a) (.tuple ds)
inductive TDs (H : Hp) : List V → List PyData → Prop
  | nil : TDs H [] []
  | cons {v : V} {vs : List V} {d : PyData} {ds : List PyData} : TD H v d → TDs H vs ds → TDs H (v :: vs) (d :: ds)
end
mutual
theorem TD.tk {H H' : Hp} (k : TK H H') : ∀ {d : PyData} {v : V}, TD H v d → TD H' v d
  | _, _, .non => .non
  | _, _, .bl b => .bl b
  | _, _, .int i => .int i
  | _, _, .str x => .str x
  | _, _, .tup h t => .tup (k _ _ h) (TDs.tk k t)
theorem TDs.tk {H H' : Hp} (k : TK H H') : ∀ {ds : List PyData} {vs : List V}, TDs H vs ds → TDs H' vs ds
  | _, _, .nil => .nil
  | _, _, .cons h t => .cons (TD.tk k h) (TDs.tk k t)
end
mutual
theorem TD.dp {K : PySem.W.Frag} {H : Hp} : ∀ {d : PyData} {v : V}, TD H v d → Dp K H v d
  | _, _, .non => .non
  | _, _, .bl b => .bl b
  | _, _, .int i => .int i
  | _, _, .str x => .str x
  | _, _, .tup h t => .tup (SqT.of h) (TDs.dp t)
theorem TDs.dp {K : PySem.W.Frag} {H : Hp} : ∀ {ds : List PyData} {vs : List V}, TDs H vs ds → DpAll K H vs ds
  | _, _, .nil => .nil
  | _, _, .cons h t => .cons (TD.dp h) (TDs.dp t)
end
theorem TDs.length {H : Hp} : ∀ {vs : List V} {ds : List PyData}, TDs H vs ds → vs.length = ds.length
  | _, _, .nil => rfl
  | _, _, .cons _ t => by rw [List.length_cons, List.length_cons, t.length]
theorem TDs.get {H : Hp} : ∀ {vs : List V} {ds : List PyData}, TDs H vs ds → ∀ {i : Nat} {d : PyData}, ds[i]? = some d → ∃ v, vs[i]? = some v ∧ TD H v d
  | _, _, .nil, i, d, e => by simp at e
  | _, _, .cons h t, 0, d, e => by simp at e; subst e; exact ⟨_, rfl, h⟩
  | _, _, .cons h t, i + 1, d, e => by
    obtain ⟨v, h1, h2⟩ := t.get (i := i) (by simpa using e)
    exact ⟨v, by simpa using h1, h2⟩
theorem TDs.append {H : Hp} : ∀ {vs ws : List V} {ds es : List PyData}, TDs H vs ds → TDs H ws es → TDs H (vs ++ ws) (ds ++ es)
  | _, _, _, _, .nil, s => s
  | _, _, _, _, .cons h t, s => .cons h (t.append s)
theorem TDs.take {H : Hp} : ∀ {vs : List V} {ds : List PyData} (n : Nat), TDs H vs ds → TDs H (vs.take n) (ds.take n)
  | _, _, 0, _ => .nil
  | _, _, _ + 1, .nil => .nil
  | _, _, n + 1, .cons h t => .cons h (t.take n)
theorem TDs.reverse {H : Hp} : ∀ {vs : List V} {ds : List PyData}, TDs H vs ds → TDs H vs.reverse ds.reverse
  | _, _, .nil => .nil
  | _, _, .cons h t => by rw [List.reverse_cons, List.reverse_cons]; exact t.reverse.append (.cons h .nil)
theorem TDs.snoc {H : Hp} {vs : List V} {ds : List PyData} {v : V} {d : PyData} (t : TDs H vs ds) (h : TD H v d) : TDs H (vs ++ [v]) (ds ++ [d]) := t.append (.cons h .nil)
theorem TDs.nil_of {H : Hp} {vs : List V} (t : TDs H vs []) : vs = [] := by cases t; rfl
/-! events and views -/
abbrev Ev := Str × List Int
def dEv (e : Ev) : PyData := .tuple (.str e.1 :: e.2.map PyData.int)
def dView (L : List Ev) : PyData := .tuple (L.map dEv)
abbrev Row := List Ev × Int
def dRow (r : Row) : PyData := .tuple [dView r.1, .int r.2]
def dRowO : Option Row → PyData
  | none => .none
  | some r => dRow r
theorem td_ints {H : Hp} : ∀ l : List Int, TDs H (l.map V.int) (l.map PyData.int)
  | [] => .nil
  | a :: r => .cons (.int a) (td_ints r)
def isDid (e : Ev) : Bool := decide (e.1 = "did")
def lastR : List Ev → Option Row
  | [] => none
  | e :: r => if isDid e = true then some (r.reverse, e.2.headD 0) else lastR r
def lastRow (L : List Ev) : Option Row := lastR L.reverse
def rowsR : List Ev → List Row
  | [] => []
  | e :: r => if isDid e = true then rowsR r ++ [(r.reverse, e.2.headD 0)] else rowsR r
theorem rowsR_cons (e : Ev) (r : List Ev) : rowsR (e :: r) = if isDid e = true then rowsR r ++ [(r.reverse, e.2.headD 0)] else rowsR r := rfl
theorem lastR_cons (e : Ev) (r : List Ev) : lastR (e :: r) = if isDid e = true then some (r.reverse, e.2.headD 0) else lastR r := rfl
def allRows (L : List Ev) : List Row := rowsR L.reverse
theorem allRows_snoc (L : List Ev) (e : Ev) : allRows (L ++ [e]) = if isDid e = true then allRows L ++ [(L, e.2.headD 0)] else allRows L := by
  unfold allRows
  rw [List.reverse_append]
  show rowsR (e :: L.reverse) = _
  rw [rowsR, List.reverse_reverse]
theorem lastR_rows : ∀ (R : List Ev), rowsR R = (match lastR R with | none => [] | some (V, k) => rowsR V.reverse ++ [(V, k)])
  | [] => rfl
  | e :: r => by
    rw [rowsR_cons, lastR_cons]
    by_cases h : isDid e = true
    · rw [if_pos h, if_pos h]; simp only [List.reverse_reverse]
    · rw [if_neg h, if_neg h]; exact lastR_rows r
theorem lastRow_rows (L : List Ev) : allRows L = (match lastRow L with | none => [] | some (V, k) => allRows V ++ [(V, k)]) := lastR_rows L.reverse
theorem lastR_len : ∀ (R : List Ev) {V : List Ev} {k : Int}, lastR R = some (V, k) → V.length < R.length
  | [], V, k, h => by cases h
  | e :: r, V, k, h => by
    rw [lastR_cons] at h
    by_cases g : isDid e = true
    · rw [if_pos g] at h
      cases h
      simp
    · rw [if_neg g] at h
      have := lastR_len r h
      simp; omega
theorem lastRow_len {L V : List Ev} {k : Int} (h : lastRow L = some (V, k)) : V.length < L.length := by
  have := lastR_len _ h
  simpa using this
theorem lastRow_last (L : List Ev) : lastRow L = (allRows L).getLast? := by
  rw [lastRow_rows]
  cases h : lastRow L with
  | none => rfl
  | some x => simp
theorem rowsR_take : ∀ (R : List Ev) {j : Nat} {V : List Ev} {k : Int}, (rowsR R)[j]? = some (V, k) → rowsR V.reverse = (rowsR R).take j
  | [], j, V, k, h => by simp [rowsR] at h
  | e :: r, j, V, k, h => by
    rw [rowsR_cons] at h ⊢
    by_cases g : isDid e = true
    · rw [if_pos g] at h ⊢
      by_cases hj : j < (rowsR r).length
      · rw [List.getElem?_append_left hj] at h
        rw [List.take_append_of_le_length (Nat.le_of_lt hj)]
        exact rowsR_take r h
      · have hj' : j = (rowsR r).length := by
          have := (List.getElem?_eq_some_iff.mp h).1
          rw [List.length_append] at this
          simp at this; omega
        subst hj'
        rw [List.getElem?_append_right (Nat.le_refl _), Nat.sub_self] at h
        have e1 : r.reverse = V := congrArg Prod.fst (Option.some.inj h)
        rw [← e1, List.reverse_reverse, List.take_left]
    · rw [if_neg g] at h ⊢
      exact rowsR_take r h
theorem allRows_take {L : List Ev} {j : Nat} {V : List Ev} {k : Int} (h : (allRows L)[j]? = some (V, k)) : allRows V = (allRows L).take j := rowsR_take _ h
theorem rowsR_mem : ∀ (R : List Ev) {V : List Ev} {k : Int}, (V, k) ∈ rowsR R → ∃ M, R.reverse = V ++ M
  | [], V, k, h => by cases h
  | e :: r, V, k, h => by
    rw [rowsR_cons] at h
    rw [List.reverse_cons]
    by_cases g : isDid e = true
    · rw [if_pos g] at h
      rcases List.mem_append.mp h with h | h
      · obtain ⟨M, e1⟩ := rowsR_mem r h
        exact ⟨M ++ [e], by rw [e1, List.append_assoc]⟩
      · have := List.mem_singleton.mp h
        cases this
        exact ⟨[e], rfl⟩
    · rw [if_neg g] at h
      obtain ⟨M, e1⟩ := rowsR_mem r h
      exact ⟨M ++ [e], by rw [e1, List.append_assoc]⟩
theorem allRows_mem {L V : List Ev} {k : Int} (h : (V, k) ∈ allRows L) : ∃ M, L = V ++ M := by
  obtain ⟨M, e⟩ := rowsR_mem _ h
  exact ⟨M, by rw [← e, List.reverse_reverse]⟩
theorem rowsR_len : ∀ R : List Ev, (rowsR R).length ≤ R.length
  | [] => Nat.le_refl _
  | e :: r => by
    have h := rowsR_len r
    rw [rowsR_cons]
    split
    · rw [List.length_append]; simp; omega
    · simp; omega
theorem allRows_len (L : List Ev) : (allRows L).length ≤ L.length := by
  have h := rowsR_len L.reverse
  rw [List.length_reverse] at h
  exact h
/-- every move made tells it -/
def Good (L : List Ev) : Prop := ∀ e ∈ L, isDid e = true → e.2 ≠ []
theorem Good.pre {L V M : List Ev} (g : Good L) (h : L = V ++ M) : Good V := fun e he => g e (by rw [h]; exact List.mem_append_left _ he)
theorem lastRow_pre {L V : List Ev} {k : Int} (h : lastRow L = some (V, k)) : ∃ M, L = V ++ M := by
  refine allRows_mem (k := k) ?_
  rw [lastRow_rows, h]
  simp
def sp_last_row : Sp := fun vs H Q _ => ∃ (v : V) (L : List Ev), vs = [v] ∧ TD H v (dView L) ∧ L.length ≤ 100000 ∧ Good L ∧ ∀ r H', Keep [] H H' → TD H' r (dRowO (lastRow L)) → Q r H'
theorem td_view {H : Hp} {v : V} {ds : List PyData} (h : TD H v (.tuple ds)) : ∃ a xs, v = .ref a ∧ H a = some (.tup xs) ∧ TDs H xs ds := by
  cases h with
  | tup h t => exact ⟨_, _, rfl, h, t⟩

/-! xs[::-1] of a tuple -/
section
open PySem PySem.Spec PyProof.Rows
variable {prog : Program} {w : World} {A : Around} {E : Value → Shared → Prop} {s : Shared}
theorem adjust_rev (n : Nat) : Builtin.Slice.sliceAdjust none none (-1) (n : Int) = ((n : Int) - 1, -1) := rfl
theorem places_rev (n : Nat) : Builtin.Slice.slicePlaces ((n : Int) - 1) (-1) (-1) = n := by
  unfold Builtin.Slice.slicePlaces
  have h1 : ¬ ((-1 : Int) > 0) := by decide
  have h2 : -(-1 : Int) = 1 := rfl
  simp only [h1, if_false, h2, Int.ediv_one]
  split <;> omega
theorem pick_rev (xs : Array Value) : ((List.range xs.size).filterMap fun (m : Nat) => xs[(((xs.size : Int) - 1) + (m : Int) * (-1)).toNat]?).toArray = xs.toList.reverse.toArray := by
  congr 1
  apply List.ext_getElem?
  intro i
  have e : ∀ n, n ≤ xs.size → ((List.range n).filterMap fun (m : Nat) => xs[(((xs.size : Int) - 1) + (m : Int) * (-1)).toNat]?) = (xs.toList.reverse).take n := by
    intro n
    induction n with
    | zero => intro _; rfl
    | succ n ih =>
      intro hn
      have hlt : n < xs.toList.reverse.length := by rw [List.length_reverse, Array.length_toList]; omega
      rw [List.range_succ, List.filterMap_append, ih (by omega), List.take_succ_eq_append_getElem hlt]
      congr 1
      have e1 : (((xs.size : Int) - 1) + (n : Int) * (-1)).toNat = xs.size - 1 - n := by omega
      have e2 : xs[xs.size - 1 - n]? = some (xs.toList.reverse[n]) := by
        rw [List.getElem_reverse, ← Array.getElem?_toList, List.getElem?_eq_getElem (by rw [Array.length_toList]; omega)]
        simp only [Array.length_toList]
      rw [List.filterMap_cons, e1, e2]; rfl
  rw [e _ (Nat.le_refl _), List.take_of_length_le (by rw [List.length_reverse, Array.length_toList]; exact Nat.le_refl _)]
theorem sliceApplied_rev {sl : Addr} {vl vu vs : Value} {n : Nat} {Q : Int × Int × Nat → Shared → Prop} (hs : s.heap.IsSliceOf sl vl vu vs) (pl : IsPart vl none) (pu : IsPart vu none) (ps : IsPart vs (some (-1)))
    (h : Q ((n : Int) - 1, -1, n) s) : wpAny (model prog w) A (Builtin.Slice.sliceApplied (.ref sl) (pure (n : Int))) Q E s := by
  obtain ⟨os, hos, hcs, hds⟩ := id hs
  unfold Builtin.Slice.sliceApplied Builtin.Slice.sliceFields
  refine wpAny_bind (wpAny_bind (wpAny_field hos hds (x := vl) rfl (wpAny_bind (wpAny_field hos hds (x := vu) rfl (wpAny_bind (wpAny_field hos hds (x := vs) rfl (wpAny_pure ?_)))))))
  refine wpAny_bind (HT.slicePart_ ps ?_)
  show wpAny _ _ (if ((-1 : Int) == 0) = true then _ else _) _ _ s
  rw [if_neg (by decide)]
  refine wpAny_bind (HT.slicePart_ pl (wpAny_bind (HT.slicePart_ pu (wpAny_bind (wpAny_pure ?_)))))
  show wpAny _ _ (match Builtin.Slice.sliceAdjust none none (-1) (n : Int) with | (lo, hi) => pure (lo, (-1 : Int), Builtin.Slice.slicePlaces lo hi (-1))) _ _ s
  rw [adjust_rev n]
  show wpAny _ _ (pure ((n : Int) - 1, (-1 : Int), Builtin.Slice.slicePlaces ((n : Int) - 1) (-1) (-1))) _ _ s
  rw [places_rev]
  exact wpAny_pure h
theorem getItem_tuple_rev {t sl : Addr} {items : Array Value} {vl vu vs : Value} {Q : Value → Shared → Prop} (ht : IsTup s.heap t items) (hs : s.heap.IsSliceOf sl vl vu vs) (pl : IsPart vl none) (pu : IsPart vu none) (ps : IsPart vs (some (-1)))
    (h : Q (.ref s.heap.objs.size) { s with heap := s.heap.push { cls := .type "tuple", data := .seq items.toList.reverse.toArray } })
    (hsz : items.size ≤ sizeLine) : wpAny (model prog w) A (getItem (.ref t) (.ref sl)) Q E s := by
  have htake : sizeOk (.seq items.toList.reverse.toArray) := by
    show items.toList.reverse.toArray.size ≤ sizeLine
    rw [List.size_toArray, List.length_reverse, Array.length_toList]
    exact hsz
  obtain ⟨os, hos, hcs, hds⟩ := id hs
  have hTs : s.TypeIs (.ref sl) "slice" := ⟨os, hos, hcs⟩
  unfold getItem
  try with_reducible refine wpAny_holding ?_
  first | refine wpAny_bind (wpAny_pure ?_) | skip
  refine wpAny_bind (wpAny_sequenceKey ht.typeIs (by decide) ?_)
  refine wpAny_bind (wpAny_callSpecial?_slot (name := Str.ofString "__getitem__") ht.typeIs PyProof.Rows.slot_tuple_getitem
    (wpAny_call_entry PyProof.Rows.slot_tuple_getitem ht.typeIs entry_tuple_getitem ?_ (args_tuple_getitem _ _)))
  show wpAny _ _ (Builtin.Tuple.tupleItemsOf (.ref t) >>= _) _ _ s
  refine wpAny_bind (tupleItemsOf_ ht ?_)
  refine wpAny_bind (wpAny_typeOf hTs ?_)
  rw [if_pos (by decide)]
  refine wpAny_bind (sliceApplied_rev hs pl pu ps ?_)
  have hno : ¬ ((((items.size : Int) - 1) == 0 && (-1 : Int) == 1 && items.size == items.size) = true) := by
    intro q
    rw [Bool.and_eq_true, Bool.and_eq_true] at q
    exact absurd (eq_of_beq q.1.2) (by decide)
  show wpAny _ _ (if (((items.size : Int) - 1) == 0 && (-1 : Int) == 1 && items.size == items.size) = true then _ else _) _ _ s
  rw [if_neg hno, pick_rev]
  first
    | exact wpAny_bind (m := Builtin.Tuple.tupleExact _) (wpAny_newObj_type (wpAny_pure ⟨_, rfl, wpAny_pure h⟩) htake)
    | exact wpAny_bind (m := Builtin.Tuple.tupleExact _) (wpAny_newObj_type (wpAny_bind (wpAny_pure (wpAny_pure ⟨_, rfl, wpAny_pure h⟩))) htake)
    | exact wpAny_bind (wpAny_bind (m := Builtin.Tuple.tupleExact _) (wpAny_newObj_type (wpAny_pure (wpAny_pure ⟨_, rfl, wpAny_pure h⟩)) htake))
    | exact wpAny_bind (wpAny_bind (m := Builtin.Tuple.tupleExact _) (wpAny_newObj_type (wpAny_pure ⟨_, rfl, wpAny_pure h⟩) htake))
def tRevT (K : PySem.W.Frag) (te : TE) : TE := fun σ H Q => te σ H fun x H1 => ∃ a xs, x = .ref a ∧ SqT K H1 a xs ∧ ∀ p, H1 p = none → Q (.ref p) (upd H1 p (.tup xs.reverse))
theorem pe_revT {X : Cx} {e : Expr} {te : TE} {k : Nat} {p1 p2 p3 pos : Pos} (he : PE X e te) : PE X (.Subscript e (.Slice none none (some (.UnaryOp .USub (.Constant (.int 1) k p1) p2)) p3) pos) (tRevT X.K te) := by
  refine ⟨fun pins s σ H Q I h => ?_⟩
  refine Subscript_ (thn (he.run pins s σ H _ I h) fun v s1 ⟨x, H1, I1, r1, q1⟩ => ?_)
  obtain ⟨a, xs, ex, hx, q⟩ := q1
  subst ex
  cases r1
  have hst : PO X (some (.UnaryOp .USub (.Constant (.int 1) k p1) p2)) (tPart (tUn (rU fun i => .int (-i)) (tC (.int 1)))) := po_some (pe_un un_neg pe_int)
  refine wpAny_Slice (thn (po_none.run pins s1 σ H1 (fun o H2 => o = none ∧ H2 = H1) I1 ⟨rfl, rfl⟩) fun vl s2 ⟨l, H2, I2, pl, el, e2⟩ => ?_)
  subst el e2
  refine thn (po_none.run pins s2 σ H2 (fun o H3 => o = none ∧ H3 = H2) I2 ⟨rfl, rfl⟩) fun vu s3 ⟨u, H3, I3, pu, eu, e3⟩ => ?_
  subst eu e3
  refine thn (hst.run pins s3 σ H3 (fun o H4 => o = some (-1) ∧ H4 = H3) I3 ⟨1, rfl, -1, rfl, rfl, rfl⟩) fun vs s4 ⟨o, H4, I4, ps, eo, e4⟩ => ?_
  subst eo e4
  have I5 : Inv X pins σ H4 { s4 with heap := s4.heap.push { cls := .type "slice", data := .fields #[vl, vu, vs] } } := I4.kept (t' := s4.toks) fun b ob q => Heap.get?_push_of_some _ q
  obtain ⟨its, r, ht, hz⟩ := I5.tuple hx
  have hlen := r.length
  show wpAny (model X.prog X.w) X.A (subscriptTail e (.Slice none none (some (.UnaryOp .USub (.Constant (.int 1) k p1) p2)) p3) (.ref a) (.ref s4.heap.objs.size)) (EP X pins σ Q) X.xe { s4 with heap := s4.heap.push { cls := .type "slice", data := .fields #[vl, vu, vs] } }
  refine tail_any (ops := [.ref a, .ref s4.heap.objs.size]) ht.typeIs (PyProof.Rows.slot_tuple_getitem.lookup) ?_ (by with_unfolding_all rfl)
  refine getItem_tuple_rev ht (Heap.IsSliceOf.new _ vl vu vs) pl pu ps ?_ (by rw [List.size_toArray]; omega)
  refine ⟨.ref _, _, I5.laid (t' := s4.toks) (o := .tup xs.reverse) (fun b ob q => Heap.get?_push_of_some _ q) (Nat.le_refl _) ?_, rfl, q _ (I5.hok.fresh (Nat.le_refl _))⟩
  exact ⟨by rw [List.length_reverse]; exact hz, _, r.reverse, IsTup.new _ _⟩
end

/-! tuple * int, for any small number -/
section
open PySem PySem.Spec PyProof.Rows
theorem tuple_mul_same (l : Addr) (items : Array Value) (n : Nat) (dd : Option Addr) (sl : Array (Option Value)) (x : Int) (u : Tok) (c0 : (decide (x < -(2 ^ 63)) || decide (x ≥ 2 ^ 63)) = false) (c1 : (items.isEmpty || x == 1) = true) :
    Meets (Builtin.«tuple.__mul__» ⟨[.ref l, .int x u], []⟩) (fun _ R s => s.heap.get? l = some { cls := .type "tuple", dict := dd, data := .seq items n, slots := sl } ∧ R (.ok (.ret (Value.ref l))) s) :=
  .of_wp fun prog w A R s h => by
    obtain ⟨hp, g, d, tk, os⟩ := s
    obtain ⟨hl, h⟩ := h
    have f1 := AutoSeq1.idx_int
    wp_walk using wpAny_loadPart' hl
    repeat (first
      | (refine wpAny_ite_false (decide_eq_false (by rw [c0]; exact Bool.false_ne_true)) ?_; wp_walk using wpAny_loadPart' hl)
      | (refine wpAny_ite_true (decide_eq_true c1) ?_; wp_walk using wpAny_loadPart' hl))
    exact ⟨_, rfl, h⟩
theorem tuple_mul_zero (l : Addr) (items : Array Value) (n : Nat) (dd : Option Addr) (sl : Array (Option Value)) (x : Int) (u : Tok) (c0 : (decide (x < -(2 ^ 63)) || decide (x ≥ 2 ^ 63)) = false) (c1 : (items.isEmpty || x == 1) = false) (c2 : (decide (x ≤ 0) || items.isEmpty) = true) :
    Meets (Builtin.«tuple.__mul__» ⟨[.ref l, .int x u], []⟩) (fun _ R s => s.heap.get? l = some { cls := .type "tuple", dict := dd, data := .seq items n, slots := sl } ∧
      R (.ok (.ret (Value.ref s.heap.objs.size))) { s with heap := s.heap.push { cls := Value.type "tuple", data := Data.seq #[] }, toks := s.toks }) :=
  .of_wp fun prog w A R s h => by
    obtain ⟨hp, g, d, tk, os⟩ := s
    obtain ⟨hl, h⟩ := h
    have f1 := AutoSeq1.idx_int
    wp_walk using wpAny_loadPart' hl
    repeat (first
      | (refine wpAny_ite_false (decide_eq_false (by rw [c0]; exact Bool.false_ne_true)) ?_; wp_walk using wpAny_loadPart' hl)
      | (refine wpAny_ite_false (decide_eq_false (by rw [c1]; exact Bool.false_ne_true)) ?_; wp_walk using wpAny_loadPart' hl)
      | (refine wpAny_ite_true (decide_eq_true c2) ?_; wp_walk using wpAny_loadPart' hl))
    exact ⟨_, rfl, h⟩
def rRepX (K : PySem.W.Frag) : R2 := fun x y H Q => ∃ l k xs, x = .ref l ∧ y = .int k ∧ SqT K H l xs ∧ 0 ≤ k ∧ k ≤ 70000 ∧ xs.length ≤ 100 ∧ (∀ p, H p = none → Q (.ref p) (upd H p (.tup (List.replicate k.toNat xs).flatten))) ∧ ((List.replicate k.toNat xs).flatten = xs → Q (.ref l) H)
theorem op_repX {X : Cx} : OpR X (binaryOp .Mult) (rRepX X.K) := by
  intro pins s σ H x y v u Q I rx ry h
  obtain ⟨l, k, xs, rfl, rfl, hT, h1, h2, hz, q, qs⟩ := h
  cases rx
  obtain ⟨t, rfl⟩ := ry
  obtain ⟨its, r, ⟨⟨cls, dd, data, sl⟩, ho, hc, n, hd⟩, hs⟩ := I.tuple hT
  simp only at hc hd
  subst hc hd
  have hle : its.length = xs.length := r.length.symm
  have hsz0 : its.toArray.size = xs.length := by rw [List.size_toArray, hle]
  have c0 : (decide (k < -(2 ^ 63)) || decide (k ≥ 2 ^ 63)) = false := by
    rw [decide_eq_false (by omega), decide_eq_false (by omega)] <;> rfl
  by_cases hsame : (its.toArray.isEmpty || k == 1) = true
  · have hxs : (List.replicate k.toNat xs).flatten = xs := by
      rw [Bool.or_eq_true] at hsame
      rcases hsame with e | e
      · have : its = [] := by simpa using e
        have hx : xs = [] := List.eq_nil_of_length_eq_zero (by rw [← hle, this]; rfl)
        rw [hx]; simp
      · have : k = 1 := eq_of_beq e
        rw [this]; simp
    refine wpAny_binaryOp_repeat_ref (T := "tuple") (U := "int") (by decide) ⟨_, ho, rfl⟩ (fun s' => typeIs_int s' k t) noFill_tuple_mul F.fills_int_mul F.slot_int_rmul repeat_tuple F.slot_int_index.lookup
      (call_meets F.slot_int_rmul (typeIs_int s k t) F.entry_int_rmul (F.args_int_rmul_2 _ _) (int_rmul_tuple k t l its.toArray n dd sl)
        ⟨ho, rfl, ⟨_, ho, rfl⟩, call_meets F.slot_tuple_mul ⟨_, ho, rfl⟩ F.entry_tuple_mul (F.args_tuple_mul_2 _ _) (tuple_mul_same l its.toArray n dd sl k t c0 hsame) ⟨ho, ?_⟩⟩)
    exact ⟨.ref l, H, I, rfl, qs hxs⟩
  have c1 : (its.toArray.isEmpty || k == 1) = false := by simpa using hsame
  by_cases hk : k ≤ 0
  · have hk0 : k = 0 := by omega
    have c2 : (decide (k ≤ 0) || its.toArray.isEmpty) = true := by rw [decide_eq_true hk]; rfl
    refine wpAny_binaryOp_repeat_ref (T := "tuple") (U := "int") (by decide) ⟨_, ho, rfl⟩ (fun s' => typeIs_int s' k t) noFill_tuple_mul F.fills_int_mul F.slot_int_rmul repeat_tuple F.slot_int_index.lookup
      (call_meets F.slot_int_rmul (typeIs_int s k t) F.entry_int_rmul (F.args_int_rmul_2 _ _) (int_rmul_tuple k t l its.toArray n dd sl)
        ⟨ho, rfl, ⟨_, ho, rfl⟩, call_meets F.slot_tuple_mul ⟨_, ho, rfl⟩ F.entry_tuple_mul (F.args_tuple_mul_2 _ _) (tuple_mul_zero l its.toArray n dd sl k t c0 c1 c2) ⟨ho, ?_⟩⟩)
    have q' := q s.heap.objs.size (I.hok.fresh (Nat.le_refl _))
    rw [hk0] at q'
    refine ⟨.ref s.heap.objs.size, _, I.laid (t' := s.toks) (o := .tup []) (fun b ob q => Heap.get?_push_of_some _ q) (Nat.le_refl _) ?_, rfl, q'⟩
    exact ⟨Nat.zero_le _, [], .nil, IsTup.new _ _⟩
  have hi : its.toArray.isEmpty = false := by
    cases e : its.toArray.isEmpty with
    | false => rfl
    | true => rw [e] at c1; simp at c1
  have hm : ((its.toArray.size : Nat) : Int) * k ≤ 7000000 := by
    rw [hsz0]
    have a1 : ((xs.length : Nat) : Int) * k ≤ 100 * k := Int.mul_le_mul_of_nonneg_right (by omega) (by omega)
    omega
  have flen : (List.replicate k.toNat its).flatten.length ≤ sizeLine := by
    rw [PyProof.Rows.lm_len_rep_flat, hle, sizeLine_eq]
    have a1 : k.toNat * xs.length ≤ 70000 * 100 := Nat.mul_le_mul (by omega) hz
    omega
  have c2 : (decide (k ≤ 0) || its.toArray.isEmpty) = false := by
    rw [hi, Bool.or_false]
    exact decide_eq_false (by omega)
  have c4 : Builtin.Tuple.tupleTooMany (((its.toArray.size : Nat) : Int) * k) = false := by
    unfold Builtin.Tuple.tupleTooMany
    rw [sizeLine_eq]
    exact decide_eq_false (by omega)
  refine wpAny_binaryOp_repeat_ref (T := "tuple") (U := "int") (by decide) ⟨_, ho, rfl⟩ (fun s' => typeIs_int s' k t) noFill_tuple_mul F.fills_int_mul F.slot_int_rmul repeat_tuple F.slot_int_index.lookup
    (call_meets F.slot_int_rmul (typeIs_int s k t) F.entry_int_rmul (F.args_int_rmul_2 _ _) (int_rmul_tuple k t l its.toArray n dd sl)
      ⟨ho, rfl, ⟨_, ho, rfl⟩, call_meets F.slot_tuple_mul ⟨_, ho, rfl⟩ F.entry_tuple_mul (F.args_tuple_mul_2 _ _) (tuple_mulW l its.toArray n dd sl k t c0 c1 c2 (by omega) c4 (by rw [size_rep, List.size_toArray]; exact flen)) ⟨ho, ?_⟩⟩)
  rw [size_rep]
  refine ⟨.ref s.heap.objs.size, _, I.laid (t' := s.toks) (o := .tup (List.replicate k.toNat xs).flatten) (fun b ob q => Heap.get?_push_of_some _ q) (Nat.le_refl _) ?_, rfl, q _ (I.hok.fresh (Nat.le_refl _))⟩
  exact ⟨by rw [PyProof.Rows.lm_len_rep_flat, sizeLine_eq]; have a1 : k.toNat * xs.length ≤ 70000 * 100 := Nat.mul_le_mul (by omega) hz; omega, _, r.rep k.toNat, IsTup.new _ _⟩
end

/-! operators of tuples: what they give, wherever it lies -/
section
variable {X : Cx} {K : PySem.W.Frag}
theorem op_catAK (hK : X.K = K := by rfl) : OpR X (binaryOp .Add) (rCatA K) := hK ▸ op_catA
theorem sl_tupAK (hK : X.K = K := by rfl) : SlR X (rSlA K) := hK ▸ sl_tupA
theorem pe_revTK {e : Expr} {te : TE} {k : Nat} {p1 p2 p3 pos : Pos} (he : L2.PE X e te) (hK : X.K = K := by rfl) : L2.PE X (.Subscript e (.Slice none none (some (.UnaryOp .USub (.Constant (.int 1) k p1) p2)) p3) pos) (tRevT K te) := hK ▸ pe_revT he
end
theorem catA_of {K : PySem.W.Frag} {H : Hp} {a b : Addr} {xs ys : List V} {Q : VK} (ha : H a = some (.tup xs)) (hb : H b = some (.tup ys)) (hl : xs.length + ys.length ≤ 1000000) (q : ∀ r H', H' r = some (.tup (xs ++ ys)) → Keep [] H H' → Q (.ref r) H') : rCatA K (.ref a) (.ref b) H Q := by
  refine ⟨a, b, xs, ys, rfl, rfl, SqT.of ha, SqT.of hb, smallM hl, fun e => ?_, fun _ e => ?_, fun _ _ p np => q p _ upd_same (Keep.new np)⟩
  · exact q b H (by rw [e, List.nil_append]; exact hb) (Keep.refl _ _)
  · exact q a H (by rw [e, List.append_nil]; exact ha) (Keep.refl _ _)
theorem slA_of {K : PySem.W.Frag} {H : Hp} {a : Addr} {xs : List V} {lo hi : Option Int} {Q : VK} (ha : H a = some (.tup xs)) (q : ∀ r H', H' r = some (.tup (cutV xs lo hi)) → Keep [] H H' → Q (.ref r) H') : rSlA K (.ref a) lo hi H Q := by
  refine ⟨a, xs, rfl, SqT.of ha, fun ⟨e1, e2⟩ => ?_, fun _ p np => q p _ upd_same (Keep.new np)⟩
  refine q a H ?_ (Keep.refl _ _)
  unfold cutV
  rw [e1, e2, List.drop_zero, Nat.sub_zero, List.take_length]
  exact ha
theorem repX_of {K : PySem.W.Frag} {H : Hp} {a : Addr} {xs : List V} {k : Int} {Q : VK} (ha : H a = some (.tup xs)) (h0 : 0 ≤ k) (hk : k ≤ 70000) (hl : xs.length ≤ 100) (q : ∀ r H', H' r = some (.tup (List.replicate k.toNat xs).flatten) → Keep [] H H' → Q (.ref r) H') : rRepX K (.ref a) (.int k) H Q :=
  ⟨a, k, xs, rfl, rfl, SqT.of ha, h0, hk, hl, fun p np => q p _ upd_same (Keep.new np), fun e => q a H (by rw [e]; exact ha) (Keep.refl _ _)⟩
theorem revT_of {K : PySem.W.Frag} {H : Hp} {a : Addr} {xs : List V} {Q : VK} (ha : H a = some (.tup xs)) (q : ∀ r H', H' r = some (.tup xs.reverse) → Keep [] H H' → Q (.ref r) H') : ∃ a' ys, V.ref a = .ref a' ∧ SqT K H a' ys ∧ ∀ p, H p = none → Q (.ref p) (upd H p (.tup ys.reverse)) :=
  ⟨a, xs, rfl, SqT.of ha, fun p np => q p _ upd_same (Keep.new np)⟩

theorem calUp {P : Program} {w : World} {K : PySem.W.Frag} {mg : Str → Option Value} {base : Heap} {j k : Nat} {x : Str} {sp : Sp} {dvs : List V} (c : C8.Cal P w K mg base j x sp dvs) (h : j ≤ k) : C8.Cal P w K mg base k x sp dvs := by
  obtain ⟨f, fd, ps, ds, F, hm, kp, b, d⟩ := c.ex
  exact ⟨f, fd, ps, ds, F.mono h, hm, kp, b, d⟩

set_option exponentiation.threshold 100000
/-! the law's fractions: pairs in lowest terms, by Euclid's steps -/
theorem two_halves {x y : Nat} (h : y ≤ x) : y * (x % y) * 2 ≤ x * y := by
  rcases Nat.eq_zero_or_pos y with e | e
  · subst e; simp
  · have h1 : x % y + y ≤ x := by
      have h2 := Nat.div_add_mod x y
      have h3 : 1 ≤ x / y := (Nat.one_le_div_iff e).mpr h
      have h4 : y * 1 ≤ y * (x / y) := Nat.mul_le_mul_left y h3
      omega
    have h2 : x % y < y := Nat.mod_lt _ e
    have h3 : x % y * 2 ≤ x := by omega
    calc y * (x % y) * 2 = y * (x % y * 2) := Nat.mul_assoc ..
      _ ≤ y * x := Nat.mul_le_mul_left y h3
      _ = x * y := Nat.mul_comm ..
def sp_gcd : Sp := fun vs H Q _ => ∃ (n d : Int) (B : Nat), vs = [.int n, .int d] ∧ B ≤ 1000000 ∧ d.natAbs < 2 ^ B ∧ Q (.int ((Nat.gcd n.natAbs d.natAbs : Nat) : Int)) H
/-- num over den in lowest terms -/
def sp_less : Sp := fun vs H Q _ => ∃ (n d : Int), vs = [.int n, .int d] ∧ 0 < d ∧ d.natAbs < 2 ^ 8000 ∧ ∀ t H', H t = none → H' t = some (.tup [.int (redN n d), .int (redD n d)]) → Keep [] H H' → Q (.ref t) H'
theorem red_zero {d : Int} (h : 0 < d) : redN 0 d = 0 ∧ redD 0 d = 1 := by
  have e : sg 0 d = d := by
    unfold sg
    rw [if_neg (by omega)]
    show ((Nat.gcd 0 d.natAbs : Nat) : Int) = d
    rw [Nat.gcd_zero_left]; omega
  unfold redN redD
  rw [e]
  exact ⟨Int.zero_fdiv d, Int.fdiv_self (by omega)⟩
def plR (a b : Int × Int) : Int × Int := if a.1 = 0 then b else if b.1 = 0 then a else (redN (a.1 * b.2 + b.1 * a.2) (a.2 * b.2), redD (a.1 * b.2 + b.1 * a.2) (a.2 * b.2))
def tmR (a b : Int × Int) : Int × Int := (redN (a.1 * b.1) (a.2 * b.2), redD (a.1 * b.1) (a.2 * b.2))
structure FrOk (m : Nat) (r : Int × Int) : Prop where
  pos : 0 < r.2
  n : r.1.natAbs < 2 ^ m
  d : r.2.natAbs < 2 ^ m
def FrAt (H : Hp) (v : V) (r : Int × Int) : Prop := ∃ t, v = .ref t ∧ H t = some (.tup [.int r.1, .int r.2])
theorem FrAt.keep {H H' : Hp} {v : V} {r : Int × Int} (h : FrAt H v r) (k : Keep [] H H') : FrAt H' v r := by
  obtain ⟨t, e, h⟩ := h
  exact ⟨t, e, k _ _ h (by simp)⟩
def sp_plus : Sp := fun vs H Q _ => ∃ (u v : V) (a b : Int × Int), vs = [u, v] ∧ FrAt H u a ∧ FrAt H v b ∧ FrOk 3900 a ∧ FrOk 3900 b ∧ ∀ z H', FrAt H' z (plR a b) → Keep [] H H' → Q z H'
def sp_times : Sp := fun vs H Q _ => ∃ (u v : V) (a b : Int × Int), vs = [u, v] ∧ FrAt H u a ∧ FrAt H v b ∧ FrOk 3900 a ∧ FrOk 3900 b ∧ ∀ z H', FrAt H' z (tmR a b) → Keep [] H H' → Q z H'
theorem dmul_ok {a b : Int × Int} (ha : FrOk 3900 a) (hb : FrOk 3900 b) : 0 < a.2 * b.2 ∧ (a.2 * b.2).natAbs < 2 ^ 8000 := by
  refine ⟨Int.mul_pos ha.pos hb.pos, ?_⟩
  rw [Int.natAbs_mul]
  refine Nat.lt_of_lt_of_le (Nat.mul_lt_mul'' ha.d hb.d) ?_
  rw [← Nat.pow_add]; exact Nat.pow_le_pow_right (by decide) (by decide)
theorem fmul_ok {i j : Int} (h1 : i.natAbs < 2 ^ 3900) (h2 : j.natAbs < 2 ^ 3900) : IntMulOk i j := IntMulOk.of_le (m := 3900) (n := 3900) (intBits_le_iff.mpr h1) (intBits_le_iff.mpr h2) (by decide)
section
variable {P : Program} {w : World} {K : PySem.W.Frag} {mg : Str → Option Value} {base : Heap} {C_Ratio : Addr} {C_Gains : Addr} {C_GameError : Addr} {C_BadEdit : Addr} {C_BadPlan : Addr} {C_BadRatio : Addr} {C_BadText : Addr} {C_TooLarge : Addr} {C_BadGains : Addr} {f_BadGains___init : Addr}
theorem ok_gcd {f : Addr} {fd : FuncData} (D : C8.Def K mg "_law_gcd" s_law_gcd f fd) (b : Binds K fd ["one", "two"] []) (T : Txt K mg C_Ratio C_Gains C_GameError C_BadEdit C_BadPlan C_BadRatio C_BadText C_TooLarge C_BadGains) : C8.Cal P w K mg base 1 "_law_gcd" sp_gcd [] := by
  refine cal0 D b .nil sc_law_gcd (fun vs H Q E h => ?_) (fun cdv A outer s H vs Q E hr h => ?_)
  · obtain ⟨n, d, B, rfl, _⟩ := h
    rfl
  · obtain ⟨n, d, B, rfl, hB, hdb, k⟩ := h
    refine ⟨_, (pss_cons (ps_set (i := 2) sc_law_gcd.nd rfl (by first | exact Or.inl rfl | exact Or.inr rfl) (pe_callB call_abs (by rfl) T.n_abs bo_abs (pa_cons (pv 0) pa_nil)))
(pss_cons (ps_set (i := 3) sc_law_gcd.nd rfl (by first | exact Or.inl rfl | exact Or.inr rfl) (pe_callB call_abs (by rfl) T.n_abs bo_abs (pa_cons (pv 1) pa_nil)))
(pss_cut (ps_for PassesOwn.never rfl (pi_range1 (by rfl) T.n_range (pa_cons (pe_op op_add pe_int (pe_op op_mul pe_int (pe_bits (pv 3)))) pa_nil)) (pg_name (i := 4) sc_law_gcd.nd rfl (by first | exact Or.inl rfl | exact Or.inr rfl))
  (pss_cons (ps_if (pt_cmpR op_eq (pv 3) pe_int (nomark _))
    (pss_one ps_break)
    pss_nil)
  (pss_one (ps_par (i := 2) (j := 3) (by rfl) sc_law_gcd.nd rfl rfl (by decide) rfl rfl (pa_cons (pv 3) (pa_cons (pe_op op_mod (pe_callTy call_int1 (by rfl) T.n_int bo_int (pa_cons (pv 2) pa_nil)) (pv 3)) pa_nil)) (by rfl)))))
(pss_one (ps_ret (pv 2)))))), ?_⟩
    have abs_eq : ∀ z : Int, (if z < 0 then -z else z) = ((z.natAbs : Nat) : Int) := fun z => by split <;> omega
    refine ⟨_, rfl, _, rfl, _, rfl, _, rfl, ?_⟩
    rw [abs_eq, abs_eq]
    obtain ⟨bd, hbd⟩ : ∃ bd, Builtin.Int.intBits ((d.natAbs : Nat) : Int) = bd := ⟨_, rfl⟩
    have hbB : bd ≤ B := by rw [← hbd]; exact intBits_le_iff.mpr (by rw [Int.natAbs_natCast]; exact hdb)
    have hdd : d.natAbs < 2 ^ bd := by
      have := intBits_le_iff.mp (Nat.le_of_eq hbd)
      rwa [Int.natAbs_natCast] at this
    refine ⟨fun σ H' => H' = H ∧ σ[2]? = some (some (.int ((Nat.gcd n.natAbs d.natAbs : Nat) : Int))), ?_, ?_⟩
    · refine ⟨_, rfl, _, rfl, ?_⟩
      rw [hbd]
      refine ⟨_, _, rfl, rfl, .inl (by omega), _, _, rfl, rfl, ?_⟩
      refine ⟨((4000 + 2 * bd : Nat) : Int), by push_cast; rfl, by omega, by omega, for_range (lo := 0) (n := 4000 + 2 * bd) (fun i σ H' => H' = H ∧ ∃ (x y : Nat) (o2 : Option V), σ = [some (.int n), some (.int d), some (.int (x : Int)), some (.int (y : Int)), o2] ∧ Nat.gcd x y = Nat.gcd n.natAbs d.natAbs ∧
          ((i = 0 ∧ x = n.natAbs ∧ y = d.natAbs) ∨ (1 ≤ i ∧ y < x ∧ x * y * 2 ^ (i - 1) < d.natAbs * d.natAbs)))
        ⟨rfl, n.natAbs, d.natAbs, none, rfl, rfl, .inl ⟨rfl, rfl, rfl⟩⟩ ?_ ?_⟩
      · rintro i σ H' hi ⟨rfl, x, y, o2, rfl, hg, hxy⟩
        refine ⟨_, rfl, rfl, _, rfl, iteD (fun e => ?_) (fun e => ?_)⟩
        · have hy : y = 0 := by have := V.int.inj e; omega
          subst hy
          rw [Nat.gcd_zero_right] at hg
          refine ⟨rfl, ?_⟩
          rw [← hg]; rfl
        · have hy : 0 < y := by
            have : ¬ ((y : Nat) : Int) = 0 := fun z => e (congrArg V.int z)
            omega
          refine ⟨_, rfl, _, rfl, .inl ⟨_, rfl, _, rfl, _, _, rfl, rfl, (by show (0 : Int) < _; omega), ?_⟩⟩
          refine ⟨_, _, rfl, rfl, y, x % y, _, rfl, ?_, .inr ⟨by omega, Nat.mod_lt _ hy, ?_⟩⟩
          · rw [Nat.gcd_comm x y, Nat.gcd_rec] at hg
            rw [Nat.gcd_comm]; exact hg
          · rw [Nat.add_sub_cancel]
            rcases hxy with ⟨h0, hx, hyd⟩ | ⟨h1, h2, h3⟩
            · subst h0 hyd
              rw [Nat.pow_zero, Nat.mul_one]
              exact Nat.mul_lt_mul_of_pos_left (Nat.mod_lt _ hy) hy
            · have h4 := two_halves (Nat.le_of_lt h2)
              obtain ⟨j, rfl⟩ : ∃ j, i = j + 1 := ⟨i - 1, by omega⟩
              rw [Nat.add_sub_cancel] at h3
              rw [Nat.pow_succ, Nat.mul_comm (2 ^ j) 2, ← Nat.mul_assoc]
              exact Nat.lt_of_le_of_lt (Nat.mul_le_mul_right _ h4) h3
      · rintro σ H' ⟨rfl, x, y, o2, rfl, hg, hxy⟩
        have hy : y = 0 := by
          rcases Nat.eq_zero_or_pos y with h0 | h0
          · exact h0
          · exfalso
            rcases hxy with ⟨z, _⟩ | ⟨_, h2, h3⟩
            · omega
            · have h4 : 1 ≤ x * y := Nat.mul_pos (by omega) h0
              have h5 : 1 * 2 ^ (4000 + 2 * bd - 1) ≤ x * y * 2 ^ (4000 + 2 * bd - 1) := Nat.mul_le_mul_right _ h4
              have h6 : d.natAbs * d.natAbs < 2 ^ (bd + bd) := by rw [Nat.pow_add]; exact Nat.mul_lt_mul'' hdd hdd
              have h7 : (2 : Nat) ^ (bd + bd) ≤ 2 ^ (4000 + 2 * bd - 1) := Nat.pow_le_pow_right (by decide) (by omega)
              omega
        subst hy
        rw [Nat.gcd_zero_right] at hg
        refine ⟨rfl, ?_⟩
        rw [← hg]; rfl
    · rintro σ H' ⟨rfl, hs⟩
      exact ⟨_, hs, k⟩
theorem ok_less {f : Addr} {fd : FuncData} (D : C8.Def K mg "_law_less" s_law_less f fd) (b : Binds K fd ["num", "den"] []) (T : Txt K mg C_Ratio C_Gains C_GameError C_BadEdit C_BadPlan C_BadRatio C_BadText C_TooLarge C_BadGains) (c_law_gcd : C8.Cal P w K mg base 1 "_law_gcd" sp_gcd []) : C8.Cal P w K mg base 2 "_law_less" sp_less [] := by
  refine cal0 D b .nil sc_law_less (fun vs H Q E h => ?_) (fun cdv A outer s H vs Q E hr h => ?_)
  · obtain ⟨n, d, rfl, _⟩ := h
    rfl
  · obtain ⟨n, d, rfl, hd, hdb, k⟩ := h
    refine ⟨_, (pss_cons (ps_if (pt_cmpR op_eq (pv 0) pe_int (nomark _))
  (pss_one (ps_ret (pe_tup (pa_cons pe_int (pa_cons pe_int pa_nil)))))
  pss_nil)
(pss_cons (ps_set (i := 2) sc_law_less.nd rfl (by first | exact Or.inl rfl | exact Or.inr rfl) (pe_c c_law_gcd hr (by first | exact Nat.le_refl _ | decide | omega) rfl (pa_cons (pv 0) (pa_cons (pv 1) pa_nil))))
(pss_one (ps_ret (pe_tup (pa_cons (pe_op op_fdivG (pv 0) (pv 2)) (pa_cons (pe_op op_fdivG (pv 1) (pv 2)) pa_nil))))))), ?_⟩
    refine ⟨_, rfl, rfl, _, rfl, iteD (fun e => ?_) (fun e => ?_)⟩
    · obtain rfl := V.int.inj e
      refine And.intro (by show 2 ≤ sizeLine; decide) <| fun t nt => k t _ nt ?_ (Keep.new nt)
      rw [(red_zero hd).1, (red_zero hd).2]
      exact upd_same
    · have hsg : sg n d = ((Nat.gcd n.natAbs d.natAbs : Nat) : Int) := by unfold sg; rw [if_neg (by omega)]
      have hs := sg_ne (n := n) (d := d) (by omega)
      have hgb : Nat.gcd n.natAbs d.natAbs < 2 ^ 8000 := Nat.lt_of_le_of_lt (Nat.le_of_dvd (by omega) (Nat.gcd_dvd_right _ _)) hdb
      have hsb : ∀ z, CDivG z (sg n d) := fun z => ⟨hs, by
        refine Nat.lt_trans (log2_lt9 (b := 8000) ?_ (by decide)) (by decide)
        rw [hsg, Int.natAbs_natCast]; exact hgb⟩
      refine ⟨_, rfl, _, rfl, n, d, 8000, rfl, by decide, hdb, ?_⟩
      rw [← hsg]
      refine ⟨_, rfl, _, rfl, _, _, rfl, rfl, hsb n, _, rfl, _, rfl, _, _, rfl, rfl, hsb d, And.intro (by show 2 ≤ sizeLine; decide) <| fun t nt => k t _ nt upd_same (Keep.new nt)⟩
theorem ok_plus {f : Addr} {fd : FuncData} (D : C8.Def K mg "_law_plus" s_law_plus f fd) (b : Binds K fd ["one", "other"] []) (T : Txt K mg C_Ratio C_Gains C_GameError C_BadEdit C_BadPlan C_BadRatio C_BadText C_TooLarge C_BadGains) (c_law_less : C8.Cal P w K mg base 2 "_law_less" sp_less []) : C8.Cal P w K mg base 3 "_law_plus" sp_plus [] := by
  refine cal0 D b .nil sc_law_plus (fun vs H Q E h => ?_) (fun cdv A outer s H vs Q E hr h => ?_)
  · obtain ⟨u, v, a, b, rfl, _⟩ := h
    rfl
  · obtain ⟨u, v, a, b, rfl, ha, hb, oa, ob, k⟩ := h
    refine ⟨_, (pss_cons (ps_if (pt_cmpR op_eq (pe_ix ix_tup (pv 0) pe_int (fun _ _ => rfl)) pe_int (nomark _))
  (pss_one (ps_ret (pv 1)))
  pss_nil)
(pss_cons (ps_if (pt_cmpR op_eq (pe_ix ix_tup (pv 1) pe_int (fun _ _ => rfl)) pe_int (nomark _))
  (pss_one (ps_ret (pv 0)))
  pss_nil)
(pss_one (ps_ret (pe_c c_law_less hr (by first | exact Nat.le_refl _ | decide | omega) rfl (pa_cons (pe_op op_add (pe_op op_mulO (pe_ix ix_tup (pv 0) pe_int (fun _ _ => rfl)) (pe_ix ix_tup (pv 1) pe_int (fun _ _ => rfl))) (pe_op op_mulO (pe_ix ix_tup (pv 1) pe_int (fun _ _ => rfl)) (pe_ix ix_tup (pv 0) pe_int (fun _ _ => rfl)))) (pa_cons (pe_op op_mulO (pe_ix ix_tup (pv 0) pe_int (fun _ _ => rfl)) (pe_ix ix_tup (pv 1) pe_int (fun _ _ => rfl))) pa_nil))))))), ?_⟩
    obtain ⟨p, rfl, hp⟩ := id ha
    obtain ⟨q, rfl, hq⟩ := id hb
    refine ⟨_, rfl, _, _, _, _, rfl, rfl, SqT.of hp, rfl, rfl, _, rfl, iteD (fun e => ?_) (fun e => ?_)⟩
    · refine ⟨_, rfl, k _ _ ?_ (Keep.refl _ _)⟩
      unfold plR
      rw [if_pos (V.int.inj e)]
      exact hb
    have e1 : ¬ a.1 = 0 := fun z => e (by rw [z])
    refine ⟨_, rfl, _, _, _, _, rfl, rfl, SqT.of hq, rfl, rfl, _, rfl, iteD (fun e => ?_) (fun e => ?_)⟩
    · refine ⟨_, rfl, k _ _ ?_ (Keep.refl _ _)⟩
      unfold plR
      rw [if_neg e1, if_pos (V.int.inj e)]
      exact ha
    have e2 : ¬ b.1 = 0 := fun z => e (by rw [z])
    have hd := dmul_ok oa ob
    refine ⟨_, rfl, _, _, _, _, rfl, rfl, SqT.of hp, rfl, _, rfl, _, _, _, _, rfl, rfl, SqT.of hq, rfl, _, _, rfl, rfl, fmul_ok oa.n ob.d, _, rfl, _, _, _, _, rfl, rfl, SqT.of hq, rfl, _, rfl, _, _, _, _, rfl, rfl, SqT.of hp, rfl, _, _, rfl, rfl, fmul_ok ob.n oa.d, _, _, rfl, rfl, ?_⟩
    refine ⟨_, rfl, _, _, _, _, rfl, rfl, SqT.of hp, rfl, _, rfl, _, _, _, _, rfl, rfl, SqT.of hq, rfl, _, _, rfl, rfl, fmul_ok oa.d ob.d, _, _, rfl, hd.1, hd.2, fun t H' nt ht kk => k _ _ ⟨t, rfl, ?_⟩ kk⟩
    unfold plR
    rw [if_neg e1, if_neg e2]
    exact ht
theorem ok_times {f : Addr} {fd : FuncData} (D : C8.Def K mg "_law_times" s_law_times f fd) (b : Binds K fd ["one", "other"] []) (T : Txt K mg C_Ratio C_Gains C_GameError C_BadEdit C_BadPlan C_BadRatio C_BadText C_TooLarge C_BadGains) (c_law_less : C8.Cal P w K mg base 2 "_law_less" sp_less []) : C8.Cal P w K mg base 3 "_law_times" sp_times [] := by
  refine cal0 D b .nil sc_law_times (fun vs H Q E h => ?_) (fun cdv A outer s H vs Q E hr h => ?_)
  · obtain ⟨u, v, a, b, rfl, _⟩ := h
    rfl
  · obtain ⟨u, v, a, b, rfl, ⟨p, rfl, hp⟩, ⟨q, rfl, hq⟩, oa, ob, k⟩ := h
    refine ⟨_, (pss_one (ps_ret (pe_c c_law_less hr (by first | exact Nat.le_refl _ | decide | omega) rfl (pa_cons (pe_op op_mulO (pe_ix ix_tup (pv 0) pe_int (fun _ _ => rfl)) (pe_ix ix_tup (pv 1) pe_int (fun _ _ => rfl))) (pa_cons (pe_op op_mulO (pe_ix ix_tup (pv 0) pe_int (fun _ _ => rfl)) (pe_ix ix_tup (pv 1) pe_int (fun _ _ => rfl))) pa_nil))))), ?_⟩
    have hd := dmul_ok oa ob
    exact ⟨_, rfl, _, _, _, _, rfl, rfl, SqT.of hp, rfl, _, rfl, _, _, _, _, rfl, rfl, SqT.of hq, rfl, _, _, rfl, rfl, fmul_ok oa.n ob.n, _, rfl, _, _, _, _, rfl, rfl, SqT.of hp, rfl, _, rfl, _, _, _, _, rfl, rfl, SqT.of hq, rfl, _, _, rfl, rfl, fmul_ok oa.d ob.d, _, _, rfl, hd.1, hd.2, fun t H' nt ht kk => k _ _ ⟨t, rfl, ht⟩ kk⟩
end

/-- tuples and instances stand -/
def KI (H H' : Hp) : Prop := (∀ b xs, H b = some (.tup xs) → H' b = some (.tup xs)) ∧ ∀ b C dx fs, H b = some (.ins C dx fs) → H' b = some (.ins C dx fs)
theorem KI.of {H H' : Hp} (k : Keep [] H H') : KI H H' := ⟨fun b xs h => k _ _ h (by simp), fun b C dx fs h => k _ _ h (by simp)⟩
theorem KI.trans {H H1 H2 : Hp} (a : KI H H1) (b : KI H1 H2) : KI H H2 := ⟨fun c xs h => b.1 _ _ (a.1 _ _ h), fun c C dx fs h => b.2 _ _ _ _ (a.2 _ _ _ _ h)⟩
theorem KI.lst {H : Hp} {d : Addr} {o : HO} {xs : List V} (hd : H d = some (.lst xs)) : KI H (upd H d o) :=
  ⟨fun b ys h => by rw [upd_ne (ne_of h hd (by intro z; cases z))]; exact h, fun b C dx fs h => by rw [upd_ne (ne_of h hd (by intro z; cases z))]; exact h⟩

/-! tables of two gains -/
def All2 {α : Type} (R : V → α → Prop) (vs : List V) (xs : List α) : Prop := vs.length = xs.length ∧ ∀ (i : Nat) v x, vs[i]? = some v → xs[i]? = some x → R v x
theorem All2.nil {α : Type} {R : V → α → Prop} : All2 R [] [] := ⟨rfl, fun i v x h => by simp at h⟩
theorem All2.mono {α : Type} {R S : V → α → Prop} (f : ∀ v x, R v x → S v x) {vs : List V} {xs : List α} (h : All2 R vs xs) : All2 S vs xs := ⟨h.1, fun i v x a b => f _ _ (h.2 i v x a b)⟩
theorem All2.snoc {α : Type} {R : V → α → Prop} {vs : List V} {xs : List α} {v : V} {x : α} (h : All2 R vs xs) (r : R v x) : All2 R (vs ++ [v]) (xs ++ [x]) := by
  refine ⟨by rw [List.length_append, List.length_append, h.1]; rfl, fun i u y a b => ?_⟩
  by_cases hi : i < vs.length
  · rw [List.getElem?_append_left hi] at a
    rw [List.getElem?_append_left (by rw [← h.1]; exact hi)] at b
    exact h.2 i u y a b
  · rw [List.getElem?_append_right (by omega)] at a
    rw [List.getElem?_append_right (by rw [← h.1]; omega), ← h.1] at b
    cases e : i - vs.length with
    | zero => rw [e] at a b; simp at a b; subst a b; exact r
    | succ j => rw [e] at a; simp at a
theorem All2.get {α : Type} {R : V → α → Prop} {vs : List V} {xs : List α} (h : All2 R vs xs) {i : Nat} {v : V} (e : vs[i]? = some v) : ∃ x, xs[i]? = some x ∧ R v x := by
  have hi := (List.getElem?_eq_some_iff.mp e).1
  have e2 : xs[i]? = some (xs[i]'(by rw [← h.1]; exact hi)) := List.getElem?_eq_getElem (by rw [← h.1]; exact hi)
  exact ⟨_, e2, h.2 i v _ e e2⟩
abbrev Cel := (Int × Int) × (Int × Int)
abbrev Tab := List (List Cel)
def CelAt (C : Addr) (H : Hp) (v : V) (c : Cel) : Prop := ∃ t p q, v = .ref t ∧ H t = some (.tup [.ref p, .ref q]) ∧ RatAt C H p c.1.1 c.1.2 ∧ RatAt C H q c.2.1 c.2.2
def CelIn (C : Addr) (H : Hp) (v : V) (c : Cel) : Prop := ∃ t p q, v = .ref t ∧ (H t = some (.tup [.ref p, .ref q]) ∨ H t = some (.lst [.ref p, .ref q])) ∧ RatAt C H p c.1.1 c.1.2 ∧ RatAt C H q c.2.1 c.2.2
def RwAt (C : Addr) (H : Hp) (v : V) (r : List Cel) : Prop := ∃ t vs, v = .ref t ∧ H t = some (.tup vs) ∧ All2 (CelAt C H) vs r
def RwIn (C : Addr) (H : Hp) (v : V) (r : List Cel) : Prop := ∃ t vs, v = .ref t ∧ H t = some (.lst vs) ∧ All2 (CelIn C H) vs r
def TbAt (C : Addr) (H : Hp) (t : Addr) (tb : Tab) : Prop := ∃ vs, H t = some (.tup vs) ∧ All2 (RwAt C H) vs tb
def TbIn (C : Addr) (H : Hp) (t : Addr) (tb : Tab) : Prop := ∃ vs, H t = some (.lst vs) ∧ All2 (RwIn C H) vs tb
def GnAt (CG CR : Addr) (H : Hp) (g : Addr) (tb : Tab) : Prop := ∃ dx t, H g = some (.ins CG dx [("cells", .ref t)]) ∧ TbAt CR H t tb
theorem RatAt.ki {C p : Addr} {H H' : Hp} {n d : Int} (h : RatAt C H p n d) (k : KI H H') : RatAt C H' p n d := by
  obtain ⟨dx, h⟩ := h
  exact ⟨dx, k.2 _ _ _ _ h⟩
theorem CelAt.ki {C : Addr} {H H' : Hp} (k : KI H H') {v : V} {c : Cel} (h : CelAt C H v c) : CelAt C H' v c := by
  obtain ⟨t, p, q, e, h1, h2, h3⟩ := h
  exact ⟨t, p, q, e, k.1 _ _ h1, h2.ki k, h3.ki k⟩
theorem CelIn.keep {C : Addr} {H H' : Hp} (k : Keep [] H H') {v : V} {c : Cel} (h : CelIn C H v c) : CelIn C H' v c := by
  obtain ⟨t, p, q, e, h1, h2, h3⟩ := h
  exact ⟨t, p, q, e, h1.imp (fun h => k _ _ h (by simp)) (fun h => k _ _ h (by simp)), h2.keep0 k, h3.keep0 k⟩
theorem RwAt.ki {C : Addr} {H H' : Hp} (k : KI H H') {v : V} {r : List Cel} (h : RwAt C H v r) : RwAt C H' v r := by
  obtain ⟨t, vs, e, h1, h2⟩ := h
  exact ⟨t, vs, e, k.1 _ _ h1, h2.mono fun _ _ x => x.ki k⟩
theorem RwIn.keep {C : Addr} {H H' : Hp} (k : Keep [] H H') {v : V} {r : List Cel} (h : RwIn C H v r) : RwIn C H' v r := by
  obtain ⟨t, vs, e, h1, h2⟩ := h
  exact ⟨t, vs, e, k _ _ h1 (by simp), h2.mono fun _ _ x => x.keep k⟩
theorem TbAt.ki {C : Addr} {H H' : Hp} (k : KI H H') {t : Addr} {tb : Tab} (h : TbAt C H t tb) : TbAt C H' t tb := by
  obtain ⟨vs, h1, h2⟩ := h
  exact ⟨vs, k.1 _ _ h1, h2.mono fun _ _ x => x.ki k⟩
theorem TbIn.keep {C : Addr} {H H' : Hp} (k : Keep [] H H') {t : Addr} {tb : Tab} (h : TbIn C H t tb) : TbIn C H' t tb := by
  obtain ⟨vs, h1, h2⟩ := h
  exact ⟨vs, k _ _ h1 (by simp), h2.mono fun _ _ x => x.keep k⟩
theorem GnAt.keep {CG CR g : Addr} {H H' : Hp} {tb : Tab} (h : GnAt CG CR H g tb) (k : Keep [] H H') : GnAt CG CR H' g tb := by
  obtain ⟨dx, t, h1, h2⟩ := h
  exact ⟨dx, t, k _ _ h1 (by simp), h2.ki (KI.of k)⟩
/-- a new instance gets its field -/
theorem RatAt.keepx {C CG x dx p : Addr} {H H' : Hp} {n d : Int} (hx : H x = some (.ins CG dx [])) (k : Keep [x] H H') (h : RatAt C H p n d) : RatAt C H' p n d := by
  obtain ⟨dy, h⟩ := h
  refine ⟨dy, k _ _ h ?_⟩
  intro z
  rw [List.mem_singleton.mp z, hx] at h
  have e := (HO.ins.inj (Option.some.inj h)).2.2
  have := rf_num n d
  rw [← e] at this
  cases this
theorem TbAt.keepx {C CG x dx : Addr} {H H' : Hp} (hx : H x = some (.ins CG dx [])) (k : Keep [x] H H') {t : Addr} {tb : Tab} (h : TbAt C H t tb) : TbAt C H' t tb := by
  have tk : ∀ b xs, H b = some (.tup xs) → H' b = some (.tup xs) := fun b xs hb => k _ _ hb (by simpa using ne_of hb hx (by intro z; cases z))
  obtain ⟨vs, h1, h2⟩ := h
  refine ⟨vs, tk _ _ h1, h2.mono fun _ _ ⟨t, vs, e, h1, h2⟩ => ⟨t, vs, e, tk _ _ h1, h2.mono fun _ _ ⟨t, p, q, e, h1, h2, h3⟩ => ⟨t, p, q, e, tk _ _ h1, h2.keepx hx k, h3.keepx hx k⟩⟩⟩
def okT (tb : Tab) : Bool := (decide (1 ≤ tb.length) && decide (tb.length ≤ 8)) && ((decide (1 ≤ (tb.headD []).length) && decide ((tb.headD []).length ≤ 8)) && tb.all fun r => decide (r.length = (tb.headD []).length))
def sp_gains (CG CR CB : Addr) : Sp := fun vs H Q E => ∃ (x dx a : Addr) (tb : Tab), vs = [.ref x, .ref a] ∧ H x = some (.ins CG dx []) ∧ TbIn CR H a tb ∧ tb.length ≤ 1000 ∧ (∀ r ∈ tb, r.length ≤ 1000) ∧
  (okT tb = true → ∀ H', GnAt CG CR H' x tb → Keep [x] H H' → Q .non H') ∧ (okT tb = false → ∀ d H', H d = none → H' d = some (.xd [(("what" : Str), .str "size")]) → Keep [x] H H' → E (.ref CB) (some d) H')
section
variable {X : Cx} {K : PySem.W.Frag}
theorem call_tuple_ofK (hK : X.K = K := by rfl) : CallR X (.type "tuple") (fun xs H Q => ∃ p ys, xs = [.ref p] ∧ ((SqL K H p ys ∧ ∀ l, H l = none → Q (.ref l) (upd H l (.tup ys))) ∨ (SqT K H p ys ∧ Q (.ref p) H))) := hK ▸ call_tuple_of
theorem pi_listK {tg l : Expr} {tl : TE} (hl : L2.PE X l tl) (hK : X.K = K := by rfl) : PI X tg l (iList K tl) := hK ▸ pi_list hl
end
theorem snoc_take {α : Type} {l : List α} {i : Nat} {x : α} (h : l[i]? = some x) : l.take (i + 1) = l.take i ++ [x] := by
  obtain ⟨h1, h2⟩ := List.getElem?_eq_some_iff.mp h
  rw [List.take_succ_eq_append_getElem h1, h2]
section
variable {P : Program} {w : World} {K : PySem.W.Frag} {mg : Str → Option Value} {base : Heap} {C_Ratio : Addr} {C_Gains : Addr} {C_GameError : Addr} {C_BadEdit : Addr} {C_BadPlan : Addr} {C_BadRatio : Addr} {C_BadText : Addr} {C_TooLarge : Addr} {C_BadGains : Addr} {f_BadGains___init : Addr}
theorem ok_gains {f : Addr} {fd : FuncData} (M : Mk K C_Gains f) (F : C8.Fun K "__init__" "Gains.__init__" s_Gains___init f fd) (b : Binds K fd ["self", "cells"] []) (T : Txt K mg C_Ratio C_Gains C_GameError C_BadEdit C_BadPlan C_BadRatio C_BadText C_TooLarge C_BadGains) (X_BadGains : SupX_BadGains.Txt P K mg "BadGains" C_BadGains f_BadGains___init) : MakX P w K mg base 2 "Gains" C_Gains (sp_gains C_Gains C_Ratio C_BadGains) := by
  refine ⟨f, fd, ["self", "cells"], M, fnx F sc_Gains___init (fun vs H Q E h => ?_) (fun cdv A outer s H vs Q E hr h => ?_), T.m_Gains, b⟩
  · obtain ⟨x, dx, a, tb, rfl, _⟩ := h
    rfl
  · obtain ⟨x, dx, a, tb, rfl, hx, ⟨us, ha, hus⟩, hl1, hl2, k, kE⟩ := h
    refine ⟨_, (pss_cons (ps_fld (pv 0) (pe_callTy call_tuple_of (by rfl) T.n_tuple bo_tuple (pa_cons (pe_lc (own := [("row", 3)]) (g := gName 3) (tt := tYes) rfl sc_Gains___init.nd (pi_list (pv 1)) (blkOk_by (N := ["self", "cells", "width", "row", "cell"]) (sc := fnScope s_Gains___init) (by decide +kernel)) (fun _ _ _ _ _ => pg_name (i := 3) sc_Gains___init.nd rfl (by first | exact Or.inl rfl | exact Or.inr rfl)) (fun _ _ _ _ _ => pts_nil) (fun _ _ _ _ _ => (pe_callTy (call_tuple_ofK (K := K)) (by rfl) T.n_tuple bo_tuple (pa_cons (pe_lc (own := [("cell", 4)]) (g := gName 4) (tt := tYes) rfl sc_Gains___init.nd (pi_listK (K := K) (pv 3)) (blkOk_by (N := ["self", "cells", "width", "row", "cell"]) (sc := ⟨.function, [(".0", .local), ("row", .local), ("tuple", .globalImplicit)], false, false, []⟩) (by decide +kernel)) (fun _ _ _ _ _ => pg_name (i := 4) sc_Gains___init.nd rfl (by first | exact Or.inl rfl | exact Or.inr rfl)) (fun _ _ _ _ _ => pts_nil) (fun _ _ _ _ _ => (pe_callTy (call_tuple_ofK (K := K)) (by rfl) T.n_tuple bo_tuple (pa_cons (pv 4) pa_nil)))) pa_nil)))) pa_nil)) rfl)
(pss_cons (ps_if (pt_not (pt_chain op_le op_le pe_int (pe_callB call_len_seq (by rfl) T.n_len bo_len (pa_cons (pe_fld (pv 0) rfl) pa_nil)) (pe_gc rfl T.v_MOST_MOVES)))
  (pss_one (SupX_BadGains.ps_raiseE rfl X_BadGains hr (takes_of rfl rfl rfl rfl) (pa_cons pe_str pa_nil)))
  pss_nil)
(pss_cons (ps_set (i := 2) sc_Gains___init.nd rfl (by first | exact Or.inl rfl | exact Or.inr rfl) (pe_callB call_len_seq (by rfl) T.n_len bo_len (pa_cons (pe_ix ix_tup (pe_fld (pv 0) rfl) pe_int (fun _ _ => rfl)) pa_nil)))
(pss_one (ps_if (PW.pt (pw_or (pt_not (pt_chain op_le op_le pe_int (pv 2) (pe_gc rfl T.v_MOST_MOVES))) (pw_or1 (pt_val (pe_callB (cr_any rfl) (by rfl) T.n_any bo_any (pa_cons (pe_lc (own := [("row", 3)]) (g := gName 3) (tt := tYes) rfl sc_Gains___init.nd (pi_tup (pe_fld (pv 0) rfl)) (blkOk_by (N := ["self", "cells", "width", "row", "cell"]) (sc := fnScope s_Gains___init) (by decide +kernel)) (fun _ _ _ _ _ => pg_name (i := 3) sc_Gains___init.nd rfl (by first | exact Or.inl rfl | exact Or.inr rfl)) (fun _ _ _ _ _ => pts_nil) (fun _ _ _ _ _ => (pe_cmpR op_ne (pe_callB (call_len_seqK (K := K)) (by rfl) T.n_len bo_len (pa_cons (pv 3) pa_nil)) (pv 2) (nomark _)))) pa_nil))))))
  (pss_one (SupX_BadGains.ps_raiseE rfl X_BadGains hr (takes_of rfl rfl rfl rfl) (pa_cons pe_str pa_nil)))
  pss_nil))))), ?_⟩
    have hul := hus.1
    refine ⟨_, rfl, a, rfl, ⟨_, SqL.of ha⟩, fun D nD => ?_⟩
    refine lc_list (K := K) (a := a) (xs := us) (fun i H' => ∃ vs, H' D = some (.lst vs) ∧ All2 (RwAt C_Ratio H') vs (tb.take i) ∧ Keep [] H H') ⟨[], upd_same, by rw [List.take_zero]; exact .nil, Keep.new nD⟩ (fun i H' _ ⟨_, _, _, kk⟩ => SqL.of (kk _ _ ha (by simp))) ?_ ?_
    · rintro i v H1 hv ⟨vs, hD, hvs, k1⟩
      obtain ⟨r, hr', hrw⟩ := hus.get hv
      obtain ⟨l, cs, rfl, hl, hcs⟩ := hrw.keep k1
      have hcl := hcs.1
      have hil := (List.getElem?_eq_some_iff.mp hr').1
      have hrl := hl2 r (List.mem_of_getElem? hr')
      refine ⟨rfl, yes_then ?_⟩
      refine ⟨_, rfl, l, rfl, ⟨_, SqL.of hl⟩, fun D2 nD2 => ?_⟩
      refine lc_list (K := K) (a := l) (xs := cs) (fun j H' => ∃ ws, H' D2 = some (.lst ws) ∧ All2 (CelAt C_Ratio H') ws (r.take j) ∧ Keep [] H1 H') ⟨[], upd_same, by rw [List.take_zero]; exact .nil, Keep.new nD2⟩ (fun j H' _ ⟨_, _, _, kk⟩ => SqL.of (kk _ _ hl (by simp))) ?_ ?_
      · rintro j u H2 hu ⟨ws, hD2, hws, k2⟩
        obtain ⟨c, hc', hcell⟩ := hcs.get hu
        obtain ⟨t, p, q, rfl, ht, hp, hq⟩ := hcell.keep k2
        have hjl := (List.getElem?_eq_some_iff.mp hc').1
        have hwl := hws.1
        rw [List.length_take] at hwl
        refine ⟨rfl, yes_then ?_⟩
        rcases ht with ht | ht
        · refine ⟨_, rfl, t, _, rfl, .inr ⟨SqT.of ht, ?_⟩⟩
          have ki := KI.lst (o := .lst (ws ++ [.ref t])) hD2
          refine ⟨ws, hD2, smallL (by omega), ws ++ [.ref t], upd_same, ?_, k2.then_own nD2⟩
          rw [snoc_take hc']
          exact (hws.mono fun _ _ z => z.ki ki).snoc ⟨t, p, q, rfl, ki.1 _ _ ht, hp.ki ki, hq.ki ki⟩
        · refine ⟨_, rfl, t, _, rfl, .inl ⟨SqL.of ht, fun t2 nt2 => ?_⟩⟩
          have kt := Keep.new (W := []) (o := .tup [.ref p, .ref q]) nt2
          have hD3 := kt _ _ hD2 (by simp)
          have ki := (KI.of kt).trans (KI.lst (o := .lst (ws ++ [.ref t2])) hD3)
          have kl := KI.lst (o := .lst (ws ++ [.ref t2])) hD3
          refine ⟨ws, hD3, smallL (by omega), ws ++ [.ref t2], upd_same, ?_, (k2.trans kt).then_own nD2⟩
          rw [snoc_take hc']
          exact (hws.mono fun _ _ z => z.ki ki).snoc ⟨t2, p, q, rfl, kl.1 _ _ upd_same, hp.ki ki, hq.ki ki⟩
      · rintro H2 ⟨ws, hD2, hws, k2⟩
        rw [hcl, List.take_length] at hws
        refine ⟨D2, ws, rfl, .inl ⟨SqL.of hD2, fun t nt => ?_⟩⟩
        have kt := k2.trans (Keep.new (W := []) (o := .tup ws) nt)
        have kn := Keep.new (W := []) (o := .tup ws) nt
        have hD3 := kt _ _ hD (by simp)
        have kl := KI.lst (o := .lst (vs ++ [.ref t])) hD3
        have hvl := hvs.1
        rw [List.length_take] at hvl
        refine ⟨vs, hD3, smallL (by omega), vs ++ [.ref t], upd_same, ?_, (k1.trans kt).then_own nD⟩
        rw [snoc_take hr']
        exact (hvs.mono fun _ _ z => z.ki ((KI.of kt).trans kl)).snoc ⟨t, ws, rfl, kl.1 _ _ upd_same, hws.mono fun _ _ z => z.ki ((KI.of kn).trans kl)⟩
    · rintro H1 ⟨vs, hD, hvs, k1⟩
      rw [hul, List.take_length] at hvs
      refine ⟨D, vs, rfl, .inl ⟨SqL.of hD, fun t nt => ?_⟩⟩
      have kn := Keep.new (W := []) (o := .tup vs) nt
      have k2 := k1.trans kn
      have hx2 := k2 _ _ hx (by simp)
      have htb : TbAt C_Ratio (upd H1 t (.tup vs)) t tb := ⟨vs, upd_same, hvs.mono fun _ _ z => z.ki (KI.of kn)⟩
      generalize upd H1 t (.tup vs) = H2 at *
      refine ⟨_, rfl, x, C_Gains, dx, [], rfl, hx2, T.cl_Gains, T.a_Gains_cells, by show 0 < 1000; decide, ?_⟩
      have kx : Keep [x] H2 (upd H2 x (.ins C_Gains dx (putF "cells" (.ref t) []))) := Keep.at_ (by simp)
      have htb3 := htb.keepx hx2 kx
      have hx3 : upd H2 x (.ins C_Gains dx (putF "cells" (.ref t) [])) x = some (.ins C_Gains dx [("cells", .ref t)]) := upd_same
      have k3 : Keep [x] H (upd H2 x (.ins C_Gains dx (putF "cells" (.ref t) []))) := (k2.mono (by simp)).trans kx
      have nx : ∀ d' : Addr, ∀ H' : Hp, Keep [] (upd H2 x (.ins C_Gains dx (putF "cells" (.ref t) []))) H' → H' d' = none → H d' = none := fun d' H' kk nd => by
        cases e : H d' with
        | none => rfl
        | some o =>
          by_cases ex : d' = x
          · subst ex
            have := kk _ _ hx3 (by simp)
            rw [nd] at this; cases this
          · have := kk _ _ (k3 _ _ e (by simpa using ex)) (by simp)
            rw [nd] at this; cases this
      have bad : okT tb = false → ∀ H', Keep [] (upd H2 x (.ins C_Gains dx (putF "cells" (.ref t) []))) H' → ∀ d', H' d' = none → E (.ref C_BadGains) (some d') (upd H' d' (.xd [(("what" : Str), .str "size")])) := fun hb H' kk d' nd =>
        kE hb d' _ (nx d' H' kk nd) upd_same ((k3.trans (kk.mono (by simp))).trans ((Keep.new (W := []) (o := .xd [(("what" : Str), .str "size")]) nd).mono (by simp)))
      generalize upd H2 x (.ins C_Gains dx (putF "cells" (.ref t) [])) = H3 at *
      obtain ⟨vs3, ht3, hvs3⟩ := id htb3
      have hvl := hvs3.1
      refine ⟨_, rfl, x, C_Gains, dx, _, _, rfl, hx3, T.cl_Gains, T.a_Gains_cells, rfl, t, vs3, rfl, .inr (SqT.of ht3), _, _, rfl, rfl, _, rfl, iteD (fun h1 => ?_) (fun h1 => ?_)⟩
      rotate_left
      · refine ⟨_, rfl, iteT ⟨_, rfl, bad ?_ H3 (Keep.refl _ _)⟩⟩
        have : ¬ 1 ≤ tb.length := by omega
        unfold okT
        rw [decide_eq_false this]; rfl
      refine ⟨_, _, rfl, rfl, _, rfl, iteN (fun h2 => ?_) (fun h2 => ?_)⟩
      · refine ⟨_, rfl, bad ?_ H3 (Keep.refl _ _)⟩
        have : ¬ tb.length ≤ 8 := by omega
        unfold okT
        rw [decide_eq_false this, Bool.and_false]; rfl
      have hn1 : 1 ≤ tb.length := by omega
      have hn8 : tb.length ≤ 8 := by omega
      cases tb with
      | nil => simp at hn1
      | cons r0 tb' =>
      cases vs3 with
      | nil => simp at hvl
      | cons v0 vs' =>
      obtain ⟨r, hr', hrw⟩ := hvs3.get (i := 0) (v := v0) rfl
      obtain rfl : r0 = r := by simpa using hr'
      obtain ⟨t0, cs0, rfl, ht0, hcs0⟩ := hrw
      have hc0 := hcs0.1
      refine ⟨_, rfl, x, C_Gains, dx, _, _, rfl, hx3, T.cl_Gains, T.a_Gains_cells, rfl, _, _, _, _, rfl, rfl, SqT.of ht3, atI_nat (j := 0) rfl, t0, cs0, rfl, .inr (SqT.of ht0), ?_⟩
      have ok2 : okT (r0 :: tb') = ((decide (1 ≤ r0.length) && decide (r0.length ≤ 8)) && (r0 :: tb').all fun r => decide (r.length = r0.length)) := by
        unfold okT
        rw [decide_eq_true hn1, decide_eq_true hn8]; rfl
      refine ⟨_, rfl, _, _, rfl, rfl, _, rfl, iteD (fun h3 => ?_) (fun h3 => ?_)⟩
      rotate_left
      · refine ⟨_, rfl, iteT ⟨_, rfl, bad ?_ H3 (Keep.refl _ _)⟩⟩
        have : ¬ 1 ≤ r0.length := by omega
        rw [ok2, decide_eq_false this]; rfl
      refine ⟨_, _, rfl, rfl, _, rfl, iteN (fun h4 => ?_) (fun h4 => ?_)⟩
      · refine ⟨_, rfl, bad ?_ H3 (Keep.refl _ _)⟩
        have : ¬ r0.length ≤ 8 := by omega
        rw [ok2, decide_eq_false this, Bool.and_false]; rfl
      have hw1 : 1 ≤ r0.length := by omega
      have hw8 : r0.length ≤ 8 := by omega
      refine ⟨_, rfl, x, C_Gains, dx, _, _, rfl, hx3, T.cl_Gains, T.a_Gains_cells, rfl, t, rfl, ⟨_, SqT.of ht3⟩, fun D3 nD3 => ?_⟩
      refine lc_tup (K := K) (a := t) (xs := .ref t0 :: vs') (fun i H' => H' D3 = some (.lst ((((r0 :: tb').take i).map fun r => !decide (r.length = r0.length)).map V.bl)) ∧ Keep [] H3 H') ⟨upd_same, Keep.new nD3⟩ (fun i H' _ ⟨_, kk⟩ => SqT.of (kk _ _ ht3 (by simp))) ?_ ?_
      · rintro i v H4 hv ⟨hD3, k4⟩
        obtain ⟨r, hr', hrw⟩ := hvs3.get hv
        obtain ⟨tr, crs, rfl, htr, hcrs⟩ := hrw
        have hil := (List.getElem?_eq_some_iff.mp hr').1
        refine ⟨rfl, yes_then ⟨_, rfl, tr, crs, rfl, .inr (SqT.of (k4 _ _ htr (by simp))), _, rfl, rfl, _, hD3, smallL (by rw [List.length_map, List.length_map, List.length_take]; omega), ?_, k4.then_own nD3⟩⟩
        rw [upd_same, snoc_take hr', List.map_append, List.map_append]
        have e : decide (V.int (crs.length : Nat) = V.int (cs0.length : Nat)) = decide (r.length = r0.length) := by
          rw [hcrs.1, hc0]
          by_cases z : r.length = r0.length
          · rw [z]; simp
          · rw [decide_eq_false z, decide_eq_false (fun y => z (by have := V.int.inj y; omega))]
        rw [e]; rfl
      · rintro H4 ⟨hD3, k4⟩
        rw [hvl, List.take_length] at hD3
        refine ⟨D3, _, rfl, SqL.of hD3, ?_⟩
        have e : ((r0 :: tb').map fun r => !decide (r.length = r0.length)).any id = !((r0 :: tb').all fun r => decide (r.length = r0.length)) := by
          rw [List.any_map, List.not_all_eq_any_not]; rfl
        rw [e]
        refine ⟨_, rfl, iteB (fun z => ?_) (fun z => ?_)⟩
        · refine ⟨_, rfl, bad ?_ H4 k4⟩
          have z : (!((r0 :: tb').all fun r => decide (r.length = r0.length))) = true := z
          rw [Bool.not_eq_true'] at z
          rw [ok2, z, Bool.and_false]
        · have z : (!((r0 :: tb').all fun r => decide (r.length = r0.length))) = false := z
          rw [Bool.not_eq_false'] at z
          refine k (by rw [ok2, z, decide_eq_true hw1, decide_eq_true hw8]; rfl) H4 ⟨dx, t, k4 _ _ hx3 (by simp), htb3.ki (KI.of k4)⟩ (k3.trans (k4.mono (by simp)))
end

/-! == of tables: tuples of tuples of pairs of Ratios, with any answer -/
def sp_req (C : Addr) : Sp := fun vs H Q _ => ∃ (a b : Addr) (n d n' d' : Int), vs = [.ref a, .ref b] ∧ RatAt C H a n d ∧ RatAt C H b n' d' ∧ Q (.bl (decide (n = n' ∧ d = d'))) H
theorem all_range {α : Type} [DecidableEq α] (xs ys : List α) : ((List.range (min xs.length ys.length)).all (fun i => decide (xs[i]? = ys[i]?)) && xs.length == ys.length) = decide (xs = ys) := by
  rw [Bool.eq_iff_iff, Bool.and_eq_true, List.all_eq_true, beq_iff_eq, decide_eq_true_iff]
  constructor
  · rintro ⟨h1, h2⟩
    refine List.ext_getElem? fun i => ?_
    by_cases hi : i < xs.length
    · exact of_decide_eq_true (h1 i (List.mem_range.mpr (by omega)))
    · rw [List.getElem?_eq_none (by omega), List.getElem?_eq_none (by omega)]
  · rintro rfl
    exact ⟨fun i _ => decide_eq_true rfl, rfl⟩
section
variable {X : Cx} {k : Nat} {C : Addr} {A : Around} {pins : List (Addr × Obj)} {s : Shared} {σ : L2.St} {H : Hp}
theorem eqBool_ownB {sp : Sp} {a b dx dy : Addr} {fs gs : List (Str × V)} (c : Own X.prog X.w X.K X.mg X.base k C "__eq__" sp) (sb : Sub X k A) (I : Inv X pins σ H s) (ha : H a = some (.ins C dx fs)) (hb : H b = some (.ins C dy gs)) (r : Bool) (same : a = b → r = true)
    (hsp : sp [.ref a, .ref b] H (fun v H' => v = .bl r ∧ H' = H) C8.E0) : wpAny (model X.prog X.w) A (eqBool (.ref a) (.ref b)) (fun v s' => v = r ∧ Inv X pins σ H s') X.xe s := by
  obtain ⟨f, fd, ps, hs, hf, F, bi⟩ := c.ex
  obtain ⟨mA, J, _⟩ := ins_get I.hok ha
  obtain ⟨mB, J', _⟩ := ins_get I.hok hb
  obtain ⟨od, J, _⟩ := J.look
  obtain ⟨od', J', _⟩ := J'.look
  obtain ⟨m, hF⟩ := I.fr
  unfold eqBool
  refine wpAny_holding ?_
  refine wpAny_ite_split (fun hab => ?_) (fun _ => ?_)
  · have e : r = true := same (by have := eq_of_beq hab; injection this)
    exact wpAny_bind (wpAny_rule (wpAny_pure ⟨e.symm, I⟩))
  · refine wpAny_bind ?_
    refine PySem.W.cmp_K (op := .Eq) (tb := .ref C) sb.room.units0 hF I.ok.mod.kin J J'.type (by simp [PySem.W.notFirst]) hs hf ?_
    refine wpAny_mono (own_call sb I F bi hsp) (fun v s' z => ?_) fun _ _ x => x
    obtain ⟨z, H', I', rz, rfl, rfl⟩ := z
    cases rz
    exact wpAny_truthy_bool ⟨rfl, I'⟩
theorem rat_same {p : Addr} {r r' : Int × Int} (ha : RatAt C H p r.1 r.2) (hb : RatAt C H p r'.1 r'.2) : r = r' := by
  obtain ⟨dx, h1⟩ := ha
  obtain ⟨dy, h2⟩ := hb
  rw [h1] at h2
  have := (HO.ins.inj (Option.some.inj h2)).2.2
  refine Prod.ext ?_ ?_
  · have q := rf_num r.1 r.2
    rw [this, rf_num] at q
    exact (V.int.inj (Option.some.inj q)).symm
  · have q := rf_den r.1 r.2
    rw [this, rf_den] at q
    exact (V.int.inj (Option.some.inj q)).symm
theorem eqBool_rat {a b : Addr} {r r' : Int × Int} (c : Own X.prog X.w X.K X.mg X.base k C "__eq__" (sp_req C)) (sb : Sub X k A) (I : Inv X pins σ H s) (ha : RatAt C H a r.1 r.2) (hb : RatAt C H b r'.1 r'.2) : wpAny (model X.prog X.w) A (eqBool (.ref a) (.ref b)) (fun v s' => v = decide (r = r') ∧ Inv X pins σ H s') X.xe s := by
  obtain ⟨dx, h1⟩ := id ha
  obtain ⟨dy, h2⟩ := id hb
  have e : decide (r.1 = r'.1 ∧ r.2 = r'.2) = decide (r = r') := by
    by_cases z : r = r'
    · subst z; simp
    · rw [decide_eq_false z, decide_eq_false (fun y => z (Prod.ext y.1 y.2))]
  refine eqBool_ownB c sb I h1 h2 _ (fun z => ?_) ⟨a, b, _, _, _, _, rfl, ha, hb, by rw [e], rfl⟩
  subst z
  exact decide_eq_true (rat_same ha hb)
/-- two tuples, by what their items answer -/
theorem eqBool_tB {t t' : Addr} {vs vs' : List V} (sb : Sub X k A) (I : Inv X pins σ H s) (h1 : H t = some (.tup vs)) (h2 : H t' = some (.tup vs')) (e : Nat → Bool) (res : Bool) (he : ((List.range (min vs.length vs'.length)).all e && vs.length == vs'.length) = res) (same : t = t' → res = true)
    (turn : ∀ (i : Nat) v v' u u', vs[i]? = some v → vs'[i]? = some v' → RelV v u → RelV v' u' → ∀ s, Inv X pins σ H s → wpAny (model X.prog X.w) A.in1 (eqBool u u') (fun r s' => r = e i ∧ Inv X pins σ H s') X.xe s) :
    wpAny (model X.prog X.w) A (eqBool (.ref t) (.ref t')) (fun v s' => v = res ∧ Inv X pins σ H s') X.xe s := by
  obtain ⟨its, r1, p1, _⟩ := I.tuple (SqT.of (K := X.K) h1)
  obtain ⟨its2, r2, p2, _⟩ := I.tuple (SqT.of (K := X.K) h2)
  have l1 := r1.length
  have l2 := r2.length
  unfold eqBool
  refine wpAny_holding ?_
  refine wpAny_ite_split (fun hab => ?_) (fun _ => ?_)
  · have q : res = true := same (by have := eq_of_beq hab; injection this)
    exact wpAny_bind (wpAny_rule (wpAny_pure ⟨q.symm, I⟩))
  · refine wpAny_bind ?_
    refine EqB.rc_tupB (items := its.toArray) (items2 := its2.toArray) sb.room.units0 e (fun s' => Inv X pins σ H s') p1 p2 (fun i i1 i2 s' I' => ?_) (fun s' I' => ?_) I
    · have j1 : i < vs.length := by simp at i1; omega
      have j2 : i < vs'.length := by simp at i2; omega
      obtain ⟨u1, e1, ru1⟩ := r1.get (List.getElem?_eq_getElem j1)
      obtain ⟨u2, e2, ru2⟩ := r2.get (List.getElem?_eq_getElem j2)
      have g1 : its.toArray[i] = u1 := by simpa using (List.getElem?_eq_some_iff.mp e1).2
      have g2 : its2.toArray[i] = u2 := by simpa using (List.getElem?_eq_some_iff.mp e2).2
      rw [g1, g2]
      exact turn i _ _ _ _ (List.getElem?_eq_getElem j1) (List.getElem?_eq_getElem j2) ru1 ru2 s' I'
    · refine wpAny_truthy_bool ⟨?_, I'⟩
      rw [← he]
      simp [← l1, ← l2]
theorem eqBool_cel {t t' : V} {u u' : Value} {c c' : Cel} (o : Own X.prog X.w X.K X.mg X.base k C "__eq__" (sp_req C)) (sb : Sub X (k + 1) A) (I : Inv X pins σ H s) (h : CelAt C H t c) (h' : CelAt C H t' c') (ru : RelV t u) (ru' : RelV t' u') : wpAny (model X.prog X.w) A (eqBool u u') (fun v s' => v = decide (c = c') ∧ Inv X pins σ H s') X.xe s := by
  obtain ⟨a, p, q, rfl, h1, h2, h3⟩ := h
  obtain ⟨b, p', q', rfl, g1, g2, g3⟩ := h'
  cases ru
  cases ru'
  refine eqBool_tB sb I h1 g1 (fun i => decide ([c.1, c.2][i]? = [c'.1, c'.2][i]?)) _ ?_ (fun z => ?_) (fun i v v' u u' e1 e2 r1 r2 s' I' => ?_)
  · rw [show (([V.ref p, V.ref q] : List V).length) = [c.1, c.2].length from rfl, show (([V.ref p', V.ref q'] : List V).length) = [c'.1, c'.2].length from rfl, all_range]
    by_cases z : c = c'
    · subst z; simp
    · rw [decide_eq_false z, decide_eq_false]
      intro y
      simp only [List.cons.injEq, and_true] at y
      exact z (Prod.ext y.1 y.2)
  · subst z
    rw [h1] at g1
    have e : [V.ref p, V.ref q] = [V.ref p', V.ref q'] := HO.tup.inj (Option.some.inj g1)
    simp only [List.cons.injEq, V.ref.injEq, and_true] at e
    obtain ⟨rfl, rfl⟩ := e
    exact decide_eq_true (Prod.ext (rat_same h2 g2) (rat_same h3 g3))
  · match i, e1, e2 with
    | 0, e1, e2 =>
      simp at e1 e2
      subst e1 e2
      cases r1
      cases r2
      have := eqBool_rat o sb.in1 I' h2 g2
      simpa using this
    | 1, e1, e2 =>
      simp at e1 e2
      subst e1 e2
      cases r1
      cases r2
      have := eqBool_rat o sb.in1 I' h3 g3
      simpa using this
    | i + 2, e1, e2 => simp at e1
theorem All2.same {α : Type} {R : V → α → Prop} (f : ∀ v x y, R v x → R v y → x = y) {vs : List V} {xs ys : List α} (h : All2 R vs xs) (g : All2 R vs ys) : xs = ys := by
  refine List.ext_getElem? fun i => ?_
  by_cases hi : i < vs.length
  · have e := List.getElem?_eq_getElem hi
    obtain ⟨x, h1, h2⟩ := h.get e
    obtain ⟨y, g1, g2⟩ := g.get e
    rw [h1, g1, f _ _ _ h2 g2]
  · rw [List.getElem?_eq_none (by rw [← h.1]; omega), List.getElem?_eq_none (by rw [← g.1]; omega)]
theorem cel_same {v : V} {c c' : Cel} (h : CelAt C H v c) (h' : CelAt C H v c') : c = c' := by
  obtain ⟨a, p, q, rfl, h1, h2, h3⟩ := h
  obtain ⟨b, p', q', e, g1, g2, g3⟩ := h'
  cases e
  rw [h1] at g1
  have e : [V.ref p, V.ref q] = [V.ref p', V.ref q'] := HO.tup.inj (Option.some.inj g1)
  simp only [List.cons.injEq, V.ref.injEq, and_true] at e
  obtain ⟨rfl, rfl⟩ := e
  exact Prod.ext (rat_same h2 g2) (rat_same h3 g3)
theorem row_same {v : V} {r r' : List Cel} (h : RwAt C H v r) (h' : RwAt C H v r') : r = r' := by
  obtain ⟨a, vs, rfl, h1, h2⟩ := h
  obtain ⟨b, ws, e, g1, g2⟩ := h'
  cases e
  rw [h1] at g1
  obtain rfl : vs = ws := HO.tup.inj (Option.some.inj g1)
  exact All2.same (R := CelAt C H) (fun _ _ _ a b => cel_same a b) h2 g2
theorem eqBool_all {α : Type} [DecidableEq α] {R : V → α → Prop} {t t' : Addr} {vs vs' : List V} {xs ys : List α} (sb : Sub X k A) (I : Inv X pins σ H s) (h1 : H t = some (.tup vs)) (h2 : H t' = some (.tup vs')) (a1 : All2 R vs xs) (a2 : All2 R vs' ys) (same : t = t' → xs = ys)
    (turn : ∀ v v' x y u u', R v x → R v' y → RelV v u → RelV v' u' → ∀ s, Inv X pins σ H s → wpAny (model X.prog X.w) A.in1 (eqBool u u') (fun r s' => r = decide (x = y) ∧ Inv X pins σ H s') X.xe s) :
    wpAny (model X.prog X.w) A (eqBool (.ref t) (.ref t')) (fun v s' => v = decide (xs = ys) ∧ Inv X pins σ H s') X.xe s := by
  refine eqBool_tB sb I h1 h2 (fun i => decide (xs[i]? = ys[i]?)) _ ?_ (fun z => decide_eq_true (same z)) (fun i v v' u u' e1 e2 r1 r2 s' I' => ?_)
  · rw [a1.1, a2.1]
    exact all_range xs ys
  · obtain ⟨x, hx, rx⟩ := a1.get e1
    obtain ⟨y, hy, ry⟩ := a2.get e2
    have := turn v v' x y u u' rx ry r1 r2 s' I'
    have e : decide (xs[i]? = ys[i]?) = decide (x = y) := by
      rw [hx, hy]
      by_cases z : x = y
      · subst z; simp
      · simp [z]
    simpa [e] using this
theorem eqBool_row {t t' : V} {u u' : Value} {r r' : List Cel} (o : Own X.prog X.w X.K X.mg X.base k C "__eq__" (sp_req C)) (sb : Sub X (k + 2) A) (I : Inv X pins σ H s) (h : RwAt C H t r) (h' : RwAt C H t' r') (ru : RelV t u) (ru' : RelV t' u') : wpAny (model X.prog X.w) A (eqBool u u') (fun v s' => v = decide (r = r') ∧ Inv X pins σ H s') X.xe s := by
  obtain ⟨a, vs, rfl, h1, h2⟩ := id h
  obtain ⟨b, ws, rfl, g1, g2⟩ := id h'
  cases ru
  cases ru'
  exact eqBool_all sb I h1 g1 h2 g2 (fun z => by subst z; exact row_same h h') fun v v' x y u u' rx ry q1 q2 s' I' => eqBool_cel o sb.in1 I' rx ry q1 q2
end
/-- == of two tables -/
def rEqTb (C : Addr) : R2 := fun x y H Q => ∃ a b tb tb', x = .ref a ∧ y = .ref b ∧ TbAt C H a tb ∧ TbAt C H b tb' ∧ Q (.bl (decide (tb = tb'))) H
theorem op_eqTb {X : Cx} {k j : Nat} {C : Addr} (o : Own X.prog X.w X.K X.mg X.base k C "__eq__" (sp_req C)) (hr : Room j X.A) (hk : k + 3 ≤ j) : OpR X (compareOp .Eq) (rEqTb C) := by
  intro pins s σ H x y v u Q I rx ry hq
  obtain ⟨a, b, tb, tb', rfl, rfl, ⟨vs, h1, h2⟩, ⟨ws, g1, g2⟩, q⟩ := hq
  cases rx
  cases ry
  have sb : Sub X (k + 3) X.A := ⟨hr.mono hk, rfl⟩
  obtain ⟨its, r1, p1, _⟩ := I.tuple (SqT.of (K := X.K) h1)
  obtain ⟨its2, r2, p2, _⟩ := I.tuple (SqT.of (K := X.K) g1)
  have l1 := r1.length
  have l2 := r2.length
  show wpAny (model X.prog X.w) X.A (richCompare .Eq (.ref a) (.ref b)) (EP X pins σ Q) X.xe s
  refine EqB.rc_tupB (items := its.toArray) (items2 := its2.toArray) sb.room.units0 (fun i => decide (tb[i]? = tb'[i]?)) (fun s' => Inv X pins σ H s') p1 p2 (fun i i1 i2 s' I' => ?_) (fun s' I' => ?_) I
  · have j1 : i < vs.length := by simp at i1; omega
    have j2 : i < ws.length := by simp at i2; omega
    obtain ⟨u1, e1, ru1⟩ := r1.get (List.getElem?_eq_getElem j1)
    obtain ⟨u2, e2, ru2⟩ := r2.get (List.getElem?_eq_getElem j2)
    have k1 : its.toArray[i] = u1 := by simpa using (List.getElem?_eq_some_iff.mp e1).2
    have k2 : its2.toArray[i] = u2 := by simpa using (List.getElem?_eq_some_iff.mp e2).2
    rw [k1, k2]
    obtain ⟨x, hx, rx⟩ := h2.get (List.getElem?_eq_getElem j1)
    obtain ⟨y, hy, ry⟩ := g2.get (List.getElem?_eq_getElem j2)
    have := eqBool_row o sb.in1 I' rx ry ru1 ru2
    have e : decide (tb[i]? = tb'[i]?) = decide (x = y) := by
      rw [hx, hy]
      by_cases z : x = y
      · subst z; simp
      · simp [z]
    simpa [e] using this
  · refine ⟨.bl (decide (tb = tb')), H, I', ?_, q⟩
    have : ((List.range (min its.toArray.size its2.toArray.size)).all (fun i => decide (tb[i]? = tb'[i]?)) && its.toArray.size == its2.toArray.size) = decide (tb = tb') := by
      rw [← all_range tb tb', ← h2.1, ← g2.1]
      simp [← l1, ← l2]
    rw [this]; rfl

/-- an own class whose __init__ raises, where it does not -/
theorem makNr {P : Program} {w : World} {K : PySem.W.Frag} {mg : Str → Option Value} {base : Heap} {k : Nat} {x : Str} {C : Addr} {sp : Sp} (c : MakX P w K mg base k x C sp) : C8.Mak P w K mg base k x C (fun vs H Q _ => sp vs H Q C8.E0) [] := by
  obtain ⟨f, fd, ps, M, F, hm, b⟩ := c.ex
  refine ⟨f, fd, ps, [], M, ⟨fun vs H Q E h => F.len _ _ _ _ h, fun A outer s H args us vs Q E hr e0 hb hv h => codeAny_mono (F.run A outer s H args us vs Q C8.E0 hr e0 hb hv h) fun r s' q => ?_⟩, hm, b, .nil⟩
  cases r with
  | ok f => cases f <;> exact q
  | error e =>
    obtain ⟨_, _, _, _, _, _, _, _, _, _, _, _, z⟩ := q
    exact z.elim
theorem pi_tupK {X : Cx} {K : PySem.W.Frag} {tg l : Expr} {tl : TE} (hl : L2.PE X l tl) (hK : X.K = K := by rfl) : PI X tg l (iTup K tl) := hK ▸ pi_tup hl
def sp_geq (CG CR : Addr) : Sp := fun vs H Q _ => ∃ (a b : Addr) (tb tb' : Tab), vs = [.ref a, .ref b] ∧ GnAt CG CR H a tb ∧ GnAt CG CR H b tb' ∧ Q (.bl (decide (tb = tb'))) H
def sp_width (CG CR : Addr) : Sp := fun vs H Q _ => ∃ (a : Addr) (tb : Tab), vs = [.ref a] ∧ GnAt CG CR H a tb ∧ 1 ≤ tb.length ∧ Q (.int ((tb.headD []).length : Nat)) H
/-- the law's table: tuples of tuples of pairs of pairs of ints -/
def dFr (r : Int × Int) : PyData := .tuple [.int r.1, .int r.2]
def dCel (c : Cel) : PyData := .tuple [dFr c.1, dFr c.2]
def dRw (r : List Cel) : PyData := .tuple (r.map dCel)
def dTb (tb : Tab) : PyData := .tuple (tb.map dRw)
def redT (tb : Tab) : Tab := tb.map fun r => r.map fun c => ((redN c.1.1 c.1.2, redD c.1.1 c.1.2), (redN c.2.1 c.2.2, redD c.2.1 c.2.2))
def okF (r : Int × Int) : Prop := r.2 ≠ 0 ∧ r.2.natAbs < 2 ^ 8000
theorem td_fr {H : Hp} {v : V} {r : Int × Int} (h : TD H v (dFr r)) : ∃ t, v = .ref t ∧ H t = some (.tup [.int r.1, .int r.2]) := by
  unfold dFr at h
  cases h with
  | tup h1 h2 =>
    cases h2 with
    | cons a b =>
      cases a
      cases b with
      | cons c d => cases c; cases d; exact ⟨_, rfl, h1⟩
theorem td_cel {H : Hp} {v : V} {c : Cel} (h : TD H v (dCel c)) : ∃ t p q, v = .ref t ∧ H t = some (.tup [.ref p, .ref q]) ∧ H p = some (.tup [.int c.1.1, .int c.1.2]) ∧ H q = some (.tup [.int c.2.1, .int c.2.2]) := by
  unfold dCel at h
  cases h with
  | tup h1 h2 =>
    cases h2 with
    | cons a b =>
      cases b with
      | cons c d =>
        cases d
        obtain ⟨p, rfl, hp⟩ := td_fr a
        obtain ⟨q, rfl, hq⟩ := td_fr c
        exact ⟨_, p, q, rfl, h1, hp, hq⟩
theorem td_rw {H : Hp} {v : V} {r : List Cel} (h : TD H v (dRw r)) : ∃ t vs, v = .ref t ∧ H t = some (.tup vs) ∧ TDs H vs (r.map dCel) := by
  unfold dRw at h
  cases h with
  | tup h1 h2 => exact ⟨_, _, rfl, h1, h2⟩
def sp_lists (C : Addr) : Sp := fun vs H Q _ => ∃ (a : Addr) (us : List V) (tb : Tab), vs = [.ref a] ∧ H a = some (.tup us) ∧ TDs H us (tb.map dRw) ∧ tb.length ≤ 100 ∧ (∀ r ∈ tb, r.length ≤ 100 ∧ ∀ c ∈ r, okF c.1 ∧ okF c.2) ∧ ∀ l H', H l = none → TbIn C H' l (redT tb) → Keep [] H H' → Q (.ref l) H'
/-- a heap without some places -/
def cutL (H : Hp) (W : List Addr) : Hp := fun b => if b ∈ W then none else H b
theorem cutL_of {H : Hp} {W : List Addr} {b : Addr} {o : HO} (h : H b = some o) (n : b ∉ W) : cutL H W b = some o := by unfold cutL; rw [if_neg n]; exact h
theorem cutL_keep (H : Hp) (W : List Addr) : Keep [] (cutL H W) H := fun b o h _ => by
  unfold cutL at h
  split at h
  · cases h
  · exact h
theorem cutL_step {H H' : Hp} {W : List Addr} (k : ∀ b o, H b = some o → b ∉ W → H' b = some o) : Keep [] (cutL H W) (cutL H' W) := fun b o h _ => by
  unfold cutL at h
  split at h
  · cases h
  · rename_i n
    exact cutL_of (k b o h n) n
theorem cutL_less {H : Hp} {W W' : List Addr} (f : ∀ b ∈ W', b ∈ W) : Keep [] (cutL H W) (cutL H W') := fun b o h _ => by
  unfold cutL at h
  split at h
  · cases h
  · rename_i n
    exact cutL_of h fun z => n (f b z)
section
variable {P : Program} {w : World} {K : PySem.W.Frag} {mg : Str → Option Value} {base : Heap} {C_Ratio : Addr} {C_Gains : Addr} {C_GameError : Addr} {C_BadEdit : Addr} {C_BadPlan : Addr} {C_BadRatio : Addr} {C_BadText : Addr} {C_TooLarge : Addr} {C_BadGains : Addr} {f_BadGains___init : Addr}
theorem tyI {C : Addr} (i : InsC K C) {H : Hp} {p dx : Addr} {fs : List (Str × V)} (h : H p = some (.ins C dx fs)) : TyX K H (.ref p) (.ref C) := .base (.ins h i.cl i.ha i.hn i.htk i.hm)
theorem ok_geq {f : Addr} {fd : FuncData} (me : Meth K C_Gains "__eq__" f) (F : C8.Fun K "__eq__" "Gains.__eq__" s_Gains___eq f fd) (b : Binds K fd ["self", "other"] []) (T : Txt K mg C_Ratio C_Gains C_GameError C_BadEdit C_BadPlan C_BadRatio C_BadText C_TooLarge C_BadGains) (c_Ratio_eq : Own P w K mg base 1 C_Ratio "__eq__" (sp_req C_Ratio)) : Own P w K mg base 5 C_Gains "__eq__" (sp_geq C_Gains C_Ratio) := by
  refine ⟨f, fd, ["self", "other"], me.at_, me.fn, C8.fn0 F sc_Gains___eq (fun vs H Q E h => ?_) (fun cdv A outer s H vs Q E hr h => ?_), b⟩
  · obtain ⟨a, b, tb, tb', rfl, _⟩ := h
    rfl
  · obtain ⟨a, b, tb, tb', rfl, ⟨dx, t, h1, h2⟩, ⟨dy, t', g1, g2⟩, k⟩ := h
    refine ⟨_, (pss_one (ps_ret (pe_and (pe_callB call_isi (by rfl) T.n_isinstance bo_isinstance (pa_cons (pv 1) (pa_cons (pe_glob (v := .ref _) rfl T.m_Gains rfl) pa_nil))) (pe_one (pe_cmpR (op_eqTb c_Ratio_eq hr (by first | decide | omega)) (pe_fld (pv 0) rfl) (pe_fld (pv 1) rfl) (nomark _)))))), ?_⟩
    refine ⟨_, rfl, _, _, _, _, _, rfl, .own _, tyI T.i_Gains g1, kitSelf, _, rfl, iteT ?_⟩
    exact ⟨_, rfl, a, C_Gains, dx, _, _, rfl, h1, T.cl_Gains, T.a_Gains_cells, rfl, _, rfl, b, C_Gains, dy, _, _, rfl, g1, T.cl_Gains, T.a_Gains_cells, rfl, t, t', tb, tb', rfl, rfl, h2, g2, k⟩
theorem ok_width {f : Addr} {fd : FuncData} (M : Meth K C_Gains "width" f) (F : C8.Fun K "width" "Gains.width" s_Gains_width f fd) (b : Binds K fd ["self"] []) (T : Txt K mg C_Ratio C_Gains C_GameError C_BadEdit C_BadPlan C_BadRatio C_BadText C_TooLarge C_BadGains) : C8.Met P w K mg base 1 C_Gains "width" (sp_width C_Gains C_Ratio) [] := by
  refine met0 T.cl_Gains M F b sc_Gains_width (fun vs H Q E h => ?_) (fun cdv A outer s H vs Q E hr h => ?_)
  · obtain ⟨a, tb, rfl, _⟩ := h
    rfl
  · obtain ⟨a, tb, rfl, ⟨dx, t, h1, vs, h2, h3⟩, hn, k⟩ := h
    refine ⟨_, (pss_one (ps_ret (pe_callB call_len_seq (by rfl) T.n_len bo_len (pa_cons (pe_ix ix_tup (pe_fld (pv 0) rfl) pe_int (fun _ _ => rfl)) pa_nil)))), ?_⟩
    have hvl := h3.1
    cases tb with
    | nil => simp at hn
    | cons r0 tb' =>
    cases vs with
    | nil => simp at hvl
    | cons v0 vs' =>
    obtain ⟨r, hr', hrw⟩ := h3.get (i := 0) (v := v0) rfl
    obtain rfl : r0 = r := by simpa using hr'
    obtain ⟨t0, cs0, rfl, ht0, hcs0⟩ := hrw
    refine ⟨_, rfl, a, C_Gains, dx, _, _, rfl, h1, T.cl_Gains, T.a_Gains_cells, rfl, _, _, _, _, rfl, rfl, SqT.of h2, atI_nat (j := 0) rfl, t0, cs0, rfl, .inr (SqT.of ht0), ?_⟩
    rw [hcs0.1]
    exact k
theorem ok_lists {f : Addr} {fd : FuncData} (D : C8.Def K mg "_law_lists" s_law_lists f fd) (b : Binds K fd ["table"] []) (T : Txt K mg C_Ratio C_Gains C_GameError C_BadEdit C_BadPlan C_BadRatio C_BadText C_TooLarge C_BadGains) (c_Ratio2 : C8.Mak P w K mg base 1 "Ratio" C_Ratio (sp_rat C_Ratio) []) : C8.Cal P w K mg base 3 "_law_lists" (sp_lists C_Ratio) [] := by
  refine cal0 D b .nil sc_law_lists (fun vs H Q E h => ?_) (fun cdv A outer s H vs Q E hr h => ?_)
  · obtain ⟨a, us, tb, rfl, _⟩ := h
    rfl
  · obtain ⟨a, us, tb, rfl, ha, hus, hl, hr0, k⟩ := h
    refine ⟨_, (pss_one (ps_ret (pe_lc (own := [("row", 1)]) (g := gName 1) (tt := tYes) rfl sc_law_lists.nd (pi_tup (pv 0)) (blkOk_by (N := ["table", "row", "one", "two"]) (sc := fnScope s_law_lists) (by decide +kernel)) (fun _ _ _ _ _ => pg_name (i := 1) sc_law_lists.nd rfl (by first | exact Or.inl rfl | exact Or.inr rfl)) (fun _ _ _ _ _ => pts_nil) (fun _ _ _ _ _ => (pe_lc (own := [("one", 2), ("two", 3)]) (g := (gTup K 2 (gCons (gName 2) (gCons (gName 3) gNil)))) (tt := tYes) rfl sc_law_lists.nd (pi_tupK (K := K) (pv 1)) (blkOk_by (N := ["table", "row", "one", "two"]) (sc := ⟨.function, [(".0", .local), ("row", .local)], false, false, []⟩) (by decide +kernel)) (fun _ _ _ _ _ => pg_tupK (K := K) (n := 2) (t := (gCons (gName 2) (gCons (gName 3) gNil))) (pgs_cons (pg_name (i := 2) sc_law_lists.nd rfl (by first | exact Or.inl rfl | exact Or.inr rfl)) (pgs_cons (pg_name (i := 3) sc_law_lists.nd rfl (by first | exact Or.inl rfl | exact Or.inr rfl)) pgs_nil))) (fun _ _ _ _ _ => pts_nil) (fun _ _ _ _ _ => (pe_lst (pa_cons (pe_mk c_Ratio2 hr (by first | exact Nat.le_refl _ | decide | omega) rfl (pa_cons (pe_ix (ix_tupK (K := K)) (pv 2) pe_int (fun _ _ => rfl)) (pa_cons (pe_ix (ix_tupK (K := K)) (pv 2) pe_int (fun _ _ => rfl)) pa_nil))) (pa_cons (pe_mk c_Ratio2 hr (by first | exact Nat.le_refl _ | decide | omega) rfl (pa_cons (pe_ix (ix_tupK (K := K)) (pv 3) pe_int (fun _ _ => rfl)) (pa_cons (pe_ix (ix_tupK (K := K)) (pv 3) pe_int (fun _ _ => rfl)) pa_nil))) pa_nil))))))))), ?_⟩
    have hul := hus.length
    rw [List.length_map] at hul
    refine ⟨_, rfl, a, rfl, ⟨_, SqT.of ha⟩, fun D1 nD => ?_⟩
    refine lc_tup (K := K) (a := a) (xs := us) (fun i H' => ∃ vs, H' D1 = some (.lst vs) ∧ All2 (RwIn C_Ratio (cutL H' [D1])) vs (redT (tb.take i)) ∧ Keep [] H H') ⟨[], upd_same, by rw [List.take_zero]; exact .nil, Keep.new nD⟩ (fun i H' _ ⟨_, _, _, kk⟩ => SqT.of (kk _ _ ha (by simp))) ?_ ?_
    · rintro i v H1 hv ⟨vs, hD, hvs, k1⟩
      have hil := (List.getElem?_eq_some_iff.mp hv).1
      obtain ⟨r, hri⟩ : ∃ r, tb[i]? = some r := ⟨_, List.getElem?_eq_getElem (by omega)⟩
      obtain ⟨v', hv', hvd⟩ := (hus.tk k1.tk).get (i := i) (d := dRw r) (by rw [List.getElem?_map, hri]; rfl)
      rw [hv] at hv'
      cases hv'
      obtain ⟨rt, rvs, rfl, hrt, hrv⟩ := td_rw hvd
      have hrl := hrv.length
      rw [List.length_map] at hrl
      have hrb := hr0 r (List.mem_of_getElem? hri)
      have hvl := hvs.1
      have hrtl : (redT (tb.take i)).length = i := by unfold redT; rw [List.length_map, List.length_take]; omega
      refine ⟨rfl, yes_then ?_⟩
      refine ⟨_, rfl, rt, rfl, ⟨_, SqT.of hrt⟩, fun D2 nD2 => ?_⟩
      have n12 : D1 ≠ D2 := ne_of_none hD nD2
      refine lc_tup (K := K) (a := rt) (xs := rvs) (fun j H' => ∃ ws, H' D2 = some (.lst ws) ∧ All2 (CelIn C_Ratio (cutL H' [D1, D2])) ws ((r.take j).map fun c => ((redN c.1.1 c.1.2, redD c.1.1 c.1.2), (redN c.2.1 c.2.2, redD c.2.1 c.2.2))) ∧ Keep [] H1 H') ⟨[], upd_same, by rw [List.take_zero]; exact .nil, Keep.new nD2⟩ (fun j H' _ ⟨_, _, _, kk⟩ => SqT.of (kk _ _ hrt (by simp))) ?_ ?_
      · rintro j u H2 hu ⟨ws, hD2, hws, k2⟩
        have hjl := (List.getElem?_eq_some_iff.mp hu).1
        obtain ⟨c, hcj⟩ : ∃ c, r[j]? = some c := ⟨_, List.getElem?_eq_getElem (by omega)⟩
        obtain ⟨u', hu', hud⟩ := (hrv.tk k2.tk).get (i := j) (d := dCel c) (by rw [List.getElem?_map, hcj]; rfl)
        rw [hu] at hu'
        cases hu'
        obtain ⟨ct, p, q, rfl, hct, hp, hq⟩ := td_cel hud
        obtain ⟨⟨o1, o2⟩, o3, o4⟩ := hrb.2 c (List.mem_of_getElem? hcj)
        have hwl := hws.1
        rw [List.length_map, List.length_take] at hwl
        refine ⟨ct, _, rfl, SqT.of hct, rfl, _, _, rfl, _, _, rfl, rfl, rfl, yes_then ?_⟩
        refine ⟨_, rfl, _, _, _, _, rfl, rfl, SqT.of hp, rfl, _, rfl, _, _, _, _, rfl, rfl, SqT.of hp, rfl, fun x1 dx1 nx1 ndx1 ne1 => ⟨x1, dx1, c.1.1, c.1.2, rfl, o1, o2, upd_same, fun H3 K3 hx3 => ⟨rfl, ?_⟩⟩⟩
        have km1 := keep_made nx1 ndx1 K3
        refine ⟨_, rfl, _, _, _, _, rfl, rfl, SqT.of (km1 _ _ hq (by simp)), rfl, _, rfl, _, _, _, _, rfl, rfl, SqT.of (km1 _ _ hq (by simp)), rfl, fun x2 dx2 nx2 ndx2 ne2 => ⟨x2, dx2, c.2.1, c.2.2, rfl, o3, o4, upd_same, fun H4 K4 hx4 => ⟨rfl, ?_⟩⟩⟩
        have km2 := keep_made nx2 ndx2 K4
        have km := km1.trans km2
        refine And.intro (by show 2 ≤ sizeLine; decide) <| fun t nt => ?_
        have kt := Keep.new (W := []) (o := .lst [.ref x1, .ref x2]) nt
        have kk := km.trans kt
        have hD5 := kk _ _ hD2 (by simp)
        have hD15 := (k2.trans kk) _ _ hD (by simp)
        have tD1 : t ≠ D1 := (ne_of_none ((k2.trans km) _ _ hD (by simp)) nt).symm
        have tD2 : t ≠ D2 := (ne_of_none (km _ _ hD2 (by simp)) nt).symm
        have x1n : x1 ∉ [D1, D2] := by
          intro z
          rcases List.mem_cons.mp z with e | z
          · rw [e, k2 _ _ hD (by simp)] at nx1; cases nx1
          · rw [List.mem_singleton.mp z, hD2] at nx1; cases nx1
        have x2n : x2 ∉ [D1, D2] := by
          intro z
          rcases List.mem_cons.mp z with e | z
          · rw [e, (k2.trans km1) _ _ hD (by simp)] at nx2; cases nx2
          · rw [List.mem_singleton.mp z, km1 _ _ hD2 (by simp)] at nx2; cases nx2
        have hx35 := kt _ _ (km2 _ _ hx3 (by simp)) (by simp)
        have hx45 := kt _ _ hx4 (by simp)
        have ht5 : upd H4 t (.lst [.ref x1, .ref x2]) t = some (.lst [.ref x1, .ref x2]) := upd_same
        generalize upd H4 t (.lst [.ref x1, .ref x2]) = H5 at *
        have up : ∀ b o, b ∉ [D1, D2] → H5 b = some o → upd H5 D2 (.lst (ws ++ [.ref t])) b = some o := fun b o n h => by rw [upd_ne (fun e => n (by rw [e]; simp))]; exact h
        have tn : t ∉ [D1, D2] := by simp; exact ⟨tD1, tD2⟩
        refine ⟨ws, hD5, smallL (by omega), ws ++ [.ref t], upd_same, ?_, (k2.trans kk).then_own nD2⟩
        rw [snoc_take hcj, List.map_append]
        refine (hws.mono fun _ _ z => z.keep (cutL_step fun b o h n => up b o n (kk _ _ h (by simp)))).snoc ⟨t, x1, x2, rfl, .inr (cutL_of (up _ _ tn ht5) tn), ⟨dx1, cutL_of (up _ _ x1n hx35) x1n⟩, ⟨dx2, cutL_of (up _ _ x2n hx45) x2n⟩⟩
      · rintro H2 ⟨ws, hD2, hws, k2⟩
        rw [hrl, List.take_length] at hws
        have hD1 := k2 _ _ hD (by simp)
        have up : ∀ b o, b ∉ [D1] → H2 b = some o → upd H2 D1 (.lst (vs ++ [.ref D2])) b = some o := fun b o n h => by rw [upd_ne (fun e => n (by rw [e]; simp))]; exact h
        have dn : D2 ∉ [D1] := by simpa using n12.symm
        refine ⟨vs, hD1, smallL (by omega), vs ++ [.ref D2], upd_same, ?_, (k1.trans k2).then_own nD⟩
        have et : redT (tb.take (i + 1)) = redT (tb.take i) ++ [r.map fun c => ((redN c.1.1 c.1.2, redD c.1.1 c.1.2), (redN c.2.1 c.2.2, redD c.2.1 c.2.2))] := by unfold redT; rw [snoc_take hri, List.map_append]; rfl
        rw [et]
        refine (hvs.mono fun _ _ z => z.keep (cutL_step fun b o h n => up b o n (k2 _ _ h (by simp)))).snoc ⟨D2, ws, rfl, cutL_of (up _ _ dn hD2) dn, hws.mono fun _ _ z => z.keep ?_⟩
        exact (cutL_less (W' := [D1]) fun b hb => by rw [List.mem_singleton.mp hb]; simp).trans (cutL_step fun b o h n => up b o n h)
    · rintro H1 ⟨vs, hD, hvs, k1⟩
      rw [hul, List.take_length] at hvs
      exact k D1 H1 nD ⟨vs, hD, hvs.mono fun _ _ z => z.keep (cutL_keep _ _)⟩ k1
end

theorem Keep.made {H : Hp} {x d : Addr} {o : HO} (hx : H x = none) (hd : H d = none) : Keep [] H (upd (upd H d (.own x)) x o) := fun b u q _ => by
  rw [upd_ne (ne_of_none q hx), upd_ne (ne_of_none q hd)]; exact q
/-! the turned table -/
def swC (c : Cel) : Cel := (c.2, c.1)
def c0 : Cel := ((0, 1), (0, 1))
def turnT (tb : Tab) : Tab := (List.range (tb.headD []).length).map fun j => tb.map fun r => swC (r.getD j c0)
theorem okT_iff {tb : Tab} (h : okT tb = true) : 1 ≤ tb.length ∧ tb.length ≤ 8 ∧ 1 ≤ (tb.headD []).length ∧ (tb.headD []).length ≤ 8 ∧ ∀ r ∈ tb, r.length = (tb.headD []).length := by
  unfold okT at h
  simp only [Bool.and_eq_true, decide_eq_true_eq, List.all_eq_true] at h
  exact ⟨h.1.1, h.1.2, h.2.1.1, h.2.1.2, h.2.2⟩
theorem turnT_len (tb : Tab) : (turnT tb).length = (tb.headD []).length := by unfold turnT; rw [List.length_map, List.length_range]
theorem turnT_row {tb : Tab} : ∀ r ∈ turnT tb, r.length = tb.length := fun r hr => by
  obtain ⟨j, _, rfl⟩ := List.mem_map.mp hr
  rw [List.length_map]
theorem okT_turn {tb : Tab} (h : okT tb = true) : okT (turnT tb) = true := by
  obtain ⟨h1, h2, h3, h4, h5⟩ := okT_iff h
  have hd : ((turnT tb).headD []).length = tb.length := by
    cases e : turnT tb with
    | nil =>
      have h := turnT_len tb
      rw [e] at h
      change 0 = _ at h
      omega
    | cons a b => exact turnT_row a (by rw [e]; exact List.mem_cons_self ..)
  unfold okT
  simp only [Bool.and_eq_true, decide_eq_true_eq, List.all_eq_true]
  rw [hd, turnT_len]
  exact ⟨⟨h3, h4⟩, ⟨h1, h2⟩, fun r hr => turnT_row r hr⟩
def sp_turned (CG CR : Addr) : Sp := fun vs H Q _ => ∃ (g : Addr) (tb : Tab), vs = [.ref g] ∧ GnAt CG CR H g tb ∧ okT tb = true ∧ ∀ x H', H x = none → GnAt CG CR H' x (turnT tb) → Keep [] H H' → Q (.ref x) H'
section
variable {P : Program} {w : World} {K : PySem.W.Frag} {mg : Str → Option Value} {base : Heap} {C_Ratio : Addr} {C_Gains : Addr} {C_GameError : Addr} {C_BadEdit : Addr} {C_BadPlan : Addr} {C_BadRatio : Addr} {C_BadText : Addr} {C_TooLarge : Addr} {C_BadGains : Addr} {f_BadGains___init : Addr}
theorem ok_turned {f : Addr} {fd : FuncData} (D : C8.Def K mg "turned" s_turned f fd) (b : Binds K fd ["gains"] []) (T : Txt K mg C_Ratio C_Gains C_GameError C_BadEdit C_BadPlan C_BadRatio C_BadText C_TooLarge C_BadGains) (c_Gains : C8.Mak P w K mg base 2 "Gains" C_Gains (fun vs H Q _ => sp_gains C_Gains C_Ratio C_BadGains vs H Q C8.E0) []) (c_Gains_width : C8.Met P w K mg base 1 C_Gains "width" (sp_width C_Gains C_Ratio) []) : C8.Cal P w K mg base 4 "turned" (sp_turned C_Gains C_Ratio) [] := by
  refine cal0 D b .nil sc_turned (fun vs H Q E h => ?_) (fun cdv A outer s H vs Q E hr h => ?_)
  · obtain ⟨g, tb, rfl, _⟩ := h
    rfl
  · obtain ⟨g, tb, rfl, hG, hok, k⟩ := h
    refine ⟨_, (pss_cons (ps_set (i := 1) sc_turned.nd rfl (by first | exact Or.inl rfl | exact Or.inr rfl) (pe_fld (pv 0) rfl))
(pss_one (ps_ret (pe_mk c_Gains hr (by first | exact Nat.le_refl _ | decide | omega) rfl (pa_cons (pe_lc (own := [("at", 2)]) (g := gName 2) (tt := tYes) rfl sc_turned.nd (pi_range1 (by rfl) T.n_range (pa_cons (pe_mt0 c_Gains_width hr (by first | exact Nat.le_refl _ | decide | omega) (pv 0)) pa_nil)) (blkOk_by (N := ["gains", "cells", "at", "row"]) (sc := fnScope s_turned) (by decide +kernel)) (fun _ _ _ _ _ => pg_name (i := 2) sc_turned.nd rfl (by first | exact Or.inl rfl | exact Or.inr rfl)) (fun _ _ _ _ _ => pts_nil) (fun _ _ _ _ _ => (pe_lc (own := [("row", 3)]) (g := gName 3) (tt := tYes) rfl sc_turned.nd (pi_tupK (K := K) (pv 1)) (blkOk_by (N := ["gains", "cells", "at", "row"]) (sc := _) (by rfl)) (fun _ _ _ _ _ => pg_name (i := 3) sc_turned.nd rfl (by first | exact Or.inl rfl | exact Or.inr rfl)) (fun _ _ _ _ _ => pts_nil) (fun _ _ _ _ _ => (pe_tup (pa_cons (pe_ix (ix_tupK (K := K)) (pe_ix (ix_tupK (K := K)) (pv 3) (pv 2) (fun _ _ => rfl)) pe_int (fun _ _ => rfl)) (pa_cons (pe_ix (ix_tupK (K := K)) (pe_ix (ix_tupK (K := K)) (pv 3) (pv 2) (fun _ _ => rfl)) pe_int (fun _ _ => rfl)) pa_nil))))))) pa_nil))))), ?_⟩
    obtain ⟨dx, t, h1, us, h2, h3⟩ := id hG
    obtain ⟨o1, o2, o3, o4, o5⟩ := okT_iff hok
    have hul := h3.1
    refine ⟨_, rfl, g, C_Gains, dx, _, _, rfl, h1, T.cl_Gains, T.a_Gains_cells, rfl, ?_⟩
    refine ⟨_, rfl, g, dx, _, rfl, h1, rfl, g, tb, rfl, hG, o1, _, rfl, by omega, by omega, fun D1 nD => ?_⟩
    refine lc_range (lo := 0) (n := (tb.headD []).length) (fun i H' => ∃ vs, H' D1 = some (.lst vs) ∧ All2 (RwIn C_Ratio (cutL H' [D1])) vs ((turnT tb).take i) ∧ Keep [] H H') ⟨[], upd_same, by rw [List.take_zero]; exact .nil, Keep.new nD⟩ ?_ ?_
    · rintro i H1 hi ⟨vs, hD, hvs, k1⟩
      have e0 : (0 : Int) + (i : Int) = (i : Int) := by omega
      rw [e0]
      have hvl := hvs.1
      rw [List.length_take, turnT_len] at hvl
      refine ⟨rfl, yes_then ?_⟩
      have ht1 := k1 _ _ h2 (by simp)
      refine ⟨_, rfl, t, rfl, ⟨_, SqT.of ht1⟩, fun D2 nD2 => ?_⟩
      have n12 : D1 ≠ D2 := ne_of_none hD nD2
      refine lc_tup (K := K) (a := t) (xs := us) (fun j H' => ∃ ws, H' D2 = some (.lst ws) ∧ All2 (CelIn C_Ratio (cutL H' [D1, D2])) ws ((tb.take j).map fun r => swC (r.getD i c0)) ∧ Keep [] H1 H') ⟨[], upd_same, by rw [List.take_zero]; exact .nil, Keep.new nD2⟩ (fun j H' _ ⟨_, _, _, kk⟩ => SqT.of (kk _ _ ht1 (by simp))) ?_ ?_
      · rintro j u H2 hu ⟨ws, hD2, hws, k2⟩
        have k12 := k1.trans k2
        obtain ⟨r, hrj, hrw⟩ := h3.get hu
        obtain ⟨rt, rvs, rfl, hrt, hrv⟩ := hrw.ki (KI.of k12)
        have hjl := (List.getElem?_eq_some_iff.mp hrj).1
        have hrl := o5 r (List.mem_of_getElem? hrj)
        have hri : r[i]? = some (r.getD i c0) := by rw [List.getD_eq_getElem?_getD, List.getElem?_eq_getElem (by omega)]; rfl
        have hvi : rvs[i]? = some (rvs[i]'(by rw [hrv.1]; omega)) := List.getElem?_eq_getElem (by rw [hrv.1]; omega)
        obtain ⟨c, hc, hcel⟩ := hrv.get hvi
        rw [hri] at hc
        obtain rfl := Option.some.inj hc
        obtain ⟨ct, p, q, ec, hct, hp, hq⟩ := hcel
        rw [ec] at hvi
        have hwl := hws.1
        rw [List.length_map, List.length_take] at hwl
        refine ⟨rfl, yes_then ⟨_, rfl, _, rfl, _, _, _, _, rfl, rfl, SqT.of hrt, atI_nat hvi, _, _, _, _, rfl, rfl, SqT.of hct, rfl, _, rfl, _, rfl, _, _, _, _, rfl, rfl, SqT.of hrt, atI_nat hvi, _, _, _, _, rfl, rfl, SqT.of hct, rfl, And.intro (by show 2 ≤ sizeLine; decide) <| fun t2 nt => ?_⟩⟩
        have kt := Keep.new (W := []) (o := .tup [.ref q, .ref p]) nt
        have hD5 := kt _ _ hD2 (by simp)
        have tD1 : t2 ≠ D1 := (ne_of_none (k2 _ _ hD (by simp)) nt).symm
        have tD2 : t2 ≠ D2 := (ne_of_none hD2 nt).symm
        have tn : t2 ∉ [D1, D2] := by simp; exact ⟨tD1, tD2⟩
        have hp5 := hp.keep0 kt
        have hq5 := hq.keep0 kt
        have ht5 : upd H2 t2 (.tup [.ref q, .ref p]) t2 = some (.tup [.ref q, .ref p]) := upd_same
        have hD15 := kt _ _ (k2 _ _ hD (by simp)) (by simp)
        generalize upd H2 t2 (.tup [.ref q, .ref p]) = H5 at *
        have up : ∀ b o, b ∉ [D1, D2] → H5 b = some o → upd H5 D2 (.lst (ws ++ [.ref t2])) b = some o := fun b o n h => by rw [upd_ne (fun e => n (by rw [e]; simp))]; exact h
        have insn : ∀ {b C dx fs}, H5 b = some (.ins C dx fs) → b ∉ [D1, D2] := fun h z => by
          rcases List.mem_cons.mp z with e | z
          · rw [e, hD15] at h; cases h
          · rw [List.mem_singleton.mp z, hD5] at h; cases h
        obtain ⟨d1, hp5⟩ := hp5
        obtain ⟨d2, hq5⟩ := hq5
        refine ⟨ws, hD5, smallL (by omega), ws ++ [.ref t2], upd_same, ?_, (k2.trans kt).then_own nD2⟩
        rw [snoc_take hrj, List.map_append]
        refine (hws.mono fun _ _ z => z.keep (cutL_step fun b o h n => up b o n (kt _ _ h (by simp)))).snoc ⟨t2, q, p, rfl, .inl (cutL_of (up _ _ tn ht5) tn), ⟨d2, cutL_of (up _ _ (insn hq5) hq5) (insn hq5)⟩, ⟨d1, cutL_of (up _ _ (insn hp5) hp5) (insn hp5)⟩⟩
      · rintro H2 ⟨ws, hD2, hws, k2⟩
        rw [hul, List.take_length] at hws
        have hD1 := k2 _ _ hD (by simp)
        have up : ∀ b o, b ∉ [D1] → H2 b = some o → upd H2 D1 (.lst (vs ++ [.ref D2])) b = some o := fun b o n h => by rw [upd_ne (fun e => n (by rw [e]; simp))]; exact h
        have dn : D2 ∉ [D1] := by simpa using n12.symm
        refine ⟨vs, hD1, smallL (by omega), vs ++ [.ref D2], upd_same, ?_, (k1.trans k2).then_own nD⟩
        have hti : (turnT tb)[i]? = some (tb.map fun r => swC (r.getD i c0)) := by unfold turnT; rw [List.getElem?_map, List.getElem?_range hi]; rfl
        rw [snoc_take hti]
        refine (hvs.mono fun _ _ z => z.keep (cutL_step fun b o h n => up b o n (k2 _ _ h (by simp)))).snoc ⟨D2, ws, rfl, cutL_of (up _ _ dn hD2) dn, hws.mono fun _ _ z => z.keep ?_⟩
        exact (cutL_less (W' := [D1]) fun b hb => by rw [List.mem_singleton.mp hb]; simp).trans (cutL_step fun b o h n => up b o n h)
    · rintro H1 ⟨vs, hD, hvs, k1⟩
      rw [show (turnT tb).take (tb.headD []).length = turnT tb by rw [← turnT_len, List.take_length]] at hvs
      have hin : TbIn C_Ratio H1 D1 (turnT tb) := ⟨vs, hD, hvs.mono fun _ _ z => z.keep (cutL_keep _ _)⟩
      refine fun x dx' nx ndx ne => ⟨x, dx', D1, turnT tb, rfl, upd_same, hin.keep (Keep.made nx ndx), by rw [turnT_len]; omega, fun r hr => by rw [turnT_row r hr]; omega, fun _ H2 hG2 k2 => ⟨rfl, ?_⟩, fun hb => by rw [okT_turn hok] at hb; cases hb⟩
      exact k x H2 (k1.free nx) hG2 (k1.trans (keep_made nx ndx k2))
end

/-! Ratio + Ratio, Ratio * Ratio, total -/
def addR (a b : Int × Int) : Int × Int := (redN (a.1 * b.2 + b.1 * a.2) (a.2 * b.2), redD (a.1 * b.2 + b.1 * a.2) (a.2 * b.2))
def RtV (C : Addr) (H : Hp) (v : V) (r : Int × Int) : Prop := ∃ p, v = .ref p ∧ RatAt C H p r.1 r.2
theorem RtV.keep {C : Addr} {H H' : Hp} {v : V} {r : Int × Int} (h : RtV C H v r) (k : Keep [] H H') : RtV C H' v r := by
  obtain ⟨p, e, h⟩ := h
  exact ⟨p, e, h.keep0 k⟩
def sumR (rs : List (Int × Int)) : Int × Int := rs.foldl addR (0, 1)
theorem sumR_snoc (rs : List (Int × Int)) (r : Int × Int) : sumR (rs ++ [r]) = addR (sumR rs) r := by unfold sumR; rw [List.foldl_append]; rfl
def sp_radd (C : Addr) : Sp := fun vs H Q _ => ∃ (p q : Addr) (a b : Int × Int), vs = [.ref p, .ref q] ∧ RatAt C H p a.1 a.2 ∧ RatAt C H q b.1 b.2 ∧ FrOk 3900 a ∧ FrOk 3900 b ∧ ∀ x H', RatAt C H' x (addR a b).1 (addR a b).2 → Keep [] H H' → Q (.ref x) H'
def sp_rmul (C : Addr) : Sp := fun vs H Q _ => ∃ (p q : Addr) (a b : Int × Int), vs = [.ref p, .ref q] ∧ RatAt C H p a.1 a.2 ∧ RatAt C H q b.1 b.2 ∧ FrOk 3900 a ∧ FrOk 3900 b ∧ ∀ x H', RatAt C H' x (tmR a b).1 (tmR a b).2 → Keep [] H H' → Q (.ref x) H'
def sp_total (C : Addr) : Sp := fun vs H Q _ => ∃ (a : Addr) (us : List V) (rs : List (Int × Int)), vs = [.ref a] ∧ H a = some (.lst us) ∧ All2 (RtV C H) us rs ∧ (∀ r ∈ rs, FrOk 3900 r) ∧ (∀ i, i ≤ rs.length → FrOk 3900 (sumR (rs.take i))) ∧ ∀ x H', RatAt C H' x (sumR rs).1 (sumR rs).2 → Keep [] H H' → Q (.ref x) H'
section
variable {P : Program} {w : World} {K : PySem.W.Frag} {mg : Str → Option Value} {base : Heap} {C_Ratio : Addr} {C_Gains : Addr} {C_GameError : Addr} {C_BadEdit : Addr} {C_BadPlan : Addr} {C_BadRatio : Addr} {C_BadText : Addr} {C_TooLarge : Addr} {C_BadGains : Addr} {f_BadGains___init : Addr}
theorem ok_radd {f : Addr} {fd : FuncData} (me : Meth K C_Ratio "__add__" f) (F : C8.Fun K "__add__" "Ratio.__add__" s_Ratio___add f fd) (b : Binds K fd ["self", "other"] []) (T : Txt K mg C_Ratio C_Gains C_GameError C_BadEdit C_BadPlan C_BadRatio C_BadText C_TooLarge C_BadGains) (c_Ratio2 : C8.Mak P w K mg base 1 "Ratio" C_Ratio (sp_rat C_Ratio) []) : Own P w K mg base 3 C_Ratio "__add__" (sp_radd C_Ratio) := by
  refine ⟨f, fd, ["self", "other"], me.at_, me.fn, C8.fn0 F sc_Ratio___add (fun vs H Q E h => ?_) (fun cdv A outer s H vs Q E hr h => ?_), b⟩
  · obtain ⟨p, q, a, b, rfl, _⟩ := h
    rfl
  · obtain ⟨p, q, a, b, rfl, ⟨dx, h1⟩, ⟨dy, h2⟩, oa, ob, k⟩ := h
    refine ⟨_, (pss_one (ps_ret (pe_mk c_Ratio2 hr (by first | exact Nat.le_refl _ | decide | omega) rfl (pa_cons (pe_op op_add (pe_op op_mulO (pe_fld (pv 0) rfl) (pe_fld (pv 1) rfl)) (pe_op op_mulO (pe_fld (pv 1) rfl) (pe_fld (pv 0) rfl))) (pa_cons (pe_op op_mulO (pe_fld (pv 0) rfl) (pe_fld (pv 1) rfl)) pa_nil))))), ?_⟩
    have hd := dmul_ok oa ob
    refine ⟨_, rfl, p, C_Ratio, dx, _, _, rfl, h1, T.cl_Ratio, T.a_Ratio_num, rf_num _ _, _, rfl, q, C_Ratio, dy, _, _, rfl, h2, T.cl_Ratio, T.a_Ratio_den, rf_den _ _, _, _, rfl, rfl, fmul_ok oa.n ob.d, ?_⟩
    refine ⟨_, rfl, q, C_Ratio, dy, _, _, rfl, h2, T.cl_Ratio, T.a_Ratio_num, rf_num _ _, _, rfl, p, C_Ratio, dx, _, _, rfl, h1, T.cl_Ratio, T.a_Ratio_den, rf_den _ _, _, _, rfl, rfl, fmul_ok ob.n oa.d, _, _, rfl, rfl, ?_⟩
    refine ⟨_, rfl, p, C_Ratio, dx, _, _, rfl, h1, T.cl_Ratio, T.a_Ratio_den, rf_den _ _, _, rfl, q, C_Ratio, dy, _, _, rfl, h2, T.cl_Ratio, T.a_Ratio_den, rf_den _ _, _, _, rfl, rfl, fmul_ok oa.d ob.d, ?_⟩
    exact fun x dx' nx ndx ne => ⟨x, dx', _, _, rfl, by have := hd.1; omega, hd.2, upd_same, fun H2 K2 hx2 => ⟨rfl, k x H2 ⟨dx', hx2⟩ (keep_made nx ndx K2)⟩⟩
theorem ok_rmul {f : Addr} {fd : FuncData} (me : Meth K C_Ratio "__mul__" f) (F : C8.Fun K "__mul__" "Ratio.__mul__" s_Ratio___mul f fd) (b : Binds K fd ["self", "other"] []) (T : Txt K mg C_Ratio C_Gains C_GameError C_BadEdit C_BadPlan C_BadRatio C_BadText C_TooLarge C_BadGains) (c_Ratio2 : C8.Mak P w K mg base 1 "Ratio" C_Ratio (sp_rat C_Ratio) []) : Own P w K mg base 3 C_Ratio "__mul__" (sp_rmul C_Ratio) := by
  refine ⟨f, fd, ["self", "other"], me.at_, me.fn, C8.fn0 F sc_Ratio___mul (fun vs H Q E h => ?_) (fun cdv A outer s H vs Q E hr h => ?_), b⟩
  · obtain ⟨p, q, a, b, rfl, _⟩ := h
    rfl
  · obtain ⟨p, q, a, b, rfl, ⟨dx, h1⟩, ⟨dy, h2⟩, oa, ob, k⟩ := h
    refine ⟨_, (pss_one (ps_ret (pe_mk c_Ratio2 hr (by first | exact Nat.le_refl _ | decide | omega) rfl (pa_cons (pe_op op_mulO (pe_fld (pv 0) rfl) (pe_fld (pv 1) rfl)) (pa_cons (pe_op op_mulO (pe_fld (pv 0) rfl) (pe_fld (pv 1) rfl)) pa_nil))))), ?_⟩
    have hd := dmul_ok oa ob
    refine ⟨_, rfl, p, C_Ratio, dx, _, _, rfl, h1, T.cl_Ratio, T.a_Ratio_num, rf_num _ _, _, rfl, q, C_Ratio, dy, _, _, rfl, h2, T.cl_Ratio, T.a_Ratio_num, rf_num _ _, _, _, rfl, rfl, fmul_ok oa.n ob.n, ?_⟩
    refine ⟨_, rfl, p, C_Ratio, dx, _, _, rfl, h1, T.cl_Ratio, T.a_Ratio_den, rf_den _ _, _, rfl, q, C_Ratio, dy, _, _, rfl, h2, T.cl_Ratio, T.a_Ratio_den, rf_den _ _, _, _, rfl, rfl, fmul_ok oa.d ob.d, ?_⟩
    exact fun x dx' nx ndx ne => ⟨x, dx', _, _, rfl, by have := hd.1; omega, hd.2, upd_same, fun H2 K2 hx2 => ⟨rfl, k x H2 ⟨dx', hx2⟩ (keep_made nx ndx K2)⟩⟩
theorem ok_total {f : Addr} {fd : FuncData} (D : C8.Def K mg "total" s_total f fd) (b : Binds K fd ["ratios"] []) (T : Txt K mg C_Ratio C_Gains C_GameError C_BadEdit C_BadPlan C_BadRatio C_BadText C_TooLarge C_BadGains) (c_Ratio : C8.Mak P w K mg base 1 "Ratio" C_Ratio (sp_rat C_Ratio) [.int 1]) (c_Ratio_add : Own P w K mg base 3 C_Ratio "__add__" (sp_radd C_Ratio)) : C8.Cal P w K mg base 4 "total" (sp_total C_Ratio) [] := by
  refine cal0 D b .nil sc_total (fun vs H Q E h => ?_) (fun cdv A outer s H vs Q E hr h => ?_)
  · obtain ⟨a, us, rs, rfl, _⟩ := h
    rfl
  · obtain ⟨a, us, rs, rfl, ha, hus, hok, hsum, k⟩ := h
    refine ⟨_, (pss_cons (ps_set (i := 1) sc_total.nd rfl (by first | exact Or.inl rfl | exact Or.inr rfl) (pe_mk c_Ratio hr (by first | exact Nat.le_refl _ | decide | omega) rfl (pa_cons pe_int pa_nil)))
(pss_cons (ps_for PassesOwn.never rfl (pi_list (pv 0)) (pg_name (i := 2) sc_total.nd rfl (by first | exact Or.inl rfl | exact Or.inr rfl))
  (pss_one (ps_set (i := 1) sc_total.nd rfl (by first | exact Or.inl rfl | exact Or.inr rfl) (pe_op (op_ownB c_Ratio_add (by rfl) T.sfR hr (by first | decide | omega)) (pv 1) (pv 2)))))
(pss_one (ps_ret (pv 1))))), ?_⟩
    have hul := hus.1
    refine fun x dx nx ndx ne => ⟨x, dx, 0, 1, rfl, by decide, Nat.one_lt_two_pow (by decide), upd_same, fun H1 K1 hx1 => ⟨rfl, ?_⟩⟩
    have k1 := keep_made nx ndx K1
    have z01 := red_zero (d := 1) (by decide)
    rw [z01.1, z01.2] at hx1
    refine ⟨_, rfl, a, rfl, ⟨_, SqL.of (k1 _ _ ha (by simp))⟩, for_list (K := K) (a := a) (xs := us) (fun i σ H' => ∃ y o2, σ = [some (.ref a), some (.ref y), o2] ∧ RatAt C_Ratio H' y (sumR (rs.take i)).1 (sumR (rs.take i)).2 ∧ Keep [] H H') ⟨x, none, rfl, ⟨dx, hx1⟩, k1⟩ (fun i σ H' _ ⟨_, _, _, _, kk⟩ => SqL.of (kk _ _ ha (by simp))) ?_ ?_⟩
    · rintro i v σ H2 hv ⟨y, o2, rfl, hy, k2⟩
      obtain ⟨r, hri, hrv⟩ := hus.get hv
      obtain ⟨p, rfl, hp⟩ := hrv.keep k2
      have hil := (List.getElem?_eq_some_iff.mp hri).1
      obtain ⟨d1, hy1⟩ := id hy
      obtain ⟨d2, hp2⟩ := id hp
      refine ⟨_, rfl, _, rfl, y, p, d1, d2, _, _, rfl, rfl, hy1, hp2, y, p, sumR (rs.take i), r, rfl, hy, hp, hsum i (Nat.le_of_lt hil), hok r (List.mem_of_getElem? hri), fun x' H3 hx3 k3 => ?_⟩
      refine ⟨x', _, rfl, ?_, k2.trans k3⟩
      rw [snoc_take hri, sumR_snoc]
      exact hx3
    · rintro σ H2 ⟨y, o2, rfl, hy, k2⟩
      rw [hul, List.take_length] at hy
      exact ⟨_, rfl, k y H2 hy k2⟩
end

/-! the rows of player 1's gains; ratios made of pairs; the law's turned table -/
def redF (r : Int × Int) : Int × Int := (redN r.1 r.2, redD r.1 r.2)
def sp_rmade (C : Addr) : Sp := fun vs H Q _ => ∃ (a : Addr) (us : List V) (rs : List (Int × Int)), vs = [.ref a] ∧ H a = some (.tup us) ∧ TDs H us (rs.map dFr) ∧ rs.length ≤ 100 ∧ (∀ r ∈ rs, okF r) ∧ ∀ t vs' H', H t = none → H' t = some (.tup vs') → All2 (RtV C H') vs' (rs.map redF) → Keep [] H H' → Q (.ref t) H'
/-- a list of lists of ratios -/
def LsAt (C : Addr) (H : Hp) (v : V) (r : List (Int × Int)) : Prop := ∃ t vs, v = .ref t ∧ H t = some (.lst vs) ∧ All2 (RtV C H) vs r
theorem LsAt.keep {C : Addr} {H H' : Hp} {v : V} {r : List (Int × Int)} (h : LsAt C H v r) (k : Keep [] H H') : LsAt C H' v r := by
  obtain ⟨t, vs, e, h1, h2⟩ := h
  exact ⟨t, vs, e, k _ _ h1 (by simp), h2.mono fun _ _ z => z.keep k⟩
def sp_own (CG CR : Addr) : Sp := fun vs H Q _ => ∃ (g : Addr) (tb : Tab), vs = [.ref g] ∧ GnAt CG CR H g tb ∧ okT tb = true ∧ ∀ l us H', H l = none → H' l = some (.lst us) → All2 (LsAt CR H') us (tb.map fun r => r.map (·.1)) → Keep [] H H' → Q (.ref l) H'
def sp_lturned : Sp := fun vs H Q _ => ∃ (a : Addr) (us : List V) (tb : Tab), vs = [.ref a] ∧ H a = some (.tup us) ∧ TDs H us (tb.map dRw) ∧ okT tb = true ∧ ∀ t vs' H', H t = none → H' t = some (.tup vs') → TDs H' vs' ((turnT tb).map dRw) → Keep [] H H' → Q (.ref t) H'
section
variable {P : Program} {w : World} {K : PySem.W.Frag} {mg : Str → Option Value} {base : Heap} {C_Ratio : Addr} {C_Gains : Addr} {C_GameError : Addr} {C_BadEdit : Addr} {C_BadPlan : Addr} {C_BadRatio : Addr} {C_BadText : Addr} {C_TooLarge : Addr} {C_BadGains : Addr} {f_BadGains___init : Addr}
theorem ok_rmade {f : Addr} {fd : FuncData} (D : C8.Def K mg "_law_row_made" s_law_row_made f fd) (b : Binds K fd ["numbers"] []) (T : Txt K mg C_Ratio C_Gains C_GameError C_BadEdit C_BadPlan C_BadRatio C_BadText C_TooLarge C_BadGains) (c_Ratio2 : C8.Mak P w K mg base 1 "Ratio" C_Ratio (sp_rat C_Ratio) []) : C8.Cal P w K mg base 3 "_law_row_made" (sp_rmade C_Ratio) [] := by
  refine cal0 D b .nil sc_law_row_made (fun vs H Q E h => ?_) (fun cdv A outer s H vs Q E hr h => ?_)
  · obtain ⟨a, us, rs, rfl, _⟩ := h
    rfl
  · obtain ⟨a, us, rs, rfl, ha, hus, hl, hok, k⟩ := h
    refine ⟨_, (pss_one (ps_ret (pe_callTy call_tuple_of (by rfl) T.n_tuple bo_tuple (pa_cons (pe_lc (own := [("number", 1)]) (g := gName 1) (tt := tYes) rfl sc_law_row_made.nd (pi_tup (pv 0)) (blkOk_by (N := ["numbers", "number"]) (sc := fnScope s_law_row_made) (by decide +kernel)) (fun _ _ _ _ _ => pg_name (i := 1) sc_law_row_made.nd rfl (by first | exact Or.inl rfl | exact Or.inr rfl)) (fun _ _ _ _ _ => pts_nil) (fun _ _ _ _ _ => (pe_mk c_Ratio2 hr (by first | exact Nat.le_refl _ | decide | omega) rfl (pa_cons (pe_ix (ix_tupK (K := K)) (pv 1) pe_int (fun _ _ => rfl)) (pa_cons (pe_ix (ix_tupK (K := K)) (pv 1) pe_int (fun _ _ => rfl)) pa_nil))))) pa_nil)))), ?_⟩
    have hul := hus.length
    rw [List.length_map] at hul
    refine ⟨_, rfl, a, rfl, ⟨_, SqT.of ha⟩, fun D1 nD => ?_⟩
    refine lc_tup (K := K) (a := a) (xs := us) (fun i H' => ∃ vs, H' D1 = some (.lst vs) ∧ All2 (RtV C_Ratio H') vs ((rs.take i).map redF) ∧ Keep [] H H') ⟨[], upd_same, by rw [List.take_zero]; exact .nil, Keep.new nD⟩ (fun i H' _ ⟨_, _, _, kk⟩ => SqT.of (kk _ _ ha (by simp))) ?_ ?_
    · rintro i v H1 hv ⟨vs, hD, hvs, k1⟩
      have hil := (List.getElem?_eq_some_iff.mp hv).1
      obtain ⟨r, hri⟩ : ∃ r, rs[i]? = some r := ⟨_, List.getElem?_eq_getElem (by omega)⟩
      obtain ⟨v', hv', hvd⟩ := (hus.tk k1.tk).get (i := i) (d := dFr r) (by rw [List.getElem?_map, hri]; rfl)
      rw [hv] at hv'
      cases hv'
      obtain ⟨p, rfl, hp⟩ := td_fr hvd
      have hvl := hvs.1
      rw [List.length_map, List.length_take] at hvl
      have o := hok r (List.mem_of_getElem? hri)
      refine ⟨rfl, yes_then ⟨_, rfl, _, _, _, _, rfl, rfl, SqT.of hp, rfl, _, rfl, _, _, _, _, rfl, rfl, SqT.of hp, rfl, fun x dx nx ndx ne => ⟨x, dx, r.1, r.2, rfl, o.1, o.2, upd_same, fun H2 K2 hx2 => ⟨rfl, ?_⟩⟩⟩⟩
      have km := keep_made nx ndx K2
      have hD2 := km _ _ hD (by simp)
      have ki := KI.lst (o := .lst (vs ++ [.ref x])) hD2
      refine ⟨vs, hD2, smallL (by omega), vs ++ [.ref x], upd_same, ?_, (k1.trans km).then_own nD⟩
      rw [snoc_take hri, List.map_append]
      refine (hvs.mono fun _ _ ⟨p, e, h⟩ => ⟨p, e, (h.keep0 km).ki ki⟩).snoc ⟨x, rfl, dx, ki.2 _ _ _ _ hx2⟩
    · rintro H1 ⟨vs, hD, hvs, k1⟩
      rw [hul, List.take_length] at hvs
      refine ⟨D1, vs, rfl, .inl ⟨SqL.of hD, fun t nt => ?_⟩⟩
      have kt := Keep.new (W := []) (o := .tup vs) nt
      exact k t vs _ (k1.free nt) upd_same (hvs.mono fun _ _ z => z.keep kt) (k1.trans kt)
theorem ok_own {f : Addr} {fd : FuncData} (M : Meth K C_Gains "own" f) (F : C8.Fun K "own" "Gains.own" s_Gains_own f fd) (b : Binds K fd ["self"] []) (T : Txt K mg C_Ratio C_Gains C_GameError C_BadEdit C_BadPlan C_BadRatio C_BadText C_TooLarge C_BadGains) : C8.Met P w K mg base 1 C_Gains "own" (sp_own C_Gains C_Ratio) [] := by
  refine met0 T.cl_Gains M F b sc_Gains_own (fun vs H Q E h => ?_) (fun cdv A outer s H vs Q E hr h => ?_)
  · obtain ⟨g, tb, rfl, _⟩ := h
    rfl
  · obtain ⟨g, tb, rfl, ⟨dx, t, h1, us, h2, h3⟩, hok, k⟩ := h
    refine ⟨_, (pss_one (ps_ret (pe_lc (own := [("row", 1)]) (g := gName 1) (tt := tYes) rfl sc_Gains_own.nd (pi_tup (pe_fld (pv 0) rfl)) (blkOk_by (N := ["self", "row", "cell"]) (sc := fnScope s_Gains_own) (by decide +kernel)) (fun _ _ _ _ _ => pg_name (i := 1) sc_Gains_own.nd rfl (by first | exact Or.inl rfl | exact Or.inr rfl)) (fun _ _ _ _ _ => pts_nil) (fun _ _ _ _ _ => (pe_lc (own := [("cell", 2)]) (g := gName 2) (tt := tYes) rfl sc_Gains_own.nd (pi_tupK (K := K) (pv 1)) (blkOk_by (N := ["self", "row", "cell"]) (sc := _) (by rfl)) (fun _ _ _ _ _ => pg_name (i := 2) sc_Gains_own.nd rfl (by first | exact Or.inl rfl | exact Or.inr rfl)) (fun _ _ _ _ _ => pts_nil) (fun _ _ _ _ _ => (pe_ix (ix_tupK (K := K)) (pv 2) pe_int (fun _ _ => rfl)))))))), ?_⟩
    obtain ⟨o1, o2, o3, o4, o5⟩ := okT_iff hok
    have hul := h3.1
    refine ⟨_, rfl, g, C_Gains, dx, _, _, rfl, h1, T.cl_Gains, T.a_Gains_cells, rfl, t, rfl, ⟨_, SqT.of h2⟩, fun D1 nD => ?_⟩
    refine lc_tup (K := K) (a := t) (xs := us) (fun i H' => ∃ vs, H' D1 = some (.lst vs) ∧ All2 (LsAt C_Ratio (cutL H' [D1])) vs ((tb.take i).map fun r => r.map (·.1)) ∧ Keep [] H H') ⟨[], upd_same, by rw [List.take_zero]; exact .nil, Keep.new nD⟩ (fun i H' _ ⟨_, _, _, kk⟩ => SqT.of (kk _ _ h2 (by simp))) ?_ ?_
    · rintro i v H1 hv ⟨vs, hD, hvs, k1⟩
      obtain ⟨r, hri, hrw⟩ := h3.get hv
      obtain ⟨rt, rvs, rfl, hrt, hrv⟩ := hrw.ki (KI.of k1)
      have hil := (List.getElem?_eq_some_iff.mp hri).1
      have hrl := o5 r (List.mem_of_getElem? hri)
      have hvl := hvs.1
      rw [List.length_map, List.length_take] at hvl
      refine ⟨rfl, yes_then ?_⟩
      refine ⟨_, rfl, rt, rfl, ⟨_, SqT.of hrt⟩, fun D2 nD2 => ?_⟩
      have n12 : D1 ≠ D2 := ne_of_none hD nD2
      refine lc_tup (K := K) (a := rt) (xs := rvs) (fun j H' => ∃ ws, H' D2 = some (.lst ws) ∧ All2 (RtV C_Ratio H') ws ((r.take j).map (·.1)) ∧ Keep [] H1 H') ⟨[], upd_same, by rw [List.take_zero]; exact .nil, Keep.new nD2⟩ (fun j H' _ ⟨_, _, _, kk⟩ => SqT.of (kk _ _ hrt (by simp))) ?_ ?_
      · rintro j u H2 hu ⟨ws, hD2, hws, k2⟩
        obtain ⟨c, hcj, hcel⟩ := hrv.get hu
        obtain ⟨ct, p, q, rfl, hct, hp, hq⟩ := hcel.ki (KI.of k2)
        have hjl := (List.getElem?_eq_some_iff.mp hcj).1
        have hwl := hws.1
        rw [List.length_map, List.length_take] at hwl
        have ki := KI.lst (o := .lst (ws ++ [.ref p])) hD2
        refine ⟨rfl, yes_then ⟨_, rfl, _, _, _, _, rfl, rfl, SqT.of hct, rfl, ws, hD2, smallL (by omega), ws ++ [.ref p], upd_same, ?_, k2.then_own nD2⟩⟩
        rw [snoc_take hcj, List.map_append]
        exact (hws.mono fun _ _ ⟨p, e, h⟩ => ⟨p, e, h.ki ki⟩).snoc ⟨p, rfl, hp.ki ki⟩
      · rintro H2 ⟨ws, hD2, hws, k2⟩
        rw [hrv.1, List.take_length] at hws
        have hD1 := k2 _ _ hD (by simp)
        have up : ∀ b o, b ∉ [D1] → H2 b = some o → upd H2 D1 (.lst (vs ++ [.ref D2])) b = some o := fun b o n h => by rw [upd_ne (fun e => n (by rw [e]; simp))]; exact h
        have dn : D2 ∉ [D1] := by simpa using n12.symm
        refine ⟨vs, hD1, smallL (by omega), vs ++ [.ref D2], upd_same, ?_, (k1.trans k2).then_own nD⟩
        rw [snoc_take hri, List.map_append]
        refine (hvs.mono fun _ _ z => z.keep (cutL_step fun b o h n => up b o n (k2 _ _ h (by simp)))).snoc ⟨D2, ws, rfl, cutL_of (up _ _ dn hD2) dn, hws.mono fun _ _ ⟨p, e, d, h⟩ => ⟨p, e, d, ?_⟩⟩
        have pn : p ∉ [D1] := fun z => by rw [List.mem_singleton.mp z, hD1] at h; cases h
        exact cutL_of (up _ _ pn h) pn
    · rintro H1 ⟨vs, hD, hvs, k1⟩
      rw [hul, List.take_length] at hvs
      exact k D1 vs H1 nD hD (hvs.mono fun _ _ z => z.keep (cutL_keep _ _)) k1
theorem ok_lturned {f : Addr} {fd : FuncData} (D : C8.Def K mg "_law_turned" s_law_turned f fd) (b : Binds K fd ["table"] []) (T : Txt K mg C_Ratio C_Gains C_GameError C_BadEdit C_BadPlan C_BadRatio C_BadText C_TooLarge C_BadGains) : C8.Cal P w K mg base 1 "_law_turned" sp_lturned [] := by
  refine cal0 D b .nil sc_law_turned (fun vs H Q E h => ?_) (fun cdv A outer s H vs Q E hr h => ?_)
  · obtain ⟨a, us, tb, rfl, _⟩ := h
    rfl
  · obtain ⟨a, us, tb, rfl, ha, hus, hok, k⟩ := h
    refine ⟨_, (pss_one (ps_ret (pe_callTy call_tuple_of (by rfl) T.n_tuple bo_tuple (pa_cons (pe_lc (own := [("j", 1)]) (g := gName 1) (tt := tYes) rfl sc_law_turned.nd (pi_range1 (by rfl) T.n_range (pa_cons (pe_callB call_len_seq (by rfl) T.n_len bo_len (pa_cons (pe_ix ix_tup (pv 0) pe_int (fun _ _ => rfl)) pa_nil)) pa_nil)) (blkOk_by (N := ["table", "j", "row"]) (sc := fnScope s_law_turned) (by decide +kernel)) (fun _ _ _ _ _ => pg_name (i := 1) sc_law_turned.nd rfl (by first | exact Or.inl rfl | exact Or.inr rfl)) (fun _ _ _ _ _ => pts_nil) (fun _ _ _ _ _ => (pe_callTy (call_tuple_ofK (K := K)) (by rfl) T.n_tuple bo_tuple (pa_cons (pe_lc (own := [("row", 2)]) (g := gName 2) (tt := tYes) rfl sc_law_turned.nd (pi_tupK (K := K) (pv 0)) (blkOk_by (N := ["table", "j", "row"]) (sc := _) (by rfl)) (fun _ _ _ _ _ => pg_name (i := 2) sc_law_turned.nd rfl (by first | exact Or.inl rfl | exact Or.inr rfl)) (fun _ _ _ _ _ => pts_nil) (fun _ _ _ _ _ => (pe_tup (pa_cons (pe_ix (ix_tupK (K := K)) (pe_ix (ix_tupK (K := K)) (pv 2) (pv 1) (fun _ _ => rfl)) pe_int (fun _ _ => rfl)) (pa_cons (pe_ix (ix_tupK (K := K)) (pe_ix (ix_tupK (K := K)) (pv 2) (pv 1) (fun _ _ => rfl)) pe_int (fun _ _ => rfl)) pa_nil))))) pa_nil)))) pa_nil)))), ?_⟩
    obtain ⟨o1, o2, o3, o4, o5⟩ := okT_iff hok
    have hul := hus.length
    rw [List.length_map] at hul
    obtain ⟨r0, hr0⟩ : ∃ r, tb[0]? = some r := ⟨_, List.getElem?_eq_getElem (by omega)⟩
    obtain ⟨v0, hv0, hd0⟩ := hus.get (i := 0) (d := dRw r0) (by rw [List.getElem?_map, hr0]; rfl)
    obtain ⟨t0, cs0, rfl, ht0, hc0⟩ := td_rw hd0
    have hcl := hc0.length
    rw [List.length_map] at hcl
    have hrw := o5 r0 (List.mem_of_getElem? hr0)
    refine ⟨_, rfl, _, _, _, _, rfl, rfl, SqT.of ha, atI_nat (j := 0) hv0, t0, cs0, rfl, .inr (SqT.of ht0), _, rfl, by omega, by omega, fun D1 nD => ?_⟩
    refine lc_range (lo := 0) (n := cs0.length) (fun i H' => ∃ vs, H' D1 = some (.lst vs) ∧ TDs H' vs (((turnT tb).take i).map dRw) ∧ Keep [] H H') ⟨[], upd_same, by rw [List.take_zero]; exact .nil, Keep.new nD⟩ ?_ ?_
    · rintro i H1 hi ⟨vs, hD, hvs, k1⟩
      have e0 : (0 : Int) + (i : Int) = (i : Int) := by omega
      rw [e0]
      have hvl := hvs.length
      rw [List.length_map, List.length_take, turnT_len] at hvl
      have ha1 := k1 _ _ ha (by simp)
      refine ⟨rfl, yes_then ⟨_, rfl, a, rfl, ⟨_, SqT.of ha1⟩, fun D2 nD2 => ?_⟩⟩
      refine lc_tup (K := K) (a := a) (xs := us) (fun j H' => ∃ ws, H' D2 = some (.lst ws) ∧ TDs H' ws (((tb.take j).map fun r => swC (r.getD i c0)).map dCel) ∧ Keep [] H1 H') ⟨[], upd_same, by rw [List.take_zero]; exact .nil, Keep.new nD2⟩ (fun j H' _ ⟨_, _, _, kk⟩ => SqT.of (kk _ _ ha1 (by simp))) ?_ ?_
      · rintro j u H2 hu ⟨ws, hD2, hws, k2⟩
        have hjl := (List.getElem?_eq_some_iff.mp hu).1
        obtain ⟨r, hrj⟩ : ∃ r, tb[j]? = some r := ⟨_, List.getElem?_eq_getElem (by omega)⟩
        obtain ⟨u', hu', hud⟩ := ((hus.tk k1.tk).tk k2.tk).get (i := j) (d := dRw r) (by rw [List.getElem?_map, hrj]; rfl)
        rw [hu] at hu'
        cases hu'
        obtain ⟨rt, rvs, rfl, hrt, hrv⟩ := td_rw hud
        have hrl := o5 r (List.mem_of_getElem? hrj)
        have hri : r[i]? = some (r.getD i c0) := by rw [List.getD_eq_getElem?_getD, List.getElem?_eq_getElem (by omega)]; rfl
        obtain ⟨cv, hcv, hcd⟩ := hrv.get (i := i) (d := dCel (r.getD i c0)) (by rw [List.getElem?_map, hri]; rfl)
        obtain ⟨ct, p, q, rfl, hct, hp, hq⟩ := td_cel hcd
        have hwl := hws.length
        rw [List.length_map, List.length_map, List.length_take] at hwl
        refine ⟨rfl, yes_then ⟨_, rfl, _, rfl, _, _, _, _, rfl, rfl, SqT.of hrt, atI_nat hcv, _, _, _, _, rfl, rfl, SqT.of hct, rfl, _, rfl, _, rfl, _, _, _, _, rfl, rfl, SqT.of hrt, atI_nat hcv, _, _, _, _, rfl, rfl, SqT.of hct, rfl, And.intro (by show 2 ≤ sizeLine; decide) <| fun t2 nt => ?_⟩⟩
        have kt := Keep.new (W := []) (o := .tup [.ref q, .ref p]) nt
        have hD5 := kt _ _ hD2 (by simp)
        have tl := TK.lst (o := .lst (ws ++ [.ref t2])) hD5
        refine ⟨ws, hD5, smallL (by omega), ws ++ [.ref t2], upd_same, ?_, (k2.trans kt).then_own nD2⟩
        rw [snoc_take hrj, List.map_append, List.map_append]
        exact ((hws.tk kt.tk).tk tl).append (.cons (.tup (tl _ _ upd_same) (.cons (.tup (tl _ _ (kt _ _ hq (by simp))) (.cons (.int _) (.cons (.int _) .nil))) (.cons (.tup (tl _ _ (kt _ _ hp (by simp))) (.cons (.int _) (.cons (.int _) .nil))) .nil))) .nil)
      · rintro H2 ⟨ws, hD2, hws, k2⟩
        rw [hul, List.take_length] at hws
        refine ⟨D2, ws, rfl, .inl ⟨SqL.of hD2, fun t nt => ?_⟩⟩
        have kt := Keep.new (W := []) (o := .tup ws) nt
        have hD1 := (k2.trans kt) _ _ hD (by simp)
        have tl := TK.lst (o := .lst (vs ++ [.ref t])) hD1
        refine ⟨vs, hD1, smallL (by omega), vs ++ [.ref t], upd_same, ?_, (k1.trans (k2.trans kt)).then_own nD⟩
        have hti : (turnT tb)[i]? = some (tb.map fun r => swC (r.getD i c0)) := by unfold turnT; rw [List.getElem?_map, List.getElem?_range (by omega)]; rfl
        rw [snoc_take hti, List.map_append]
        exact ((hvs.tk (k2.trans kt).tk).tk tl).append (.cons (.tup (tl _ _ upd_same) ((hws.tk kt.tk).tk tl)) .nil)
    · rintro H1 ⟨vs, hD, hvs, k1⟩
      rw [show (turnT tb).take cs0.length = turnT tb by rw [hcl, hrw, ← turnT_len, List.take_length]] at hvs
      refine ⟨D1, vs, rfl, .inl ⟨SqL.of hD, fun t nt => ?_⟩⟩
      have kt := Keep.new (W := []) (o := .tup vs) nt
      exact k t vs _ (k1.free nt) upd_same (hvs.tk kt.tk) (k1.trans kt)
end

/-! zips with the written part named -/
theorem pi_zipAK {X : Cx} {K : PySem.W.Frag} {e e2 : Expr} {ta : TA} {p pos tpos : Pos} {elts : List Expr} {kk : Nat} (hg : Gl X "zip") (hm : X.mg "zip" = none) (ha : PA X [e, e2] ta) (hK : X.K = K := by rfl)
    (hs : starEach [e, e2] X.env = (false, eval e X.env) :: starEach [e2] X.env := by rfl) (hpl : (backTo pos (starEach [e2] X.env)).any (·.1) = false := by rfl) : PI X (.Tuple elts kk tpos) (.Call (.Name "zip" p) [e, e2] [] pos) (RZ.iZipA K ta) := hK ▸ RZ.pi_zipA hg hm ha hs hpl
theorem pi_zipNK {X : Cx} {K : PySem.W.Frag} {e e2 : Expr} {ta : TA} {p pos tpos : Pos} {elts : List Expr} {kk : Nat} (hg : Gl X "zip") (hm : X.mg "zip" = none) (ha : PA X [e, e2] ta) (hK : X.K = K := by rfl)
    (hs : starEach [e, e2] X.env = (false, eval e X.env) :: starEach [e2] X.env := by rfl) (hpl : (backTo pos (starEach [e2] X.env)).any (·.1) = false := by rfl) : PI X (.Tuple elts kk tpos) (.Call (.Name "zip" p) [e, e2] [] pos) (ZNx.iZipN K ta) := hK ▸ ZNx.pi_zipN hg hm ha hs hpl

/-! sums of products of ratios: against, gain -/
abbrev Fr := Int × Int
def FrB (a b : Nat) (r : Fr) : Prop := 0 < r.2 ∧ r.1.natAbs < 2 ^ a ∧ r.2.natAbs ≤ 2 ^ b
theorem FrB.ok {a b : Nat} {r : Fr} (h : FrB a b r) (ha : a ≤ 3900) (hb : b < 3900) : FrOk 3900 r :=
  ⟨h.1, Nat.lt_of_lt_of_le h.2.1 (Nat.pow_le_pow_right (by decide) ha), Nat.lt_of_le_of_lt h.2.2 (Nat.pow_lt_pow_right (by decide) hb)⟩
theorem FrB.mono {a b a' b' : Nat} {r : Fr} (h : FrB a b r) (ha : a ≤ a') (hb : b ≤ b') : FrB a' b' r :=
  ⟨h.1, Nat.lt_of_lt_of_le h.2.1 (Nat.pow_le_pow_right (by decide) ha), Nat.le_trans h.2.2 (Nat.pow_le_pow_right (by decide) hb)⟩
theorem red_abs_d {n d : Int} (h : d ≠ 0) : (redD n d).natAbs ≤ d.natAbs := Nat.le_of_dvd (by omega) (Int.natAbs_dvd_natAbs.mpr (red_dvd h))
theorem FrB.red {a b : Nat} {r : Fr} (h : FrB a b r) : FrB a b (redN r.1 r.2, redD r.1 r.2) := by
  have hd : r.2 ≠ 0 := by have := h.1; omega
  exact ⟨redD_pos hd, Nat.lt_of_le_of_lt (red_abs_n hd) h.2.1, Nat.le_trans (red_abs_d hd) h.2.2⟩
theorem FrB.mul {a b a' b' : Nat} {x y : Fr} (h : FrB a b x) (g : FrB a' b' y) : FrB (a + a') (b + b') (tmR x y) :=
  FrB.red (r := (x.1 * y.1, x.2 * y.2)) ⟨Int.mul_pos h.1 g.1, by rw [Int.natAbs_mul, Nat.pow_add]; exact Nat.mul_lt_mul'' h.2.1 g.2.1, by rw [Int.natAbs_mul, Nat.pow_add]; exact Nat.mul_le_mul h.2.2 g.2.2⟩
theorem FrB.add {a b a' b' m : Nat} {x y : Fr} (h : FrB a b x) (g : FrB a' b' y) (h1 : a + b' ≤ m) (h2 : a' + b ≤ m) : FrB (m + 1) (b + b') (addR x y) := by
  refine FrB.red (r := (x.1 * y.2 + y.1 * x.2, x.2 * y.2)) ⟨Int.mul_pos h.1 g.1, ?_, by rw [Int.natAbs_mul, Nat.pow_add]; exact Nat.mul_le_mul h.2.2 g.2.2⟩
  have p : ∀ {u v : Int} {c d : Nat}, u.natAbs < 2 ^ c → v.natAbs ≤ 2 ^ d → c + d ≤ m → (u * v).natAbs < 2 ^ m := fun {u v c d} hu hv hc => by
    rw [Int.natAbs_mul]
    refine Nat.lt_of_lt_of_le ?_ (Nat.pow_le_pow_right (by decide) hc)
    rw [Nat.pow_add]
    exact Nat.lt_of_le_of_lt (Nat.mul_le_mul_left _ hv) (Nat.mul_lt_mul_of_pos_right hu (Nat.two_pow_pos d))
  have e1 := p h.2.1 g.2.2 h1
  have e2 := p g.2.1 h.2.2 h2
  have e3 := Int.natAbs_add_le (x.1 * y.2) (y.1 * x.2)
  rw [Nat.pow_succ]
  show (x.1 * y.2 + y.1 * x.2).natAbs < _
  omega
theorem rev_ind {α : Type} {p : List α → Prop} (h0 : p []) (h1 : ∀ l a, p l → p (l ++ [a])) (l : List α) : p l := by
  have h : ∀ l : List α, p l.reverse := by
    intro l
    induction l with
    | nil => exact h0
    | cons a l ih => rw [List.reverse_cons]; exact h1 _ _ ih
  have := h l.reverse
  rwa [List.reverse_reverse] at this
theorem sumB {a b : Nat} : ∀ (rs : List Fr), (∀ r ∈ rs, FrB a b r) → FrB (a + (b + 1) * rs.length) (b * rs.length) (sumR rs) := by
  refine fun rs => rev_ind (p := fun rs => (∀ r ∈ rs, FrB a b r) → FrB (a + (b + 1) * rs.length) (b * rs.length) (sumR rs)) ?_ ?_ rs
  · intro _; exact ⟨by decide, Nat.two_pow_pos _, Nat.one_le_two_pow⟩
  · intro l r ih h
    have i1 := ih fun z hz => h z (List.mem_append_left _ hz)
    have i2 := h r (List.mem_append_right _ (List.mem_singleton.mpr rfl))
    rw [sumR_snoc]
    refine (i1.add i2 (m := a + (b + 1) * l.length + b) (Nat.le_refl _) ?_).mono ?_ ?_
    · have : b * l.length ≤ (b + 1) * l.length := Nat.mul_le_mul_right _ (Nat.le_succ b)
      omega
    · rw [List.length_append, List.length_singleton, Nat.mul_add, Nat.mul_one]; omega
    · rw [List.length_append, List.length_singleton, Nat.mul_add, Nat.mul_one]; exact Nat.le_refl _
theorem sumB8 {a b : Nat} {rs : List Fr} (h : ∀ r ∈ rs, FrB a b r) (hl : rs.length ≤ 8) : FrB (a + (b + 1) * 8) (b * 8) (sumR rs) :=
  (sumB rs h).mono (Nat.add_le_add_left (Nat.mul_le_mul_left _ hl) _) (Nat.mul_le_mul_left _ hl)
theorem sumB_take {a b : Nat} {rs : List Fr} (h : ∀ r ∈ rs, FrB a b r) (hl : rs.length ≤ 8) (i : Nat) : FrB (a + (b + 1) * 8) (b * 8) (sumR (rs.take i)) :=
  sumB8 (fun r hr => h r (List.mem_of_mem_take hr)) (by rw [List.length_take]; omega)
def prodR (xs ys : List Fr) : List Fr := List.zipWith tmR xs ys
def dotR (xs ys : List Fr) : Fr := sumR (prodR xs ys)
theorem prodB {a b a' b' : Nat} {xs ys : List Fr} (hx : ∀ r ∈ xs, FrB a b r) (hy : ∀ r ∈ ys, FrB a' b' r) : ∀ r ∈ prodR xs ys, FrB (a + a') (b + b') r := fun r hr => by
  obtain ⟨i, hi⟩ := List.getElem?_of_mem hr
  unfold prodR at hi
  rw [List.getElem?_zipWith] at hi
  cases e1 : xs[i]? with
  | none => rw [e1] at hi; cases hi
  | some x =>
    cases e2 : ys[i]? with
    | none => rw [e1, e2] at hi; cases hi
    | some y =>
      rw [e1, e2] at hi
      cases hi
      exact (hx x (List.mem_of_getElem? e1)).mul (hy y (List.mem_of_getElem? e2))
theorem prod_len {xs ys : List Fr} (h : xs.length = ys.length) : (prodR xs ys).length = ys.length := by unfold prodR; rw [List.length_zipWith]; omega
/-- a mix: a list or a tuple of ratios -/
def MixAt (C : Addr) (H : Hp) (v : V) (rs : List Fr) : Prop := ∃ a us, v = .ref a ∧ (H a = some (.lst us) ∨ H a = some (.tup us)) ∧ All2 (RtV C H) us rs
theorem MixAt.keep {C : Addr} {H H' : Hp} {v : V} {rs : List Fr} (h : MixAt C H v rs) (k : Keep [] H H') : MixAt C H' v rs := by
  obtain ⟨a, us, e, h1, h2⟩ := h
  exact ⟨a, us, e, h1.imp (fun h => k _ _ h (by simp)) (fun h => k _ _ h (by simp)), h2.mono fun _ _ z => z.keep k⟩
theorem RtV.ki {C : Addr} {H H' : Hp} {v : V} {r : Fr} (h : RtV C H v r) (k : KI H H') : RtV C H' v r := by
  obtain ⟨p, e, h⟩ := h
  exact ⟨p, e, h.ki k⟩
theorem zip_get {xs ys : List Fr} {i : Nat} {x y : Fr} (h1 : xs[i]? = some x) (h2 : ys[i]? = some y) : (prodR xs ys)[i]? = some (tmR x y) := by
  unfold prodR
  rw [List.getElem?_zipWith, h1, h2]
/-- the rows of gains against a mix -/
def agR (rows : List (List Fr)) (m : List Fr) : List Fr := rows.map fun r => dotR m r
def ownT (tb : Tab) : List (List Fr) := tb.map fun r => r.map (·.1)
def gnR (tb : Tab) (m1 m2 : List Fr) : Fr := dotR m1 (agR (ownT tb) m2)
/-- a table of gains of moderate size -/
def TbB (tb : Tab) : Prop := ∀ r ∈ tb, ∀ c ∈ r, FrB 100 25 c.1 ∧ FrB 100 25 c.2
def sp_against (CG CR : Addr) : Sp := fun vs H Q _ => ∃ (g : Addr) (v : V) (tb : Tab) (ms : List Fr), vs = [.ref g, v] ∧ GnAt CG CR H g tb ∧ okT tb = true ∧ TbB tb ∧ MixAt CR H v ms ∧ ms.length = (tb.headD []).length ∧ (∀ r ∈ ms, FrB 10 10 r) ∧
  ∀ l us H', H l = none → H' l = some (.lst us) → All2 (RtV CR H') us (agR (ownT tb) ms) → Keep [] H H' → Q (.ref l) H'
def sp_gain (CG CR : Addr) : Nat → Sp
  | 0 => fun vs _ _ _ => vs.length = 4 ∧ False
  | n + 1 => fun vs H Q _ => ∃ (g : Addr) (v1 v2 : V) (pl : Int) (tb : Tab) (m1 m2 : List Fr), vs = [.ref g, .int pl, v1, v2] ∧ GnAt CG CR H g tb ∧ okT tb = true ∧ TbB tb ∧ MixAt CR H v1 m1 ∧ MixAt CR H v2 m2 ∧ m1.length = tb.length ∧ m2.length = (tb.headD []).length ∧ (∀ r ∈ m1, FrB 10 10 r) ∧ (∀ r ∈ m2, FrB 10 10 r) ∧
    (pl = 1 ∨ (pl = 2 ∧ 1 ≤ n)) ∧ ∀ x H', RatAt CR H' x (if pl = 1 then gnR tb m1 m2 else gnR (turnT tb) m2 m1).1 (if pl = 1 then gnR tb m1 m2 else gnR (turnT tb) m2 m1).2 → Keep [] H H' → Q (.ref x) H'
theorem TbB.own {tb : Tab} (h : TbB tb) : ∀ r ∈ ownT tb, ∀ x ∈ r, FrB 100 25 x := fun r hr x hx => by
  obtain ⟨q, hq, rfl⟩ := List.mem_map.mp hr
  obtain ⟨c, hc, rfl⟩ := List.mem_map.mp hx
  exact (h q hq c hc).1
theorem own_len {tb : Tab} (h : okT tb = true) : ∀ r ∈ ownT tb, r.length = (tb.headD []).length := fun r hr => by
  obtain ⟨q, hq, rfl⟩ := List.mem_map.mp hr
  rw [List.length_map]
  exact (okT_iff h).2.2.2.2 q hq
theorem TbB.turn {tb : Tab} (h : TbB tb) (ok : okT tb = true) : TbB (turnT tb) := fun r hr c hc => by
  unfold turnT at hr
  obtain ⟨j, hj, rfl⟩ := List.mem_map.mp hr
  obtain ⟨q, hq, rfl⟩ := List.mem_map.mp hc
  have hl := (okT_iff ok).2.2.2.2 q hq
  have hj' := List.mem_range.mp hj
  have e : q.getD j c0 = q[j]'(by omega) := by rw [List.getD_eq_getElem?_getD, List.getElem?_eq_getElem (by omega)]; rfl
  rw [e]
  have := h q hq _ (List.getElem_mem (h := show j < q.length by omega))
  exact ⟨this.2, this.1⟩
theorem agB {tb : Tab} (h : TbB tb) (ok : okT tb = true) {ms : List Fr} (hl : ms.length = (tb.headD []).length) (hm : ∀ r ∈ ms, FrB 10 10 r) : ∀ r ∈ agR (ownT tb) ms, FrB 398 280 r := fun r hr => by
  obtain ⟨q, hq, rfl⟩ := List.mem_map.mp hr
  have hq2 := own_len ok q hq
  obtain ⟨_, _, _, o4, _⟩ := okT_iff ok
  exact sumB8 (prodB hm (h.own q hq)) (by rw [prod_len (by omega)]; omega)
section
variable {P : Program} {w : World} {K : PySem.W.Frag} {mg : Str → Option Value} {base : Heap} {C_Ratio : Addr} {C_Gains : Addr} {C_GameError : Addr} {C_BadEdit : Addr} {C_BadPlan : Addr} {C_BadRatio : Addr} {C_BadText : Addr} {C_TooLarge : Addr} {C_BadGains : Addr} {f_BadGains___init : Addr}
theorem ok_against {f : Addr} {fd : FuncData} (D : C8.Def K mg "against" s_against f fd) (b : Binds K fd ["gains", "mix"] []) (T : Txt K mg C_Ratio C_Gains C_GameError C_BadEdit C_BadPlan C_BadRatio C_BadText C_TooLarge C_BadGains) (c_Gains_own : C8.Met P w K mg base 1 C_Gains "own" (sp_own C_Gains C_Ratio) []) (c_Ratio_mul : Own P w K mg base 3 C_Ratio "__mul__" (sp_rmul C_Ratio)) (c_total : C8.Cal P w K mg base 4 "total" (sp_total C_Ratio) []) : C8.Cal P w K mg base 5 "against" (sp_against C_Gains C_Ratio) [] := by
  refine cal0 D b .nil sc_against (fun vs H Q E h => ?_) (fun cdv A outer s H vs Q E hr h => ?_)
  · obtain ⟨g, v, tb, ms, rfl, _⟩ := h
    rfl
  · obtain ⟨g, v, tb, ms, rfl, hG, hok, hB, hM, hml, hms, k⟩ := h
    refine ⟨_, (pss_one (ps_ret (pe_lc (own := [("row", 2)]) (g := gName 2) (tt := tYes) rfl sc_against.nd (pi_list (pe_mt0 c_Gains_own hr (by first | exact Nat.le_refl _ | decide | omega) (pv 0))) (blkOk_by (N := ["gains", "mix", "row", "lot", "number"]) (sc := fnScope s_against) (by decide +kernel)) (fun _ _ _ _ _ => pg_name (i := 2) sc_against.nd rfl (by first | exact Or.inl rfl | exact Or.inr rfl)) (fun _ _ _ _ _ => pts_nil) (fun _ _ _ _ _ => (pe_c c_total hr (by first | exact Nat.le_refl _ | decide | omega) rfl (pa_cons (pe_lc (own := [("lot", 3), ("number", 4)]) (g := (gTup K 2 (gCons (gName 3) (gCons (gName 4) gNil)))) (tt := tYes) rfl sc_against.nd (pi_or (pi_zipAK (K := K) (by rfl) T.n_zip (pa_cons (pv 1) (pa_cons (pv 2) pa_nil))) (pi_zipNK (K := K) (by rfl) T.n_zip (pa_cons (pv 1) (pa_cons (pv 2) pa_nil)))) (blkOk_by (N := ["gains", "mix", "row", "lot", "number"]) (sc := _) (by rfl)) (fun _ _ _ _ _ => pg_tupK (K := K) (n := 2) (t := (gCons (gName 3) (gCons (gName 4) gNil))) (pgs_cons (pg_name (i := 3) sc_against.nd rfl (by first | exact Or.inl rfl | exact Or.inr rfl)) (pgs_cons (pg_name (i := 4) sc_against.nd rfl (by first | exact Or.inl rfl | exact Or.inr rfl)) pgs_nil))) (fun _ _ _ _ _ => pts_nil) (fun _ _ _ _ _ => (pe_op (op_ownB c_Ratio_mul (by rfl) T.sfR hr (by first | decide | omega)) (pv 3) (pv 4)))) pa_nil)))))), ?_⟩
    obtain ⟨o1, o2, o3, o4, o5⟩ := okT_iff hok
    obtain ⟨dx, t, h1, h2⟩ := id hG
    refine ⟨_, rfl, g, dx, _, rfl, h1, rfl, g, tb, rfl, hG, hok, fun l us H1 nl hl hus k1 => ⟨l, rfl, ⟨_, SqL.of hl⟩, fun D1 nD => ?_⟩⟩
    have hul := hus.1
    rw [List.length_map] at hul
    have hM1 := hM.keep k1
    refine lc_list (K := K) (a := l) (xs := us) (fun i H' => ∃ vs, H' D1 = some (.lst vs) ∧ All2 (RtV C_Ratio H') vs ((agR (ownT tb) ms).take i) ∧ Keep [] H1 H') ⟨[], upd_same, by rw [List.take_zero]; exact .nil, Keep.new nD⟩ (fun i H' _ ⟨_, _, _, kk⟩ => SqL.of (kk _ _ hl (by simp))) ?_ ?_
    · rintro i y H2 hy ⟨vs, hD, hvs, k2⟩
      obtain ⟨r, hri, hrw⟩ := hus.get hy
      obtain ⟨rt, rvs, rfl, hrt, hrv⟩ := hrw.keep k2
      obtain ⟨ma, mus, rfl, hma, hmv⟩ := hM1.keep k2
      have hri' : (ownT tb)[i]? = some r := hri
      have hrl := own_len hok r (List.mem_of_getElem? hri')
      have hrB := hB.own r (List.mem_of_getElem? hri')
      have hlen : rvs.length = mus.length := by rw [hrv.1, hmv.1]; omega
      have hmvl := hmv.1
      have hpl : (prodR ms r).length = r.length := prod_len (by omega)
      have hPB := prodB hms hrB
      have hil := (List.getElem?_eq_some_iff.mp hri').1
      have hvl := hvs.1
      rw [List.length_take] at hvl
      have htbl : (ownT tb).length = tb.length := by unfold ownT; rw [List.length_map]
      refine ⟨rfl, yes_then ?_⟩
      have fin : ∀ ws D2 H3, H3 D2 = some (.lst ws) → All2 (RtV C_Ratio H3) ws (prodR ms r) → Keep [] H2 H3 → sp_total C_Ratio [.ref D2] H3 (fun y H4 => ∃ acc, H4 D1 = some (.lst acc) ∧ acc.length < sizeLine ∧ ∃ vs, upd H4 D1 (.lst (acc ++ [y])) D1 = some (.lst vs) ∧ All2 (RtV C_Ratio (upd H4 D1 (.lst (acc ++ [y])))) vs ((agR (ownT tb) ms).take (i + 1)) ∧ Keep [] H1 (upd H4 D1 (.lst (acc ++ [y])))) C8.E0 := by
        intro ws D2 H3 hD2 hws k3
        refine ⟨D2, ws, prodR ms r, rfl, hD2, hws, fun z hz => (hPB z hz).ok (by decide) (by decide), fun j _ => (sumB_take hPB (by omega) j).ok (by decide) (by decide), fun x H4 hx k4 => ?_⟩
        have hD4 := (k3.trans k4) _ _ hD (by simp)
        have ki := KI.lst (o := .lst (vs ++ [.ref x])) hD4
        refine ⟨vs, hD4, smallL (by omega), vs ++ [.ref x], upd_same, ?_, (k2.trans (k3.trans k4)).then_own nD⟩
        have hag : (agR (ownT tb) ms)[i]? = some (dotR ms r) := by unfold agR; rw [List.getElem?_map, hri']; rfl
        rw [snoc_take hag]
        exact (hvs.mono fun _ _ z => (z.keep (k3.trans k4)).ki ki).snoc ⟨x, rfl, hx.ki ki⟩
      rcases hma with hma | hma
      · refine Or.inl ?_
        unfold RZ.iZipA
        refine ⟨_, rfl, _, rfl, ma, rt, mus, rvs, rfl, .inl ⟨SqL.of hma, SqL.of hrt, fun D2 nD2 => ?_⟩⟩
        refine lc_it (L2.walk_zip (xs := mus) (ys := rvs) (n := mus.length) (by omega)) (fun j H' => ∃ ws, H' D2 = some (.lst ws) ∧ All2 (RtV C_Ratio H') ws ((prodR ms r).take j) ∧ Keep [] H2 H') ⟨[], upd_same, by rw [List.take_zero]; exact .nil, Keep.new nD2⟩ (fun j H' _ ⟨_, _, _, kk⟩ => ⟨SqL.of (kk _ _ hma (by simp)), SqL.of (kk _ _ hrt (by simp))⟩) ?_ ?_
        rotate_left
        · rintro H3 ⟨ws, hD2, hws, k3⟩
          rw [show mus.length = (prodR ms r).length by omega, List.take_length] at hws
          exact fin ws D2 H3 hD2 hws k3
        rintro j y H3 H4 hj ⟨ws, hD2, hws, k3⟩ ⟨T1, u, z, rfl, nT, rfl, hu, hz⟩
        have k4 := k3.then_new (o := .tup [u, z]) nT
        have hT : upd H3 T1 (.tup [u, z]) T1 = some (.tup [u, z]) := upd_same
        have kn := Keep.new (W := []) (o := .tup [u, z]) nT
        generalize upd H3 T1 (.tup [u, z]) = H4 at *
        obtain ⟨m, hmj, hmr⟩ := hmv.get hu
        obtain ⟨c, hcj, hcr⟩ := hrv.get hz
        obtain ⟨pm, rfl, hpm⟩ := hmr.keep k4
        obtain ⟨pc, rfl, hpc⟩ := hcr.keep k4
        obtain ⟨d1, hpm1⟩ := id hpm
        obtain ⟨d2, hpc1⟩ := id hpc
        refine ⟨T1, _, rfl, SqT.of hT, rfl, _, _, rfl, _, _, rfl, rfl, rfl, yes_then ⟨_, rfl, _, rfl, pm, pc, d1, d2, _, _, rfl, rfl, hpm1, hpc1, pm, pc, m, c, rfl, hpm, hpc, (hms m (List.mem_of_getElem? hmj)).ok (by decide) (by decide), (hrB c (List.mem_of_getElem? hcj)).ok (by decide) (by decide), fun x H5 hx k5 => ?_⟩⟩
        have hD5 := (kn.trans k5) _ _ hD2 (by simp)
        have ki := KI.lst (o := .lst (ws ++ [.ref x])) hD5
        have hwl := hws.1
        rw [List.length_take] at hwl
        refine ⟨ws, hD5, smallL (by omega), ws ++ [.ref x], upd_same, ?_, (k4.trans k5).then_own nD2⟩
        rw [snoc_take (zip_get hmj hcj)]
        exact (hws.mono fun _ _ z => (z.keep (kn.trans k5)).ki ki).snoc ⟨x, rfl, hx.ki ki⟩
      · refine Or.inr ?_
        unfold ZNx.iZipN
        refine ⟨_, rfl, _, rfl, ma, rt, mus, rvs, rfl, SqT.of hma, SqL.of hrt, fun D2 nD2 => ?_⟩
        refine lc_it (ZNx.walk_mixN (xs := mus) (ys := rvs) (by omega)) (fun j H' => ∃ ws, H' D2 = some (.lst ws) ∧ All2 (RtV C_Ratio H') ws ((prodR ms r).take j) ∧ Keep [] H2 H') ⟨[], upd_same, by rw [List.take_zero]; exact .nil, Keep.new nD2⟩ (fun j H' _ ⟨_, _, _, kk⟩ => ⟨SqT.of (kk _ _ hma (by simp)), SqL.of (kk _ _ hrt (by simp))⟩) ?_ ?_
        rotate_left
        · rintro H3 ⟨ws, hD2, hws, k3⟩
          rw [show mus.length = (prodR ms r).length by omega, List.take_length] at hws
          exact fin ws D2 H3 hD2 hws k3
        rintro j y H3 H4 hj ⟨ws, hD2, hws, k3⟩ ⟨T1, u, z, rfl, nT, rfl, hu, hz⟩
        have k4 := k3.then_new (o := .tup [u, z]) nT
        have hT : upd H3 T1 (.tup [u, z]) T1 = some (.tup [u, z]) := upd_same
        have kn := Keep.new (W := []) (o := .tup [u, z]) nT
        generalize upd H3 T1 (.tup [u, z]) = H4 at *
        obtain ⟨m, hmj, hmr⟩ := hmv.get hu
        obtain ⟨c, hcj, hcr⟩ := hrv.get hz
        obtain ⟨pm, rfl, hpm⟩ := hmr.keep k4
        obtain ⟨pc, rfl, hpc⟩ := hcr.keep k4
        obtain ⟨d1, hpm1⟩ := id hpm
        obtain ⟨d2, hpc1⟩ := id hpc
        refine ⟨T1, _, rfl, SqT.of hT, rfl, _, _, rfl, _, _, rfl, rfl, rfl, yes_then ⟨_, rfl, _, rfl, pm, pc, d1, d2, _, _, rfl, rfl, hpm1, hpc1, pm, pc, m, c, rfl, hpm, hpc, (hms m (List.mem_of_getElem? hmj)).ok (by decide) (by decide), (hrB c (List.mem_of_getElem? hcj)).ok (by decide) (by decide), fun x H5 hx k5 => ?_⟩⟩
        have hD5 := (kn.trans k5) _ _ hD2 (by simp)
        have ki := KI.lst (o := .lst (ws ++ [.ref x])) hD5
        have hwl := hws.1
        rw [List.length_take] at hwl
        refine ⟨ws, hD5, smallL (by omega), ws ++ [.ref x], upd_same, ?_, (k4.trans k5).then_own nD2⟩
        rw [snoc_take (zip_get hmj hcj)]
        exact (hws.mono fun _ _ z => (z.keep (kn.trans k5)).ki ki).snoc ⟨x, rfl, hx.ki ki⟩
    · rintro H2 ⟨vs, hD, hvs, k2⟩
      have hag : us.length = (agR (ownT tb) ms).length := by unfold agR ownT; rw [List.length_map, List.length_map]; exact hul
      rw [hag, List.take_length] at hvs
      exact k D1 vs H2 (k1.free nD) hD hvs (k1.trans k2)
theorem ok_gain0 {f : Addr} {fd : FuncData} (D : C8.Def K mg "gain" s_gain f fd) (b : Binds K fd ["gains", "player", "first", "second"] []) : C8.Cal P w K mg base 5 "gain" (sp_gain C_Gains C_Ratio 0) [] :=
  ⟨f, fd, ["gains", "player", "first", "second"], [], ⟨fun vs H Q E h => h.1, fun A outer s H args us vs Q E _ _ _ _ h => h.2.elim⟩, D.mgf, D.kp, b, .nil⟩
theorem gn_len {tb : Tab} {ms : List Fr} : (agR (ownT tb) ms).length = tb.length := by unfold agR ownT; rw [List.length_map, List.length_map]
theorem turn_head {tb : Tab} (h : okT tb = true) : ((turnT tb).headD []).length = tb.length := by
  obtain ⟨o1, o2, o3, o4, o5⟩ := okT_iff h
  cases e : turnT tb with
  | nil =>
    have h := turnT_len tb
    rw [e] at h
    change 0 = _ at h
    omega
  | cons a b => exact turnT_row a (by rw [e]; exact List.mem_cons_self ..)
theorem ok_gain {f : Addr} {fd : FuncData} (D : C8.Def K mg "gain" s_gain f fd) (b : Binds K fd ["gains", "player", "first", "second"] []) (T : Txt K mg C_Ratio C_Gains C_GameError C_BadEdit C_BadPlan C_BadRatio C_BadText C_TooLarge C_BadGains) {n k : Nat} (hk : 5 ≤ k) (c_gain : C8.Cal P w K mg base k "gain" (sp_gain C_Gains C_Ratio n) []) (c_turned : C8.Cal P w K mg base 4 "turned" (sp_turned C_Gains C_Ratio) []) (c_against : C8.Cal P w K mg base 5 "against" (sp_against C_Gains C_Ratio) [])
    (c_Ratio_mul : Own P w K mg base 3 C_Ratio "__mul__" (sp_rmul C_Ratio)) (c_total : C8.Cal P w K mg base 4 "total" (sp_total C_Ratio) []) : C8.Cal P w K mg base (k + 1) "gain" (sp_gain C_Gains C_Ratio (n + 1)) [] := by
  refine cal0 D b .nil sc_gain (fun vs H Q E h => ?_) (fun cdv A outer s H vs Q E hr h => ?_)
  · obtain ⟨g, v1, v2, pl, tb, m1, m2, rfl, _⟩ := h
    rfl
  · obtain ⟨g, v1, v2, pl, tb, m1, m2, rfl, hG, hok, hB, hM1, hM2, hl1, hl2, hb1, hb2, hpl, k'⟩ := h
    refine ⟨_, (pss_cons (ps_if (pt_cmpR op_eq (pv 1) pe_int (nomark _))
  (pss_one (ps_ret (pe_c c_gain hr (by first | exact Nat.le_refl _ | decide | omega) rfl (pa_cons (pe_c c_turned hr (by first | exact Nat.le_refl _ | decide | omega) rfl (pa_cons (pv 0) pa_nil)) (pa_cons pe_int (pa_cons (pv 3) (pa_cons (pv 2) pa_nil)))))))
  pss_nil)
(pss_one (ps_ret (pe_c c_total hr (by first | exact Nat.le_refl _ | decide | omega) rfl (pa_cons (pe_lc (own := [("lot", 4), ("number", 5)]) (g := (gTup K 2 (gCons (gName 4) (gCons (gName 5) gNil)))) (tt := tYes) rfl sc_gain.nd (pi_or (RZ.pi_zipA (by rfl) T.n_zip (pa_cons (pv 2) (pa_cons (pe_c c_against hr (by first | exact Nat.le_refl _ | decide | omega) rfl (pa_cons (pv 0) (pa_cons (pv 3) pa_nil))) pa_nil))) (ZNx.pi_zipN (by rfl) T.n_zip (pa_cons (pv 2) (pa_cons (pe_c c_against hr (by first | exact Nat.le_refl _ | decide | omega) rfl (pa_cons (pv 0) (pa_cons (pv 3) pa_nil))) pa_nil)))) (blkOk_by (N := ["gains", "player", "first", "second", "lot", "number"]) (sc := fnScope s_gain) (by decide +kernel)) (fun _ _ _ _ _ => pg_tupK (K := K) (n := 2) (t := (gCons (gName 4) (gCons (gName 5) gNil))) (pgs_cons (pg_name (i := 4) sc_gain.nd rfl (by first | exact Or.inl rfl | exact Or.inr rfl)) (pgs_cons (pg_name (i := 5) sc_gain.nd rfl (by first | exact Or.inl rfl | exact Or.inr rfl)) pgs_nil))) (fun _ _ _ _ _ => pts_nil) (fun _ _ _ _ _ => (pe_op (op_ownB c_Ratio_mul (by rfl) T.sfR hr (by first | decide | omega)) (pv 4) (pv 5)))) pa_nil))))), ?_⟩
    obtain ⟨o1, o2, o3, o4, o5⟩ := okT_iff hok
    rcases hpl with rfl | ⟨rfl, hn⟩
    · rw [if_pos rfl] at k'
      refine ⟨_, rfl, rfl, _, rfl, iteDF (by decide) ?_⟩
      have hAB := agB hB hok hl2 hb2
      have hPB := prodB hb1 hAB
      have hal : (agR (ownT tb) m2).length = tb.length := gn_len
      have hpl : (prodR m1 (agR (ownT tb) m2)).length = tb.length := by rw [prod_len (by omega)]; exact hal
      have fin : ∀ ws D2 H2 H3, Keep [] H H2 → H3 D2 = some (.lst ws) → All2 (RtV C_Ratio H3) ws (prodR m1 (agR (ownT tb) m2)) → Keep [] H2 H3 → sp_total C_Ratio [.ref D2] H3 Q C8.E0 := by
        intro ws D2 H2 H3 k2 hD2 hws k3
        exact ⟨D2, ws, _, rfl, hD2, hws, fun z hz => (hPB z hz).ok (by decide) (by decide), fun j _ => (sumB_take hPB (by omega) j).ok (by decide) (by decide), fun x H4 hx k4 => k' x H4 hx (k2.trans (k3.trans k4))⟩
      obtain ⟨ma, mus, rfl, hma, hmv⟩ := id hM1
      have hmvl := hmv.1
      rcases hma with hma | hma
      · refine Or.inl ?_
        unfold RZ.iZipA
        refine ⟨_, rfl, _, rfl, _, rfl, g, v2, tb, m2, rfl, hG, hok, hB, hM2, hl2, hb2, fun l us H2 nl hl hus k2 => ?_⟩
        have hus1 := hus.1
        refine ⟨ma, l, mus, us, rfl, .inl ⟨SqL.of (k2 _ _ hma (by simp)), SqL.of hl, fun D2 nD2 => ?_⟩⟩
        refine lc_it (L2.walk_zip (xs := mus) (ys := us) (n := mus.length) (by omega)) (fun j H' => ∃ ws, H' D2 = some (.lst ws) ∧ All2 (RtV C_Ratio H') ws ((prodR m1 (agR (ownT tb) m2)).take j) ∧ Keep [] H2 H') ⟨[], upd_same, by rw [List.take_zero]; exact .nil, Keep.new nD2⟩ (fun j H' _ ⟨_, _, _, kk⟩ => ⟨SqL.of ((k2.trans kk) _ _ hma (by simp)), SqL.of (kk _ _ hl (by simp))⟩) ?_ ?_
        rotate_left
        · rintro H3 ⟨ws, hD2, hws, k3⟩
          rw [show mus.length = (prodR m1 (agR (ownT tb) m2)).length by omega, List.take_length] at hws
          exact fin ws D2 H2 H3 k2 hD2 hws k3
        rintro j y H3 H4 hj ⟨ws, hD2, hws, k3⟩ ⟨T1, u, z, rfl, nT, rfl, hu, hz⟩
        have k4 := k3.then_new (o := .tup [u, z]) nT
        have hT : upd H3 T1 (.tup [u, z]) T1 = some (.tup [u, z]) := upd_same
        have kn := Keep.new (W := []) (o := .tup [u, z]) nT
        generalize upd H3 T1 (.tup [u, z]) = H4 at *
        obtain ⟨m, hmj, hmr⟩ := hmv.get hu
        obtain ⟨c, hcj, hcr⟩ := hus.get hz
        obtain ⟨pm, rfl, hpm⟩ := hmr.keep (k2.trans k4)
        obtain ⟨pc, rfl, hpc⟩ := hcr.keep k4
        obtain ⟨d1, hpm1⟩ := id hpm
        obtain ⟨d2, hpc1⟩ := id hpc
        refine ⟨T1, _, rfl, SqT.of hT, rfl, _, _, rfl, _, _, rfl, rfl, rfl, yes_then ⟨_, rfl, _, rfl, pm, pc, d1, d2, _, _, rfl, rfl, hpm1, hpc1, pm, pc, m, c, rfl, hpm, hpc, (hb1 m (List.mem_of_getElem? hmj)).ok (by decide) (by decide), (hAB c (List.mem_of_getElem? hcj)).ok (by decide) (by decide), fun x H5 hx k5 => ?_⟩⟩
        have hD5 := (kn.trans k5) _ _ hD2 (by simp)
        have ki := KI.lst (o := .lst (ws ++ [.ref x])) hD5
        have hwl := hws.1
        rw [List.length_take] at hwl
        refine ⟨ws, hD5, smallL (by omega), ws ++ [.ref x], upd_same, ?_, (k4.trans k5).then_own nD2⟩
        rw [snoc_take (zip_get hmj hcj)]
        exact (hws.mono fun _ _ z => (z.keep (kn.trans k5)).ki ki).snoc ⟨x, rfl, hx.ki ki⟩
      · refine Or.inr ?_
        unfold ZNx.iZipN
        refine ⟨_, rfl, _, rfl, _, rfl, g, v2, tb, m2, rfl, hG, hok, hB, hM2, hl2, hb2, fun l us H2 nl hl hus k2 => ?_⟩
        have hus1 := hus.1
        refine ⟨ma, l, mus, us, rfl, SqT.of (k2 _ _ hma (by simp)), SqL.of hl, fun D2 nD2 => ?_⟩
        refine lc_it (ZNx.walk_mixN (xs := mus) (ys := us) (by omega)) (fun j H' => ∃ ws, H' D2 = some (.lst ws) ∧ All2 (RtV C_Ratio H') ws ((prodR m1 (agR (ownT tb) m2)).take j) ∧ Keep [] H2 H') ⟨[], upd_same, by rw [List.take_zero]; exact .nil, Keep.new nD2⟩ (fun j H' _ ⟨_, _, _, kk⟩ => ⟨SqT.of ((k2.trans kk) _ _ hma (by simp)), SqL.of (kk _ _ hl (by simp))⟩) ?_ ?_
        rotate_left
        · rintro H3 ⟨ws, hD2, hws, k3⟩
          rw [show mus.length = (prodR m1 (agR (ownT tb) m2)).length by omega, List.take_length] at hws
          exact fin ws D2 H2 H3 k2 hD2 hws k3
        rintro j y H3 H4 hj ⟨ws, hD2, hws, k3⟩ ⟨T1, u, z, rfl, nT, rfl, hu, hz⟩
        have k4 := k3.then_new (o := .tup [u, z]) nT
        have hT : upd H3 T1 (.tup [u, z]) T1 = some (.tup [u, z]) := upd_same
        have kn := Keep.new (W := []) (o := .tup [u, z]) nT
        generalize upd H3 T1 (.tup [u, z]) = H4 at *
        obtain ⟨m, hmj, hmr⟩ := hmv.get hu
        obtain ⟨c, hcj, hcr⟩ := hus.get hz
        obtain ⟨pm, rfl, hpm⟩ := hmr.keep (k2.trans k4)
        obtain ⟨pc, rfl, hpc⟩ := hcr.keep k4
        obtain ⟨d1, hpm1⟩ := id hpm
        obtain ⟨d2, hpc1⟩ := id hpc
        refine ⟨T1, _, rfl, SqT.of hT, rfl, _, _, rfl, _, _, rfl, rfl, rfl, yes_then ⟨_, rfl, _, rfl, pm, pc, d1, d2, _, _, rfl, rfl, hpm1, hpc1, pm, pc, m, c, rfl, hpm, hpc, (hb1 m (List.mem_of_getElem? hmj)).ok (by decide) (by decide), (hAB c (List.mem_of_getElem? hcj)).ok (by decide) (by decide), fun x H5 hx k5 => ?_⟩⟩
        have hD5 := (kn.trans k5) _ _ hD2 (by simp)
        have ki := KI.lst (o := .lst (ws ++ [.ref x])) hD5
        have hwl := hws.1
        rw [List.length_take] at hwl
        refine ⟨ws, hD5, smallL (by omega), ws ++ [.ref x], upd_same, ?_, (k4.trans k5).then_own nD2⟩
        rw [snoc_take (zip_get hmj hcj)]
        exact (hws.mono fun _ _ z => (z.keep (kn.trans k5)).ki ki).snoc ⟨x, rfl, hx.ki ki⟩
    · obtain ⟨m, rfl⟩ : ∃ m, n = m + 1 := ⟨n - 1, by omega⟩
      rw [if_neg (by decide)] at k'
      refine ⟨_, rfl, rfl, _, rfl, iteDT rfl ?_⟩
      refine ⟨_, rfl, g, tb, rfl, hG, hok, fun x H1 nx hx k1 => ⟨_, rfl, _, rfl, x, v2, v1, 1, turnT tb, m2, m1, rfl, hx, okT_turn hok, hB.turn hok, hM2.keep k1, hM1.keep k1, by rw [turnT_len]; exact hl2, by rw [turn_head hok]; exact hl1, hb2, hb1, .inl rfl, fun y H2 hy k2 => ?_⟩⟩
      rw [if_pos rfl] at hy
      exact k' y H2 hy (k1.trans k2)
end

/-! the law's own reckoning: _law_told, _law_dot, _law_row_gains, _law_gain_due, _law_number, _law_plain -/
def sp_ltold (CG CR : Addr) : Sp := fun vs H Q _ => ∃ (a : Addr) (tb : Tab), vs = [.ref a] ∧ TbIn CR H a tb ∧ tb.length ≤ 1000 ∧ (∀ r ∈ tb, r.length ≤ 1000) ∧
  (okT tb = true → ∀ t g H', H' t = some (.tup [.non, .ref g]) → GnAt CG CR H' g tb → Keep [] H H' → Q (.ref t) H') ∧ (okT tb = false → ∀ t H', H' t = some (.tup [.str "size", .non]) → Keep [] H H' → Q (.ref t) H')
/-- a tuple of pairs -/
def FrsAt (H : Hp) (a : Addr) (xs : List Fr) : Prop := ∃ us, H a = some (.tup us) ∧ All2 (FrAt H) us xs
def dotP (xs ys : List Fr) : Fr := (prodR xs ys).foldl plR (0, 1)
def rgP (tb : Tab) (m : List Fr) : List Fr := tb.map fun r => dotP m (r.map (·.1))
def selC (pl : Int) (c : Cel) : Fr := if pl = 1 then c.1 else c.2
def dueP (tb : Tab) (pl : Int) (m1 m2 : List Fr) : Fr := dotP m1 (tb.map fun r => dotP m2 (r.map (selC pl)))
theorem FrB.pl {a b a' b' m : Nat} {x y : Fr} (h : FrB a b x) (g : FrB a' b' y) (h1 : a + b' ≤ m) (h2 : a' + b ≤ m) : FrB (m + 1) (b + b') (plR x y) := by
  unfold plR
  split
  · exact g.mono (by omega) (by omega)
  · split
    · exact h.mono (by omega) (by omega)
    · exact h.add g h1 h2
theorem foldP_snoc (l : List Fr) (r : Fr) : (l ++ [r]).foldl plR (0, 1) = plR (l.foldl plR (0, 1)) r := by rw [List.foldl_append]; rfl
theorem sumP {a b : Nat} (rs : List Fr) : (∀ r ∈ rs, FrB a b r) → FrB (a + (b + 1) * rs.length) (b * rs.length) (rs.foldl plR (0, 1)) := by
  refine rev_ind (p := fun rs => (∀ r ∈ rs, FrB a b r) → FrB (a + (b + 1) * rs.length) (b * rs.length) (rs.foldl plR (0, 1))) ?_ ?_ rs
  · intro _; exact ⟨by decide, Nat.two_pow_pos _, Nat.one_le_two_pow⟩
  · intro l r ih h
    have i1 := ih fun z hz => h z (List.mem_append_left _ hz)
    have i2 := h r (List.mem_append_right _ (List.mem_singleton.mpr rfl))
    rw [foldP_snoc]
    refine (i1.pl i2 (m := a + (b + 1) * l.length + b) (Nat.le_refl _) ?_).mono ?_ ?_
    · have : b * l.length ≤ (b + 1) * l.length := Nat.mul_le_mul_right _ (Nat.le_succ b)
      omega
    · rw [List.length_append, List.length_singleton, Nat.mul_add, Nat.mul_one]; omega
    · rw [List.length_append, List.length_singleton, Nat.mul_add, Nat.mul_one]; exact Nat.le_refl _
theorem sumP8 {a b : Nat} {rs : List Fr} (h : ∀ r ∈ rs, FrB a b r) (hl : rs.length ≤ 8) : FrB (a + (b + 1) * 8) (b * 8) (rs.foldl plR (0, 1)) :=
  (sumP rs h).mono (Nat.add_le_add_left (Nat.mul_le_mul_left _ hl) _) (Nat.mul_le_mul_left _ hl)
theorem sumP_take {a b : Nat} {rs : List Fr} (h : ∀ r ∈ rs, FrB a b r) (hl : rs.length ≤ 8) (i : Nat) : FrB (a + (b + 1) * 8) (b * 8) ((rs.take i).foldl plR (0, 1)) :=
  sumP8 (fun r hr => h r (List.mem_of_mem_take hr)) (by rw [List.length_take]; omega)
theorem dotB {a b a' b' : Nat} {xs ys : List Fr} (hx : ∀ r ∈ xs, FrB a b r) (hy : ∀ r ∈ ys, FrB a' b' r) (hl : xs.length ≤ 8) : FrB (a + a' + (b + b' + 1) * 8) ((b + b') * 8) (dotP xs ys) :=
  sumP8 (prodB hx hy) (by unfold prodR; rw [List.length_zipWith]; omega)
def sp_dot : Sp := fun vs H Q _ => ∃ (p q : Addr) (us ws : List V) (xs ys : List Fr) (a b a' b' : Nat), vs = [.ref p, .ref q] ∧ H p = some (.tup us) ∧ (H q = some (.lst ws) ∨ H q = some (.tup ws)) ∧ All2 (FrAt H) us xs ∧ All2 (FrAt H) ws ys ∧ xs.length = ys.length ∧ xs.length ≤ 8 ∧
  (∀ r ∈ xs, FrB a b r) ∧ (∀ r ∈ ys, FrB a' b' r) ∧ a + a' + (b + b' + 1) * 8 ≤ 3900 ∧ (b + b') * 8 < 3900 ∧ ∀ z H', FrAt H' z (dotP xs ys) → Keep [] H H' → Q z H'
def sp_rowg : Sp := fun vs H Q _ => ∃ (t m : Addr) (us : List V) (tb : Tab) (ms : List Fr), vs = [.ref t, .ref m] ∧ H t = some (.tup us) ∧ TDs H us (tb.map dRw) ∧ okT tb = true ∧ TbB tb ∧ FrsAt H m ms ∧ ms.length = (tb.headD []).length ∧ (∀ r ∈ ms, FrB 10 10 r) ∧
  ∀ l ws H', H l = none → H' l = some (.lst ws) → All2 (FrAt H') ws (rgP tb ms) → Keep [] H H' → Q (.ref l) H'
def sp_due : Sp := fun vs H Q _ => ∃ (t p q : Addr) (pl : Int) (us : List V) (tb : Tab) (m1 m2 : List Fr), vs = [.ref t, .int pl, .ref p, .ref q] ∧ H t = some (.tup us) ∧ TDs H us (tb.map dRw) ∧ okT tb = true ∧ TbB tb ∧ FrsAt H p m1 ∧ FrsAt H q m2 ∧ m1.length = tb.length ∧ m2.length = (tb.headD []).length ∧
  (∀ r ∈ m1, FrB 10 10 r) ∧ (∀ r ∈ m2, FrB 10 10 r) ∧ (pl = 1 ∨ pl = 2) ∧ ∀ z H', FrAt H' z (dueP tb pl m1 m2) → Keep [] H H' → Q z H'
/-- in lowest terms -/
def RedOk (r : Fr) : Prop := 0 < r.2 ∧ redN r.1 r.2 = r.1 ∧ redD r.1 r.2 = r.2
def sp_number (C : Addr) : Sp := fun vs H Q _ => ∃ (p : Addr) (r : Fr), vs = [.ref p] ∧ RatAt C H p r.1 r.2 ∧ RedOk r ∧ r.2.natAbs < 2 ^ 8000 ∧ ∀ z H', TD H' z (dFr r) → Keep [] H H' → Q z H'
/-- what _law_plain makes of a value -/
def PlV (C : Addr) : Nat → Hp → V → PyData → Prop
  | 0, _, _, _ => False
  | n + 1, H, v, d => (∃ p r, v = .ref p ∧ RatAt C H p r.1 r.2 ∧ RedOk r ∧ r.2.natAbs < 2 ^ 8000 ∧ d = dFr r) ∨ ∃ t vs ds, v = .ref t ∧ H t = some (.tup vs) ∧ d = .tuple ds ∧ vs.length = ds.length ∧ vs.length ≤ 1000 ∧ ∀ (i : Nat) u e, vs[i]? = some u → ds[i]? = some e → PlV C n H u e
theorem PlV.keep {C : Addr} : ∀ {n : Nat} {H H' : Hp} {v : V} {d : PyData}, Keep [] H H' → PlV C n H v d → PlV C n H' v d
  | 0, _, _, _, _, _, h => h.elim
  | n + 1, H, H', v, d, k, h => by
    rcases h with ⟨p, r, e, h1, h2⟩ | ⟨t, vs, ds, e, h1, h2, h3, h4, h5⟩
    · exact .inl ⟨p, r, e, h1.keep0 k, h2⟩
    · exact .inr ⟨t, vs, ds, e, k _ _ h1 (by simp), h2, h3, h4, fun i u e a b => (h5 i u e a b).keep k⟩
def sp_plain (C : Addr) (n : Nat) : Sp := fun vs H Q _ => ∃ v d, vs = [v] ∧ PlV C n H v d ∧ ∀ z H', TD H' z d → Keep [] H H' → Q z H'
theorem FrAt.td {H : Hp} {v : V} {r : Fr} (h : FrAt H v r) : TD H v (dFr r) := by
  obtain ⟨t, rfl, h⟩ := h
  exact .tup h (.cons (.int _) (.cons (.int _) .nil))
theorem FrAt.of {H : Hp} {v : V} {r : Fr} (h : TD H v (dFr r)) : FrAt H v r := td_fr h
theorem FrAt.tk {H H' : Hp} {v : V} {r : Fr} (h : FrAt H v r) (k : TK H H') : FrAt H' v r := by
  obtain ⟨t, e, h⟩ := h
  exact ⟨t, e, k _ _ h⟩
theorem shaped_fr (r : Fr) : SeqAt.shaped (dFr r) = true := rfl
section
variable {P : Program} {w : World} {K : PySem.W.Frag} {mg : Str → Option Value} {base : Heap} {C_Ratio : Addr} {C_Gains : Addr} {C_GameError : Addr} {C_BadEdit : Addr} {C_BadPlan : Addr} {C_BadRatio : Addr} {C_BadText : Addr} {C_TooLarge : Addr} {C_BadGains : Addr} {f_BadGains___init : Addr}
theorem ok_ltold {f : Addr} {fd : FuncData} (D : C8.Def K mg "_law_told" s_law_told f fd) (b : Binds K fd ["cells"] []) (T : Txt K mg C_Ratio C_Gains C_GameError C_BadEdit C_BadPlan C_BadRatio C_BadText C_TooLarge C_BadGains) (c_Gains : MakX P w K mg base 2 "Gains" C_Gains (sp_gains C_Gains C_Ratio C_BadGains)) : C8.Cal P w K mg base 4 "_law_told" (sp_ltold C_Gains C_Ratio) [] := by
  refine cal0 D b .nil sc_law_told (fun vs H Q E h => ?_) (fun cdv A outer s H vs Q E hr h => ?_)
  · obtain ⟨a, tb, rfl, _⟩ := h
    rfl
  · obtain ⟨a, tb, rfl, hin, hl1, hl2, k1, k2⟩ := h
    refine ⟨_, (pss_cons (ps_try_as (i := 1) rfl rfl sc_law_told.nd rfl rfl ⟨rfl, by decide, .inl T.m_GameError⟩ takes0 (fun W pn xe tk ps =>
  (pss_one (ps_ret (pe_tup (pa_cons pe_non (pa_cons (pe_mkS c_Gains hr (by first | exact Nat.le_refl _ | decide | omega) rfl tk (pa_cons (pv 0) pa_nil)) pa_nil))))))
  (fun a oe cls d pn hz hf =>
  (pss_one (ps_if (PW.pt (pw_and (pt_val (pe_callB (call_isX hz hf) (by rfl) T.n_isinstance bo_isinstance (pa_cons (pv 1) (pa_cons (pe_glob (v := .ref _) rfl T.m_BadGains rfl) pa_nil)))) (pw_and1 (pt_not (pt_val (pe_callB (call_isXT hz hf) (by rfl) T.n_isinstance bo_isinstance (pa_cons (pv 1) (pa_cons (pe_tup (pa_cons (pe_glob (v := .ref _) rfl T.m_BadEdit rfl) (pa_cons (pe_glob (v := .ref _) rfl T.m_BadPlan rfl) (pa_cons (pe_glob (v := .ref _) rfl T.m_BadRatio rfl) (pa_cons (pe_glob (v := .ref _) rfl T.m_BadText rfl) (pa_cons (pe_glob (v := .ref _) rfl T.m_TooLarge rfl) pa_nil)))))) pa_nil))))))))
    (pss_one (ps_ret (pe_tup (pa_cons (pe_xf T.f_BadGains T.no_BadGains hz hf (pv 1)) (pa_cons pe_non pa_nil)))))
    pss_nil))))
(pss_one (ps_ret (pe_tup (pa_cons pe_str (pa_cons pe_non pa_nil)))))), ?_⟩
    refine ⟨_, rfl, fun x dx nx ndx ne => ?_⟩
    refine ⟨x, dx, a, tb, rfl, upd_same, hin.keep (Keep.made nx ndx), hl1, hl2, fun hok H2 hG kx => ⟨rfl, ?_⟩, fun hok d H2 nd hd kx => ?_⟩
    · have km := keep_made nx ndx kx
      refine And.intro (by show 2 ≤ sizeLine; decide) <| fun t nt => ?_
      have kt := Keep.new (W := []) (o := .tup [.non, .ref x]) nt
      exact k1 hok t x _ upd_same (hG.keep kt) (km.trans kt)
    · have km := keep_made nx ndx kx
      refine ⟨true, PySem.W.exm_ref T.gE T.gH T.gT T.gS, fun _ a' ha' => ?_, fun q => nomatch q⟩
      refine ⟨_, rfl, _, _, d, _, true, rfl, rfl, rfl, T.e_BadGains, hd, kitSelf, _, rfl, iteT ?_⟩
      refine ⟨_, rfl, by show 5 ≤ sizeLine; decide, fun tp ntp => ?_⟩
      have K5 := Keep.new (W := []) (o := .tup [.ref C_BadEdit, .ref C_BadPlan, .ref C_BadRatio, .ref C_BadText, .ref C_TooLarge]) ntp
      have hd5 := K5 _ _ hd (by simp)
      refine ⟨_, tp, d, [C_BadEdit, C_BadPlan, C_BadRatio, C_BadText, C_TooLarge], _, false, rfl, rfl, rfl, T.e_BadGains, hd5, upd_same, T.kX, _, rfl, iteT ?_⟩
      refine ⟨_, rfl, rfl, rfl, d, _, _, rfl, hd5, rfl, ?_⟩
      refine And.intro (by show 2 ≤ sizeLine; decide) <| fun t nt => ?_
      exact k2 hok t _ upd_same ((km.trans K5).then_new nt)
theorem ok_dot {f : Addr} {fd : FuncData} (D : C8.Def K mg "_law_dot" s_law_dot f fd) (b : Binds K fd ["one", "other"] []) (T : Txt K mg C_Ratio C_Gains C_GameError C_BadEdit C_BadPlan C_BadRatio C_BadText C_TooLarge C_BadGains) (c_law_plus : C8.Cal P w K mg base 3 "_law_plus" sp_plus []) (c_law_times : C8.Cal P w K mg base 3 "_law_times" sp_times []) : C8.Cal P w K mg base 4 "_law_dot" sp_dot [] := by
  refine cal0 D b .nil sc_law_dot (fun vs H Q E h => ?_) (fun cdv A outer s H vs Q E hr h => ?_)
  · obtain ⟨p, q, us, ws, xs, ys, a, b, a', b', rfl, _⟩ := h
    rfl
  · obtain ⟨p, q, us, ws, xs, ys, a, b, a', b', rfl, hp, hq, hus, hws, hl, h8, hx, hy, hA, hB, k⟩ := h
    refine ⟨_, (pss_cons (ps_set (i := 2) sc_law_dot.nd rfl (by first | exact Or.inl rfl | exact Or.inr rfl) (pe_tup (pa_cons pe_int (pa_cons pe_int pa_nil))))
(pss_cons (ps_for PassesOwn.never rfl (pi_range1 (by rfl) T.n_range (pa_cons (pe_callB call_len_seq (by rfl) T.n_len bo_len (pa_cons (pv 0) pa_nil)) pa_nil)) (pg_name (i := 3) sc_law_dot.nd rfl (by first | exact Or.inl rfl | exact Or.inr rfl))
  (pss_one (ps_set (i := 2) sc_law_dot.nd rfl (by first | exact Or.inl rfl | exact Or.inr rfl) (pe_c c_law_plus hr (by first | exact Nat.le_refl _ | decide | omega) rfl (pa_cons (pv 2) (pa_cons (pe_c c_law_times hr (by first | exact Nat.le_refl _ | decide | omega) rfl (pa_cons (pe_ix ix_tup (pv 0) (pv 3) (fun _ _ => rfl)) (pa_cons (pe_ix ix_seq (pv 1) (pv 3) (fun _ _ => rfl)) pa_nil))) pa_nil))))))
(pss_one (ps_ret (pv 2))))), ?_⟩
    have hul := hus.1
    have hwl := hws.1
    have hPB := prodB hx hy
    have hpl : (prodR xs ys).length = xs.length := by rw [prod_len hl]; exact hl.symm
    refine And.intro (by show 2 ≤ sizeLine; decide) <| fun t nt => ?_
    have kt := Keep.new (W := []) (o := .tup [.int 0, .int 1]) nt
    have ht : upd H t (.tup [.int 0, .int 1]) t = some (.tup [.int 0, .int 1]) := upd_same
    generalize upd H t (.tup [.int 0, .int 1]) = H1 at *
    refine ⟨_, rfl, p, us, rfl, .inr (SqT.of (kt _ _ hp (by simp))), _, rfl, by omega, by omega, for_range (lo := 0) (n := us.length) (fun i σ H' => ∃ z o3, σ = [some (.ref p), some (.ref q), some z, o3] ∧ FrAt H' z (((prodR xs ys).take i).foldl plR (0, 1)) ∧ Keep [] H H') ⟨.ref t, none, rfl, ⟨t, rfl, ht⟩, kt⟩ ?_ ?_⟩
    · rintro i σ H2 hi ⟨z, o3, rfl, hz, k2⟩
      have e0 : (0 : Int) + (i : Int) = (i : Int) := by omega
      rw [e0]
      have hui : us[i]? = some us[i] := List.getElem?_eq_getElem hi
      have hwi : ws[i]? = some (ws[i]'(by omega)) := List.getElem?_eq_getElem (by omega)
      obtain ⟨x, hxi, hxv⟩ := hus.get hui
      obtain ⟨y, hyi, hyv⟩ := hws.get hwi
      have ox := hx x (List.mem_of_getElem? hxi)
      have oy := hy y (List.mem_of_getElem? hyi)
      have key : ∀ R : Prop, True → True := fun _ _ => trivial
      refine ⟨_, rfl, _, rfl, _, rfl, _, _, _, _, rfl, rfl, SqT.of (k2 _ _ hp (by simp)), atI_nat hui, _, rfl, _, rfl, ?_⟩
      have fin : ∀ {Q' : VK}, (∀ z H3, FrAt H3 z (((prodR xs ys).take (i + 1)).foldl plR (0, 1)) → Keep [] H H3 → Q' z H3) → sp_times [us[i], ws[i]] H2 (fun v H3 => sp_plus [z, v] H3 Q' C8.E0) C8.E0 := by
        intro Q' kq
        refine ⟨_, _, x, y, rfl, hxv.keep k2, hyv.keep k2, ox.ok (by omega) (by omega), oy.ok (by omega) (by omega), fun v H3 hv k3 => ?_⟩
        have oz := sumP_take hPB (by omega) i
        have om := ox.mul oy
        refine ⟨_, _, _, _, rfl, hz.keep k3, hv, oz.ok (by omega) (by omega), om.ok (by omega) (by omega), fun y' H4 hy' k4 => kq y' H4 ?_ ((k2.trans k3).trans k4)⟩
        rw [snoc_take (zip_get hxi hyi), foldP_snoc]
        exact hy'
      rcases hq with hq | hq
      · refine .inl ⟨_, _, _, _, rfl, rfl, SqL.of (k2 _ _ hq (by simp)), atI_nat hwi, ?_⟩
        exact fin fun z H3 hz3 k3 => ⟨_, _, rfl, hz3, k3⟩
      · refine .inr (.inl ⟨_, _, _, _, rfl, rfl, SqT.of (k2 _ _ hq (by simp)), atI_nat hwi, ?_⟩)
        exact fin fun z H3 hz3 k3 => ⟨_, _, rfl, hz3, k3⟩
    · rintro σ H2 ⟨z, o3, rfl, hz, k2⟩
      rw [show us.length = (prodR xs ys).length by omega, List.take_length] at hz
      exact ⟨_, rfl, k z H2 hz k2⟩
theorem ok_rowg {f : Addr} {fd : FuncData} (D : C8.Def K mg "_law_row_gains" s_law_row_gains f fd) (b : Binds K fd ["table", "mix"] []) (T : Txt K mg C_Ratio C_Gains C_GameError C_BadEdit C_BadPlan C_BadRatio C_BadText C_TooLarge C_BadGains) (c_law_dot : C8.Cal P w K mg base 4 "_law_dot" sp_dot []) : C8.Cal P w K mg base 5 "_law_row_gains" sp_rowg [] := by
  refine cal0 D b .nil sc_law_row_gains (fun vs H Q E h => ?_) (fun cdv A outer s H vs Q E hr h => ?_)
  · obtain ⟨t, m, us, tb, ms, rfl, _⟩ := h
    rfl
  · obtain ⟨t, m, us, tb, ms, rfl, ht, hus, hok, hB, ⟨mus, hm, hmv⟩, hml, hms, k⟩ := h
    refine ⟨_, (pss_one (ps_ret (pe_lc (own := [("row", 2)]) (g := gName 2) (tt := tYes) rfl sc_law_row_gains.nd (pi_tup (pv 0)) (blkOk_by (N := ["table", "mix", "row", "cell"]) (sc := fnScope s_law_row_gains) (by decide +kernel)) (fun _ _ _ _ _ => pg_name (i := 2) sc_law_row_gains.nd rfl (by first | exact Or.inl rfl | exact Or.inr rfl)) (fun _ _ _ _ _ => pts_nil) (fun _ _ _ _ _ => (pe_c c_law_dot hr (by first | exact Nat.le_refl _ | decide | omega) rfl (pa_cons (pv 1) (pa_cons (pe_lc (own := [("cell", 3)]) (g := gName 3) (tt := tYes) rfl sc_law_row_gains.nd (pi_tupK (K := K) (pv 2)) (blkOk_by (N := ["table", "mix", "row", "cell"]) (sc := _) (by rfl)) (fun _ _ _ _ _ => pg_name (i := 3) sc_law_row_gains.nd rfl (by first | exact Or.inl rfl | exact Or.inr rfl)) (fun _ _ _ _ _ => pts_nil) (fun _ _ _ _ _ => (pe_ix (ix_tupK (K := K)) (pv 3) pe_int (fun _ _ => rfl)))) pa_nil))))))), ?_⟩
    obtain ⟨o1, o2, o3, o4, o5⟩ := okT_iff hok
    have hul := hus.length
    rw [List.length_map] at hul
    refine ⟨_, rfl, t, rfl, ⟨_, SqT.of ht⟩, fun D1 nD => ?_⟩
    refine lc_tup (K := K) (a := t) (xs := us) (fun i H' => ∃ vs, H' D1 = some (.lst vs) ∧ All2 (FrAt H') vs ((rgP tb ms).take i) ∧ Keep [] H H') ⟨[], upd_same, by rw [List.take_zero]; exact .nil, Keep.new nD⟩ (fun i H' _ ⟨_, _, _, kk⟩ => SqT.of (kk _ _ ht (by simp))) ?_ ?_
    · rintro i v H1 hv ⟨vs, hD, hvs, k1⟩
      have hil := (List.getElem?_eq_some_iff.mp hv).1
      obtain ⟨r, hri⟩ : ∃ r, tb[i]? = some r := ⟨_, List.getElem?_eq_getElem (by omega)⟩
      obtain ⟨v', hv', hvd⟩ := (hus.tk k1.tk).get (i := i) (d := dRw r) (by rw [List.getElem?_map, hri]; rfl)
      rw [hv] at hv'
      cases hv'
      obtain ⟨rt, rvs, rfl, hrt, hrv⟩ := td_rw hvd
      have hrl := o5 r (List.mem_of_getElem? hri)
      have hrvl := hrv.length
      rw [List.length_map] at hrvl
      have hvl := hvs.1
      rw [List.length_take] at hvl
      have hm1 := k1 _ _ hm (by simp)
      refine ⟨rfl, yes_then ⟨_, rfl, _, rfl, rt, rfl, ⟨_, SqT.of hrt⟩, fun D2 nD2 => ?_⟩⟩
      refine lc_tup (K := K) (a := rt) (xs := rvs) (fun j H' => ∃ ws, H' D2 = some (.lst ws) ∧ All2 (FrAt H') ws ((r.map (·.1)).take j) ∧ Keep [] H1 H') ⟨[], upd_same, by rw [List.take_zero]; exact .nil, Keep.new nD2⟩ (fun j H' _ ⟨_, _, _, kk⟩ => SqT.of (kk _ _ hrt (by simp))) ?_ ?_
      · rintro j u H2 hu ⟨ws, hD2, hws, k2⟩
        have hjl := (List.getElem?_eq_some_iff.mp hu).1
        obtain ⟨c, hcj⟩ : ∃ c, r[j]? = some c := ⟨_, List.getElem?_eq_getElem (by omega)⟩
        obtain ⟨u', hu', hud⟩ := (hrv.tk k2.tk).get (i := j) (d := dCel c) (by rw [List.getElem?_map, hcj]; rfl)
        rw [hu] at hu'
        cases hu'
        obtain ⟨ct, p, q, rfl, hct, hp, hq⟩ := td_cel hud
        have hwl := hws.1
        rw [List.length_take, List.length_map] at hwl
        have tl := TK.lst (o := .lst (ws ++ [.ref p])) hD2
        refine ⟨rfl, yes_then ⟨_, rfl, _, _, _, _, rfl, rfl, SqT.of hct, rfl, ws, hD2, smallL (by omega), ws ++ [.ref p], upd_same, ?_, k2.then_own nD2⟩⟩
        rw [snoc_take (show (r.map (·.1))[j]? = some c.1 by rw [List.getElem?_map, hcj]; rfl)]
        exact (hws.mono fun _ _ z => z.tk tl).snoc ⟨p, rfl, tl _ _ hp⟩
      · rintro H2 ⟨ws, hD2, hws, k2⟩
        rw [show rvs.length = (r.map (·.1)).length by rw [List.length_map]; exact hrvl, List.take_length] at hws
        refine ⟨m, D2, mus, ws, ms, _, 10, 10, 100, 25, rfl, k2 _ _ hm1 (by simp), .inl hD2, hmv.mono fun _ _ z => z.keep (k1.trans k2), hws, by rw [List.length_map]; omega, by omega, hms, fun x hx => ?_, by decide, by decide, fun z H3 hz k3 => ?_⟩
        · obtain ⟨c, hc, rfl⟩ := List.mem_map.mp hx
          exact (hB r (List.mem_of_getElem? hri) c hc).1
        · have k13 := k2.trans k3
          have hD3 := k13 _ _ hD (by simp)
          have tl := TK.lst (o := .lst (vs ++ [z])) hD3
          refine ⟨vs, hD3, smallL (by omega), vs ++ [z], upd_same, ?_, (k1.trans k13).then_own nD⟩
          rw [snoc_take (show (rgP tb ms)[i]? = some (dotP ms (r.map (·.1))) by unfold rgP; rw [List.getElem?_map, hri]; rfl)]
          exact (hvs.mono fun _ _ z => (z.keep k13).tk tl).snoc (hz.tk tl)
    · rintro H1 ⟨vs, hD, hvs, k1⟩
      rw [show us.length = (rgP tb ms).length by unfold rgP; rw [List.length_map]; exact hul, List.take_length] at hvs
      exact k D1 vs H1 nD hD hvs k1
theorem ok_due {f : Addr} {fd : FuncData} (D : C8.Def K mg "_law_gain_due" s_law_gain_due f fd) (b : Binds K fd ["table", "player", "first", "second"] []) (T : Txt K mg C_Ratio C_Gains C_GameError C_BadEdit C_BadPlan C_BadRatio C_BadText C_TooLarge C_BadGains) (c_law_dot : C8.Cal P w K mg base 4 "_law_dot" sp_dot []) (c_law_plus : C8.Cal P w K mg base 3 "_law_plus" sp_plus []) (c_law_times : C8.Cal P w K mg base 3 "_law_times" sp_times []) : C8.Cal P w K mg base 5 "_law_gain_due" sp_due [] := by
  refine cal0 D b .nil sc_law_gain_due (fun vs H Q E h => ?_) (fun cdv A outer s H vs Q E hr h => ?_)
  · obtain ⟨t, p, q, pl, us, tb, m1, m2, rfl, _⟩ := h
    rfl
  · obtain ⟨t, p, q, pl, us, tb, m1, m2, rfl, ht, hus, hok, hB, ⟨pus, hp, hpv⟩, ⟨qus, hq, hqv⟩, hl1, hl2, hb1, hb2, hpl, k⟩ := h
    refine ⟨_, (pss_cons (ps_set (i := 4) sc_law_gain_due.nd rfl (by first | exact Or.inl rfl | exact Or.inr rfl) (pe_tup (pa_cons pe_int (pa_cons pe_int pa_nil))))
(pss_cons (ps_for PassesOwn.never rfl (pi_range1 (by rfl) T.n_range (pa_cons (pe_callB call_len_seq (by rfl) T.n_len bo_len (pa_cons (pv 0) pa_nil)) pa_nil)) (pg_name (i := 5) sc_law_gain_due.nd rfl (by first | exact Or.inl rfl | exact Or.inr rfl))
  (pss_one (ps_set (i := 4) sc_law_gain_due.nd rfl (by first | exact Or.inl rfl | exact Or.inr rfl) (pe_c c_law_plus hr (by first | exact Nat.le_refl _ | decide | omega) rfl (pa_cons (pv 4) (pa_cons (pe_c c_law_times hr (by first | exact Nat.le_refl _ | decide | omega) rfl (pa_cons (pe_ix ix_tup (pv 2) (pv 5) (fun _ _ => rfl)) (pa_cons (pe_c c_law_dot hr (by first | exact Nat.le_refl _ | decide | omega) rfl (pa_cons (pv 3) (pa_cons (pe_lc (own := [("cell", 6)]) (g := gName 6) (tt := tYes) rfl sc_law_gain_due.nd (pi_tup (pe_ix ix_tup (pv 0) (pv 5) (fun _ _ => rfl))) (blkOk_by (N := ["table", "player", "first", "second", "whole", "i", "cell"]) (sc := fnScope s_law_gain_due) (by decide +kernel)) (fun _ _ _ _ _ => pg_name (i := 6) sc_law_gain_due.nd rfl (by first | exact Or.inl rfl | exact Or.inr rfl)) (fun _ _ _ _ _ => pts_nil) (fun _ _ _ _ _ => (pe_ix (ix_tupK (K := K)) (pv 6) (pe_op op_sub (pv 1) pe_int) (fun _ _ => rfl)))) pa_nil))) pa_nil))) pa_nil))))))
(pss_one (ps_ret (pv 4))))), ?_⟩
    obtain ⟨o1, o2, o3, o4, o5⟩ := okT_iff hok
    have hul := hus.length
    rw [List.length_map] at hul
    have hpvl := hpv.1
    have selB : ∀ r ∈ tb, ∀ x ∈ r.map (selC pl), FrB 100 25 x := fun r hr x hx => by
      obtain ⟨c, hc, rfl⟩ := List.mem_map.mp hx
      unfold selC
      split
      · exact (hB r hr c hc).1
      · exact (hB r hr c hc).2
    have rowB : ∀ x ∈ tb.map (fun r => dotP m2 (r.map (selC pl))), FrB 398 280 x := fun x hx => by
      obtain ⟨r, hr, rfl⟩ := List.mem_map.mp hx
      exact dotB hb2 (selB r hr) (by omega)
    have hPB := prodB hb1 rowB
    have hpl2 : (prodR m1 (tb.map fun r => dotP m2 (r.map (selC pl)))).length = tb.length := by rw [prod_len (by rw [List.length_map]; exact hl1), List.length_map]
    refine And.intro (by show 2 ≤ sizeLine; decide) <| fun t0 nt => ?_
    have kt := Keep.new (W := []) (o := .tup [.int 0, .int 1]) nt
    have ht0 : upd H t0 (.tup [.int 0, .int 1]) t0 = some (.tup [.int 0, .int 1]) := upd_same
    generalize upd H t0 (.tup [.int 0, .int 1]) = H1 at *
    refine ⟨_, rfl, t, us, rfl, .inr (SqT.of (kt _ _ ht (by simp))), _, rfl, by omega, by omega, for_range (lo := 0) (n := us.length) (fun i σ H' => ∃ z o5 o6, σ = [some (.ref t), some (.int pl), some (.ref p), some (.ref q), some z, o5, o6] ∧ FrAt H' z (((prodR m1 (tb.map fun r => dotP m2 (r.map (selC pl)))).take i).foldl plR (0, 1)) ∧ Keep [] H H') ⟨.ref t0, none, none, rfl, ⟨t0, rfl, ht0⟩, kt⟩ ?_ ?_⟩
    · rintro i σ H2 hi ⟨z, o5', o6, rfl, hz, k2⟩
      have e0 : (0 : Int) + (i : Int) = (i : Int) := by omega
      rw [e0]
      have hui : us[i]? = some us[i] := List.getElem?_eq_getElem hi
      have hpi : pus[i]? = some (pus[i]'(by omega)) := List.getElem?_eq_getElem (by omega)
      obtain ⟨x, hxi, hxv⟩ := hpv.get hpi
      obtain ⟨r, hri⟩ : ∃ r, tb[i]? = some r := ⟨_, List.getElem?_eq_getElem (by omega)⟩
      obtain ⟨v', hv', hvd⟩ := (hus.tk k2.tk).get (i := i) (d := dRw r) (by rw [List.getElem?_map, hri]; rfl)
      rw [hui] at hv'
      obtain ⟨rt, rvs, ev, hrt, hrv⟩ := td_rw hvd
      rw [← Option.some.inj hv'] at ev
      rw [ev] at hui
      have hrl := o5 r (List.mem_of_getElem? hri)
      have hrvl := hrv.length
      rw [List.length_map] at hrvl
      have hrB := selB r (List.mem_of_getElem? hri)
      refine ⟨_, rfl, _, rfl, _, rfl, _, _, _, _, rfl, rfl, SqT.of (k2 _ _ hp (by simp)), atI_nat hpi, _, rfl, _, rfl, _, rfl, _, _, _, _, rfl, rfl, SqT.of (k2 _ _ ht (by simp)), atI_nat hui, rt, rfl, ⟨_, SqT.of hrt⟩, fun D2 nD2 => ?_⟩
      refine lc_tup (K := K) (a := rt) (xs := rvs) (fun j H' => ∃ ws, H' D2 = some (.lst ws) ∧ All2 (FrAt H') ws ((r.map (selC pl)).take j) ∧ Keep [] H2 H') ⟨[], upd_same, by rw [List.take_zero]; exact .nil, Keep.new nD2⟩ (fun j H' _ ⟨_, _, _, kk⟩ => SqT.of (kk _ _ hrt (by simp))) ?_ ?_
      · rintro j u H3 hu ⟨ws, hD2, hws, k3⟩
        have hjl := (List.getElem?_eq_some_iff.mp hu).1
        obtain ⟨c, hcj⟩ : ∃ c, r[j]? = some c := ⟨_, List.getElem?_eq_getElem (by omega)⟩
        obtain ⟨u', hu', hud⟩ := (hrv.tk k3.tk).get (i := j) (d := dCel c) (by rw [List.getElem?_map, hcj]; rfl)
        rw [hu] at hu'
        cases hu'
        obtain ⟨ct, cp, cq, rfl, hct, hcp, hcq⟩ := td_cel hud
        have hwl := hws.1
        rw [List.length_take, List.length_map] at hwl
        obtain ⟨cs, hcs, hcsel⟩ : ∃ cs, atI [V.ref cp, V.ref cq] (pl - 1) = some (.ref cs) ∧ H3 cs = some (.tup [.int (selC pl c).1, .int (selC pl c).2]) := by
          rcases hpl with rfl | rfl
          · exact ⟨cp, rfl, hcp⟩
          · exact ⟨cq, rfl, hcq⟩
        have tl := TK.lst (o := .lst (ws ++ [.ref cs])) hD2
        refine ⟨rfl, yes_then ⟨_, rfl, _, rfl, _, _, rfl, rfl, _, _, _, _, rfl, rfl, SqT.of hct, hcs, ws, hD2, smallL (by omega), ws ++ [.ref cs], upd_same, ?_, k3.then_own nD2⟩⟩
        rw [snoc_take (show (r.map (selC pl))[j]? = some (selC pl c) by rw [List.getElem?_map, hcj]; rfl)]
        exact (hws.mono fun _ _ z => z.tk tl).snoc ⟨cs, rfl, tl _ _ hcsel⟩
      · rintro H3 ⟨ws, hD2, hws, k3⟩
        rw [show rvs.length = (r.map (selC pl)).length by rw [List.length_map]; exact hrvl, List.take_length] at hws
        have k23 := k2.trans k3
        refine ⟨q, D2, qus, ws, m2, _, 10, 10, 100, 25, rfl, k23 _ _ hq (by simp), .inl hD2, hqv.mono fun _ _ z => z.keep k23, hws, by rw [List.length_map]; omega, by omega, hb2, hrB, by decide, by decide, fun y H4 hy k4 => ?_⟩
        have k24 := k23.trans k4
        have ox := hb1 x (List.mem_of_getElem? hxi)
        have oy : FrB 398 280 (dotP m2 (r.map (selC pl))) := dotB hb2 hrB (by omega)
        refine ⟨_, _, x, _, rfl, hxv.keep k24, hy, ox.ok (by decide) (by decide), oy.ok (by decide) (by decide), fun v H5 hv k5 => ?_⟩
        have oz := sumP_take hPB (by omega) i
        have om := ox.mul oy
        refine ⟨_, _, _, _, rfl, hz.keep ((k3.trans k4).trans k5), hv, oz.ok (by decide) (by decide), om.ok (by decide) (by decide), fun y' H6 hy' k6 => ⟨_, _, _, rfl, ?_, (k24.trans k5).trans k6⟩⟩
        rw [snoc_take (zip_get hxi (show (tb.map fun r => dotP m2 (r.map (selC pl)))[i]? = some (dotP m2 (r.map (selC pl))) by rw [List.getElem?_map, hri]; rfl)), foldP_snoc]
        exact hy'
    · rintro σ H2 ⟨z, o5', o6, rfl, hz, k2⟩
      rw [show us.length = (prodR m1 (tb.map fun r => dotP m2 (r.map (selC pl)))).length by omega, List.take_length] at hz
      exact ⟨_, rfl, k z H2 hz k2⟩
theorem ok_number {f : Addr} {fd : FuncData} (D : C8.Def K mg "_law_number" s_law_number f fd) (b : Binds K fd ["ratio"] []) (T : Txt K mg C_Ratio C_Gains C_GameError C_BadEdit C_BadPlan C_BadRatio C_BadText C_TooLarge C_BadGains) (c_law_less : C8.Cal P w K mg base 2 "_law_less" sp_less []) : C8.Cal P w K mg base 3 "_law_number" (sp_number C_Ratio) [] := by
  refine cal0 D b .nil sc_law_number (fun vs H Q E h => ?_) (fun cdv A outer s H vs Q E hr h => ?_)
  · obtain ⟨p, r, rfl, _⟩ := h
    rfl
  · obtain ⟨p, r, rfl, ⟨dx, hp⟩, ⟨r1, r2, r3⟩, hb, k⟩ := h
    refine ⟨_, (pss_cons (ps_if (PW.pt (pw_or (pt_val (pe_callB call_isi (by rfl) T.n_isinstance bo_isinstance (pa_cons (pe_fld (pv 0) rfl) (pa_cons (pe_bltn (v := .ty "bool") (by rfl) T.n_bool bo_bool rfl) pa_nil)))) (pw_or (pt_not (pt_val (pe_callB call_isi (by rfl) T.n_isinstance bo_isinstance (pa_cons (pe_fld (pv 0) rfl) (pa_cons (pe_bltn (v := .ty "int") (by rfl) T.n_int bo_int rfl) pa_nil))))) (pw_or1 (pt_not (pt_val (pe_callB call_isi (by rfl) T.n_isinstance bo_isinstance (pa_cons (pe_fld (pv 0) rfl) (pa_cons (pe_bltn (v := .ty "int") (by rfl) T.n_int bo_int rfl) pa_nil)))))))))
  (pss_one (ps_ret pe_non))
  pss_nil)
(pss_cons (ps_if (PW.pt (pw_or (pt_cmpR op_lt (pe_fld (pv 0) rfl) pe_int (nomark _)) (pw_or1 (pt_cmpR (op_neD hr.units) (pe_c c_law_less hr (by first | exact Nat.le_refl _ | decide | omega) rfl (pa_cons (pe_fld (pv 0) rfl) (pa_cons (pe_fld (pv 0) rfl) pa_nil))) (pe_tup (pa_cons (pe_fld (pv 0) rfl) (pa_cons (pe_fld (pv 0) rfl) pa_nil))) (nomark _)))))
  (pss_one (ps_ret pe_non))
  pss_nil)
(pss_one (ps_ret (pe_tup (pa_cons (pe_fld (pv 0) rfl) (pa_cons (pe_fld (pv 0) rfl) pa_nil))))))), ?_⟩
    have kII : PySem.W.kitOne K (.type "int") (.type "int") = some true := kit_ty (by decide +kernel)
    have kIB : PySem.W.kitOne K (.type "int") (.type "bool") = some false := kit_ty (by decide +kernel)
    refine ⟨_, rfl, p, C_Ratio, dx, _, _, rfl, hp, T.cl_Ratio, T.a_Ratio_num, rf_num _ _, _, _, _, _, _, rfl, .ty _, .base (.int _), kIB, _, rfl, iteF ?_⟩
    refine ⟨_, rfl, p, C_Ratio, dx, _, _, rfl, hp, T.cl_Ratio, T.a_Ratio_num, rf_num _ _, _, _, _, _, _, rfl, .ty _, .base (.int _), kII, _, rfl, iteF ?_⟩
    refine ⟨_, rfl, p, C_Ratio, dx, _, _, rfl, hp, T.cl_Ratio, T.a_Ratio_den, rf_den _ _, _, _, _, _, _, rfl, .ty _, .base (.int _), kII, _, rfl, iteF ?_⟩
    refine ⟨_, rfl, p, C_Ratio, dx, _, _, rfl, hp, T.cl_Ratio, T.a_Ratio_den, rf_den _ _, _, _, rfl, rfl, _, rfl, iteDF (by omega) ?_⟩
    refine ⟨_, rfl, p, C_Ratio, dx, _, _, rfl, hp, T.cl_Ratio, T.a_Ratio_num, rf_num _ _, _, rfl, p, C_Ratio, dx, _, _, rfl, hp, T.cl_Ratio, T.a_Ratio_den, rf_den _ _, _, _, rfl, r1, hb, fun t H1 nt ht k1 => ?_⟩
    rw [r2, r3] at ht
    have hp1 := k1 _ _ hp (by simp)
    refine ⟨_, rfl, p, C_Ratio, dx, _, _, rfl, hp1, T.cl_Ratio, T.a_Ratio_num, rf_num _ _, _, rfl, p, C_Ratio, dx, _, _, rfl, hp1, T.cl_Ratio, T.a_Ratio_den, rf_den _ _, And.intro (by show 2 ≤ sizeLine; decide) <| fun t2 nt2 => ?_⟩
    have k2 := Keep.new (W := []) (o := .tup [.int r.1, .int r.2]) nt2
    refine ⟨dFr r, dFr r, (FrAt.td ⟨t, rfl, k2 _ _ ht (by simp)⟩).dp, (FrAt.td ⟨t2, rfl, upd_same⟩).dp, shaped_fr r, shaped_fr r, _, rfl, ?_⟩
    rw [SeqAt.eqv_refl _ (SeqAt.canLay_of_shaped (shaped_fr r))]
    refine iteF ?_
    have hp2 := k2 _ _ hp1 (by simp)
    refine ⟨_, rfl, p, C_Ratio, dx, _, _, rfl, hp2, T.cl_Ratio, T.a_Ratio_num, rf_num _ _, _, rfl, p, C_Ratio, dx, _, _, rfl, hp2, T.cl_Ratio, T.a_Ratio_den, rf_den _ _, And.intro (by show 2 ≤ sizeLine; decide) <| fun t3 nt3 => ?_⟩
    exact k _ _ (FrAt.td ⟨t3, rfl, upd_same⟩) ((k1.trans k2).then_new nt3)
theorem ok_plain0 {f : Addr} {fd : FuncData} (D : C8.Def K mg "_law_plain" s_law_plain f fd) (b : Binds K fd ["part"] []) : C8.Cal P w K mg base 3 "_law_plain" (sp_plain C_Ratio 0) [] :=
  ⟨f, fd, ["part"], [], ⟨fun vs H Q E h => (by obtain ⟨v, d, rfl, _⟩ := h; rfl), fun A outer s H args us vs Q E _ _ _ _ h => (by obtain ⟨v, d, _, z, _⟩ := h; exact z.elim)⟩, D.mgf, D.kp, b, .nil⟩
theorem ok_plain {f : Addr} {fd : FuncData} (D : C8.Def K mg "_law_plain" s_law_plain f fd) (b : Binds K fd ["part"] []) (T : Txt K mg C_Ratio C_Gains C_GameError C_BadEdit C_BadPlan C_BadRatio C_BadText C_TooLarge C_BadGains) {n k : Nat} (hk : 3 ≤ k) (c_law_plain : C8.Cal P w K mg base k "_law_plain" (sp_plain C_Ratio n) []) (c_law_number : C8.Cal P w K mg base 3 "_law_number" (sp_number C_Ratio) []) : C8.Cal P w K mg base (k + 1) "_law_plain" (sp_plain C_Ratio (n + 1)) [] := by
  refine cal0 D b .nil sc_law_plain (fun vs H Q E h => ?_) (fun cdv A outer s H vs Q E hr h => ?_)
  · obtain ⟨v, d, rfl, _⟩ := h
    rfl
  · obtain ⟨v, d, rfl, hv, k'⟩ := h
    refine ⟨_, (pss_cons (ps_if (pt_val (pe_callB call_isi (by rfl) T.n_isinstance bo_isinstance (pa_cons (pv 0) (pa_cons (pe_glob (v := .ref _) rfl T.m_Ratio rfl) pa_nil))))
  (pss_one (ps_ret (pe_c c_law_number hr (by first | exact Nat.le_refl _ | decide | omega) rfl (pa_cons (pv 0) pa_nil))))
  pss_nil)
(pss_cons (ps_if (pt_val (pe_callB call_isi (by rfl) T.n_isinstance bo_isinstance (pa_cons (pv 0) (pa_cons (pe_bltn (v := .ty "tuple") (by rfl) T.n_tuple bo_tuple rfl) pa_nil))))
  (pss_one (ps_ret (pe_callTy call_tuple_of (by rfl) T.n_tuple bo_tuple (pa_cons (pe_lc (own := [("inner", 1)]) (g := gName 1) (tt := tYes) rfl sc_law_plain.nd (pi_tup (pv 0)) (blkOk_by (N := ["part", "inner"]) (sc := fnScope s_law_plain) (by decide +kernel)) (fun _ _ _ _ _ => pg_name (i := 1) sc_law_plain.nd rfl (by first | exact Or.inl rfl | exact Or.inr rfl)) (fun _ _ _ _ _ => pts_nil) (fun _ _ _ _ _ => (pe_c c_law_plain hr (by first | exact Nat.le_refl _ | decide | omega) rfl (pa_cons (pv 1) pa_nil)))) pa_nil))))
  pss_nil)
(pss_cons (ps_if (pt_val (pe_callB call_isi (by rfl) T.n_isinstance bo_isinstance (pa_cons (pv 0) (pa_cons (pe_bltn (v := .ty "list") (by rfl) T.n_list bo_list rfl) pa_nil))))
  (pss_one (ps_ret pe_non))
  pss_nil)
(pss_one (ps_ret (pv 0)))))), ?_⟩
    rcases hv with ⟨p, r, rfl, hp, h2, h3, rfl⟩ | ⟨t, vs, ds, rfl, ht, rfl, hl, hl2, hall⟩
    · obtain ⟨dx, hp1⟩ := id hp
      refine ⟨_, rfl, _, _, _, _, _, rfl, .own _, tyI T.i_Ratio hp1, kitSelf, _, rfl, iteT ?_⟩
      exact ⟨_, rfl, p, r, rfl, hp, h2, h3, k'⟩
    · have kTT : PySem.W.kitOne K (.type "tuple") (.type "tuple") = some true := kit_ty (by decide +kernel)
      refine ⟨_, rfl, _, _, _, _, _, rfl, .own _, .base (.tup ht), T.kTR, _, rfl, iteF ?_⟩
      refine ⟨_, rfl, _, _, _, _, _, rfl, .ty _, .base (.tup ht), kTT, _, rfl, iteT ?_⟩
      refine ⟨_, rfl, t, rfl, ⟨_, SqT.of ht⟩, fun D1 nD => ?_⟩
      refine lc_tup (K := K) (a := t) (xs := vs) (fun i H' => ∃ ws, H' D1 = some (.lst ws) ∧ TDs H' ws (ds.take i) ∧ Keep [] H H') ⟨[], upd_same, by rw [List.take_zero]; exact .nil, Keep.new nD⟩ (fun i H' _ ⟨_, _, _, kk⟩ => SqT.of (kk _ _ ht (by simp))) ?_ ?_
      · rintro i u H1 hu ⟨ws, hD, hws, k1⟩
        have hil := (List.getElem?_eq_some_iff.mp hu).1
        obtain ⟨d, hdi⟩ : ∃ d, ds[i]? = some d := ⟨_, List.getElem?_eq_getElem (by omega)⟩
        have hwl := hws.length
        rw [List.length_take] at hwl
        refine ⟨rfl, yes_then ⟨_, rfl, u, d, rfl, (hall i u d hu hdi).keep k1, fun z H2 hz k2 => ?_⟩⟩
        have hD2 := k2 _ _ hD (by simp)
        have tl := TK.lst (o := .lst (ws ++ [z])) hD2
        refine ⟨ws, hD2, smallL (by omega), ws ++ [z], upd_same, ?_, (k1.trans k2).then_own nD⟩
        rw [snoc_take hdi]
        exact ((hws.tk k2.tk).tk tl).append (.cons (hz.tk tl) .nil)
      · rintro H1 ⟨ws, hD, hws, k1⟩
        rw [hl, List.take_length] at hws
        refine ⟨D1, ws, rfl, .inl ⟨SqL.of hD, fun t2 nt => ?_⟩⟩
        have kt := Keep.new (W := []) (o := .tup ws) nt
        exact k' _ _ (.tup upd_same (hws.tk kt.tk)) (k1.trans kt)
end

/-! the law's draws -/
abbrev PoolT := List Int
def Pool (H : Hp) (p q : Addr) (ns : List Int) : Prop := ∃ (i1 i2 i3 i4 i5 : Int), H p = some (.lst [.ref q, .int i1, .int i2, .int i3, .int i4, .int i5]) ∧ H q = some (.lst (ns.map V.int)) ∧ q ≠ p ∧ 0 ≤ i1
theorem Pool.some {H : Hp} {p q : Addr} {ns : List Int} (h : Pool H p q ns) : ∃ o, H p = Option.some o := by
  obtain ⟨i1, i2, i3, i4, i5, h, _⟩ := h
  exact ⟨_, h⟩
theorem Pool.some2 {H : Hp} {p q : Addr} {ns : List Int} (h : Pool H p q ns) : ∃ o, H q = Option.some o := by
  obtain ⟨i1, i2, i3, i4, i5, _, h, _⟩ := h
  exact ⟨_, h⟩
theorem Pool.lst {H : Hp} {p q : Addr} {ns : PoolT} (h : Pool H p q ns) : ∃ xs, H p = Option.some (.lst xs) := by
  obtain ⟨i1, i2, i3, i4, i5, h, _⟩ := h
  exact ⟨_, h⟩
theorem Pool.keep {H H' : Hp} {p q : Addr} {ns : List Int} {W : List Addr} (h : Pool H p q ns) (k : Keep W H H') (w : ∀ b, b ∈ W → H b = none) : Pool H' p q ns := by
  obtain ⟨i1, i2, i3, i4, i5, h1, h2, h3, h4⟩ := h
  have no : ∀ b o, H b = Option.some o → b ∉ W := fun b o e z => by rw [w b z] at e; cases e
  exact ⟨i1, i2, i3, i4, i5, k _ _ h1 (no _ _ h1), k _ _ h2 (no _ _ h2), h3, h4⟩
theorem Pool.keep0 {H H' : Hp} {p q : Addr} {ns : List Int} (h : Pool H p q ns) (k : Keep [] H H') : Pool H' p q ns := h.keep k fun _ z => by cases z
theorem Pool.new {H : Hp} {p q a : Addr} {ns : List Int} {o : HO} (h : Pool H p q ns) (n : H a = none) : Pool (upd H a o) p q ns := h.keep0 (Keep.new n)
theorem Pool.own {H : Hp} {p q a : Addr} {ns : List Int} {o : HO} (h : Pool H p q ns) (h1 : a ≠ p) (h2 : a ≠ q) : Pool (upd H a o) p q ns := by
  obtain ⟨i1, i2, i3, i4, i5, g1, g2, g3, g4⟩ := h
  exact ⟨i1, i2, i3, i4, i5, by rw [upd_ne h1.symm]; exact g1, by rw [upd_ne h2.symm]; exact g2, g3, g4⟩
theorem Pool.free {H H' : Hp} {p q l : Addr} {ns : List Int} (P : Pool H' p q ns) (e : Keep [p] H H') (h : H' l = none) : H l = none := by
  obtain ⟨o, ho⟩ := P.some
  exact e.free1 ho h
theorem Pool.nep {H : Hp} {p q l : Addr} {ns : List Int} (P : Pool H p q ns) (h : H l = none) : l ≠ p := by
  obtain ⟨o, ho⟩ := P.some
  exact (ne_of_none ho h).symm
theorem Pool.neq {H : Hp} {p q l : Addr} {ns : List Int} (P : Pool H p q ns) (h : H l = none) : l ≠ q := by
  obtain ⟨o, ho⟩ := P.some2
  exact (ne_of_none ho h).symm
def sp_law_pool (K : PySem.W.Frag) : Sp := fun vs H Q _ => ∃ (a : Addr) (ns : List Int) (b : Int), vs = [.ref a, .int b] ∧ SqL K H a (ns.map V.int) ∧
  ∀ p q H', H p = none → Pool H' p q ns → Keep [] H H' → Q (.ref p) H'
def sp_law_draw : Sp := fun vs H Q _ => ∃ (p q : Addr) (ns : List Int) (size : Int), vs = [.ref p, .int size] ∧ 0 < size ∧ size < 2 ^ 70 ∧ Pool H p q ns ∧
  ∀ r H', 0 ≤ r → r < size → Pool H' p q ns → Keep [p] H H' → Q (.int r) H'
section
variable {P : Program} {w : World} {K : PySem.W.Frag} {mg : Str → Option Value} {base : Heap} {C_Ratio : Addr} {C_Gains : Addr} {C_GameError : Addr} {C_BadEdit : Addr} {C_BadPlan : Addr} {C_BadRatio : Addr} {C_BadText : Addr} {C_TooLarge : Addr} {C_BadGains : Addr} {f_BadGains___init : Addr}
theorem ok_law_pool {f : Addr} {fd : FuncData} (D : C8.Def K mg "_law_pool" s_law_pool f fd) (b : Binds K fd ["script", "budget"] []) (T : Txt K mg C_Ratio C_Gains C_GameError C_BadEdit C_BadPlan C_BadRatio C_BadText C_TooLarge C_BadGains) : C8.Cal P w K mg base 1 "_law_pool" (sp_law_pool K) [] := by
  refine cal0 D b .nil sc_law_pool (fun vs H Q E h => ?_) (fun cdv A outer s H vs Q E hr h => ?_)
  · obtain ⟨a, ns, b, rfl, _⟩ := h
    rfl
  · obtain ⟨a, ns, b, rfl, hS, k⟩ := h
    refine ⟨_, (pss_one (ps_ret (pe_lst (pa_cons (pe_callTy call_list_of (by rfl) T.n_list bo_list (pa_cons (pv 0) pa_nil)) (pa_cons pe_int (pa_cons pe_int (pa_cons pe_int (pa_cons pe_int (pa_cons (pv 1) pa_nil))))))))), ?_⟩
    refine ⟨_, rfl, _, _, rfl, .inl hS, fun l hl => ⟨_, rfl, (by show 6 ≤ sizeLine; decide), fun p hp => ?_⟩⟩
    have hlp : l ≠ p := ne_of_none (H := upd H l (.lst (ns.map V.int))) upd_same hp
    have hp0 : H p = none := (Keep.new (W := []) hl).free hp
    refine k p l _ hp0 ⟨_, _, _, _, _, upd_same, (by rw [upd_ne hlp]; exact upd_same), hlp, Int.le_refl 0⟩ ((Keep.new hl).then_new hp)
theorem ok_law_draw {f : Addr} {fd : FuncData} (D : C8.Def K mg "_law_draw" s_law_draw f fd) (b : Binds K fd ["pool", "size"] []) (T : Txt K mg C_Ratio C_Gains C_GameError C_BadEdit C_BadPlan C_BadRatio C_BadText C_TooLarge C_BadGains) : C8.Cal P w K mg base 1 "_law_draw" sp_law_draw [] := by
  refine cal0 D b .nil sc_law_draw (fun vs H Q E h => ?_) (fun cdv A outer s H vs Q E hr h => ?_)
  · obtain ⟨p, q, ns, size, rfl, _⟩ := h
    rfl
  · obtain ⟨p, q, ns, size, rfl, hs0, hs1, ⟨i1, i2, i3, i4, i5, h1, h2, hqp, hi1⟩, k⟩ := h
    have hbig : (2147483647 : Int) > 0 := by decide
    have cdg : ∀ {i : Int}, CDivG i size := ⟨by omega, Nat.lt_trans (log2_lt9 (b := 70) (by omega) (by decide)) (by decide)⟩
    refine ⟨_, (pss_cut (ps_if (PW.pt (pw_and (pt_cmpR op_le (pe_ix ix_list (pv 0) pe_int (fun _ _ => rfl)) pe_int (nomark _)) (pw_and (pt_cmpR op_le (pe_ix ix_list (pv 0) pe_int (fun _ _ => rfl)) pe_int (nomark _)) (pw_and1 (pt_cmpR op_lt (pe_ix ix_list (pv 0) pe_int (fun _ _ => rfl)) (pe_callB call_len_seq (by rfl) T.n_len bo_len (pa_cons (pe_ix ix_list (pv 0) pe_int (fun _ _ => rfl)) pa_nil)) (nomark _))))))
  (pss_cons (ps_set (i := 2) sc_law_draw.nd rfl (by first | exact Or.inl rfl | exact Or.inr rfl) (pe_ix ix_list (pe_ix ix_list (pv 0) pe_int (fun _ _ => rfl)) (pe_ix ix_list (pv 0) pe_int (fun _ _ => rfl)) (fun _ _ => rfl)))
  (pss_cons (ps_asg (pe_op op_add (pe_ix ix_list (pv 0) pe_int (fun _ _ => rfl)) pe_int) (pg_sub (pv 0) pe_int set_list))
  (pss_cons (ps_asg (pe_op op_mod (pe_callTy call_int1 (by rfl) T.n_int bo_int (pa_cons (pe_op op_add (pe_op op_mul (pe_ix ix_list (pv 0) pe_int (fun _ _ => rfl)) pe_int) (pv 2)) pa_nil)) pe_int) (pg_sub (pv 0) pe_int set_list))
  (pss_cons (ps_asg pe_int (pg_sub (pv 0) pe_int set_list))
  (pss_one (ps_if (pt_cmpR op_ge (pv 2) (pe_op op_pow pe_int pe_int) (nomark _))
    (pss_one (ps_asg (pv 2) (pg_sub (pv 0) pe_int set_list)))
    pss_nil))))))
  pss_nil)
(pss_cons (ps_if (pt_cmpR op_gt (pe_ix ix_list (pv 0) pe_int (fun _ _ => rfl)) pe_int (nomark _))
  (pss_cons (ps_set (i := 3) sc_law_draw.nd rfl (by first | exact Or.inl rfl | exact Or.inr rfl) (pe_op op_mod (pe_callTy call_int1 (by rfl) T.n_int bo_int (pa_cons (pe_ix ix_list (pv 0) pe_int (fun _ _ => rfl)) pa_nil)) (pv 1)))
  (pss_cons (ps_asg (pe_op op_fdivG (pe_ix ix_list (pv 0) pe_int (fun _ _ => rfl)) (pv 1)) (pg_sub (pv 0) pe_int set_list))
  (pss_cons (ps_asg pe_int (pg_sub (pv 0) pe_int set_list))
  (pss_one (ps_ret (pv 3))))))
  pss_nil)
(pss_cons (ps_asg (pe_op op_sub (pe_ix ix_list (pv 0) pe_int (fun _ _ => rfl)) pe_int) (pg_sub (pv 0) pe_int set_list))
(pss_cons (ps_asg (pe_op op_mod (pe_callTy call_int1 (by rfl) T.n_int bo_int (pa_cons (pe_op op_add (pe_op op_mul (pe_ix ix_list (pv 0) pe_int (fun _ _ => rfl)) pe_int) pe_int) pa_nil)) pe_int) (pg_sub (pv 0) pe_int set_list))
(pss_one (ps_ret (pe_op op_mod (pe_op op_mod (pe_callTy call_int1 (by rfl) T.n_int bo_int (pa_cons (pe_op op_add (pe_op op_mul (pe_ix ix_list (pv 0) pe_int (fun _ _ => rfl)) pe_int) pe_int) pa_nil)) pe_int) (pv 1)))))))), ?_⟩
    -- the state between the statements
    refine ⟨fun σ H' => ∃ (c : Option V) (j1 j2 j3 j4 j5 : Int), σ = [some (.ref p), some (.int size), c, none] ∧ H' p = some (.lst [.ref q, .int j1, .int j2, .int j3, .int j4, .int j5]) ∧ Keep [p] H H' ∧ 0 ≤ j1, ?_, ?_⟩
    · have stay : ∃ (c : Option V) (j1 j2 j3 j4 j5 : Int), ([some (.ref p), some (.int size), none, none] : List (Option V)) = [some (.ref p), some (.int size), c, none] ∧ H p = some (.lst [.ref q, .int j1, .int j2, .int j3, .int j4, .int j5]) ∧ Keep [p] H H ∧ 0 ≤ j1 :=
        ⟨_, i1, i2, i3, i4, i5, rfl, h1, Keep.refl _ _, hi1⟩
      refine ⟨_, rfl, _, _, _, _, rfl, rfl, SqL.of h1, rfl, _, _, rfl, rfl, _, rfl, iteD (fun _ => ?_) (fun _ => stay)⟩
      refine ⟨_, rfl, _, _, _, _, rfl, rfl, SqL.of h1, rfl, _, _, rfl, rfl, _, rfl, iteD (fun _ => ?_) (fun _ => stay)⟩
      refine ⟨_, rfl, _, _, _, _, rfl, rfl, SqL.of h1, rfl, _, rfl, _, _, _, _, rfl, rfl, SqL.of h1, rfl, _, _, rfl, .inl (SqL.of h2), _, _, rfl, rfl, _, rfl, iteD (fun hlt => ?_) (fun _ => stay)⟩
      obtain ⟨j, rfl⟩ : ∃ j : Nat, i1 = (j : Int) := ⟨i1.toNat, by omega⟩
      rw [List.length_map] at hlt
      have hj : j < ns.length := by omega
      have hc : (ns.map V.int)[j]? = some (.int ns[j]) := by rw [List.getElem?_map, List.getElem?_eq_getElem hj]; rfl
      refine ⟨_, rfl, _, _, _, _, rfl, rfl, SqL.of h1, rfl, _, rfl, _, _, _, _, rfl, rfl, SqL.of h1, rfl, _, _, _, _, rfl, rfl, SqL.of h2, atI_nat hc, ?_⟩
      refine ⟨_, rfl, _, _, _, _, rfl, rfl, SqL.of h1, rfl, _, _, rfl, rfl, _, rfl, _, _, _, _, rfl, rfl, h1, rfl, ?_⟩
      refine ⟨_, rfl, _, _, _, _, rfl, rfl, SqL.of upd_same, rfl, _, _, rfl, rfl, .inr ⟨by decide, by decide⟩, _, rfl, _, _, rfl, rfl, .inl ⟨_, rfl, _, _, rfl, rfl, hbig, _, rfl, _, _, _, _, rfl, rfl, upd_same, rfl, ?_⟩⟩
      refine ⟨_, rfl, _, _, _, _, rfl, rfl, upd_same, rfl, ?_⟩
      have kk : Keep [p] H (upd (upd (upd H p (.lst (List.set [.ref q, .int (j : Int), .int i2, .int i3, .int i4, .int i5] 1 (.int ((j : Int) + 1))))) p
        (.lst (List.set (List.set [.ref q, .int (j : Int), .int i2, .int i3, .int i4, .int i5] 1 (.int ((j : Int) + 1))) 3 (.int ((i3 * 31 + ns[j]) % 2147483647))))) p
        (.lst (List.set (List.set (List.set [.ref q, .int (j : Int), .int i2, .int i3, .int i4, .int i5] 1 (.int ((j : Int) + 1))) 3 (.int ((i3 * 31 + ns[j]) % 2147483647))) 4 (.int 7)))) :=
        ((Keep.at_ (List.mem_singleton.mpr rfl)).then_at (List.mem_singleton.mpr rfl)).then_at (List.mem_singleton.mpr rfl)
      refine ⟨_, rfl, _, _, rfl, rfl, ⟨by decide, by decide, by decide⟩, _, _, rfl, rfl, _, rfl, iteD (fun _ => ?_) (fun _ => ?_)⟩
      · refine ⟨_, rfl, _, rfl, _, _, _, _, rfl, rfl, upd_same, rfl, ?_⟩
        exact ⟨_, _, _, _, _, _, rfl, upd_same, kk.then_at (List.mem_singleton.mpr rfl), by omega⟩
      · exact ⟨_, _, _, _, _, _, rfl, upd_same, kk, by omega⟩
    · rintro σ' H' ⟨c, j1, j2, j3, j4, j5, rfl, g1, kk, hj1⟩
      have g2 : H' q = some (.lst (ns.map V.int)) := kk q _ h2 (by simpa using hqp)
      refine ⟨_, rfl, _, _, _, _, rfl, rfl, SqL.of g1, rfl, _, _, rfl, rfl, _, rfl, iteD (fun _ => ?_) (fun _ => ?_)⟩
      · refine ⟨_, rfl, _, _, _, _, rfl, rfl, SqL.of g1, rfl, .inl ⟨_, rfl, _, rfl, _, _, rfl, rfl, hs0, ?_⟩⟩
        refine ⟨_, rfl, _, _, _, _, rfl, rfl, SqL.of g1, rfl, _, rfl, _, _, rfl, rfl, cdg, _, rfl, _, _, _, _, rfl, rfl, g1, rfl, ?_⟩
        refine ⟨_, rfl, _, _, _, _, rfl, rfl, upd_same, rfl, ?_⟩
        refine ⟨_, rfl, ?_⟩
        refine k _ _ (Int.emod_nonneg _ (by omega)) (Int.emod_lt_of_pos _ hs0) ⟨_, _, _, _, _, upd_same, ?_, hqp, hj1⟩ ((kk.then_at (List.mem_singleton.mpr rfl)).then_at (List.mem_singleton.mpr rfl))
        rw [upd_ne hqp, upd_ne hqp]; exact g2
      · refine ⟨_, rfl, _, _, _, _, rfl, rfl, SqL.of g1, rfl, _, _, rfl, rfl, _, rfl, _, _, _, _, rfl, rfl, g1, rfl, ?_⟩
        refine ⟨_, rfl, _, _, _, _, rfl, rfl, SqL.of upd_same, rfl, _, _, rfl, rfl, .inr ⟨by decide, by decide⟩, _, _, rfl, rfl, .inl ⟨_, rfl, _, _, rfl, rfl, hbig, _, rfl, _, _, _, _, rfl, rfl, upd_same, rfl, ?_⟩⟩
        refine ⟨_, rfl, _, _, _, _, rfl, rfl, SqL.of upd_same, rfl, _, _, rfl, rfl, .inr ⟨by decide, by decide⟩, _, _, rfl, rfl, .inl ⟨_, rfl, _, _, rfl, rfl, hbig, _, rfl, _, _, rfl, rfl, hs0, ?_⟩⟩
        refine k _ _ (Int.emod_nonneg _ (by omega)) (Int.emod_lt_of_pos _ hs0) ⟨_, _, _, _, _, upd_same, ?_, hqp, hj1⟩ ((kk.then_at (List.mem_singleton.mpr rfl)).then_at (List.mem_singleton.mpr rfl))
        rw [upd_ne hqp, upd_ne hqp]; exact g2
end

/-! drawn tables and mixes -/
theorem redOk_of {r : Fr} (h : 0 < r.2) (g : Nat.gcd r.1.natAbs r.2.natAbs = 1) : RedOk r := by
  have e : sg r.1 r.2 = 1 := by unfold sg; rw [if_neg (by omega), g]; rfl
  unfold RedOk redN redD
  rw [e]
  exact ⟨h, Int.fdiv_one _, Int.fdiv_one _⟩
theorem red_one (n : Int) : RedOk (n, 1) := redOk_of (show (0 : Int) < 1 by decide) (by show Nat.gcd n.natAbs 1 = 1; exact Nat.gcd_one_right _)
theorem red_idem {n d : Int} (h : 0 < d) : RedOk (redN n d, redD n d) := redOk_of (redD_pos (by omega)) (red_gcd (by omega))
theorem RedOk.gcd {r : Fr} (h : RedOk r) : Nat.gcd r.1.natAbs r.2.natAbs = 1 := by
  have := red_gcd (n := r.1) (d := r.2) (by have := h.1; omega)
  rwa [h.2.1, h.2.2] at this
theorem RedOk.neg {r : Fr} (h : RedOk r) : RedOk (0 - r.1, r.2) := redOk_of h.1 (by
  have := h.gcd
  show Nat.gcd (0 - r.1).natAbs _ = 1
  rwa [Int.zero_sub, Int.natAbs_neg])
def CelOk (c : Cel) : Prop := (FrB 100 25 c.1 ∧ FrB 100 25 c.2) ∧ (RedOk c.1 ∧ RedOk c.2)
def RowOk (n : Nat) (r : List Cel) : Prop := r.length = n ∧ ∀ c ∈ r, CelOk c
def RedTb (tb : Tab) : Prop := ∀ r ∈ tb, ∀ c ∈ r, RedOk c.1 ∧ RedOk c.2
def sp_lgain : Sp := fun vs H Q _ => ∃ (p q : Addr) (is : List Int) (way : Int), vs = [.ref p, .int way] ∧ 0 ≤ way ∧ way ≤ 6 ∧ Pool H p q is ∧ ∀ z r H', FrAt H' z r → RedOk r → FrB 100 25 r → Pool H' p q is → Keep [p] H H' → Q z H'
def sp_table : Sp := fun vs H Q _ => ∃ (p q : Addr) (is : List Int) (most : Int), vs = [.ref p, .int most] ∧ 1 ≤ most ∧ most ≤ 8 ∧ Pool H p q is ∧ ∀ t us tb H', H' t = some (.tup us) → TDs H' us (tb.map dRw) → okT tb = true → TbB tb → RedTb tb → Pool H' p q is → Keep [p] H H' → Q (.ref t) H'
theorem Pool.tk {H H' : Hp} {p q : Addr} {is : List Int} (h : Pool H p q is) (k : Keep [p] H H') : TK H H' := by
  obtain ⟨_, _, _, _, _, h, _⟩ := h
  exact k.tk1 h
theorem p20 : (10 : Int) ^ (20 : Int).toNat = 100000000000000000000 := by decide
theorem p6 : (10 : Int) ^ (6 : Int).toNat = 1000000 := by decide
theorem p61 : (2 : Int) ^ (61 : Int).toNat = 2305843009213693952 := by decide
theorem frB_of {n d : Int} (h : 0 < d) (h1 : n.natAbs < 2 ^ 100) (h2 : d.natAbs ≤ 2 ^ 25) : FrB 100 25 (n, d) := ⟨h, h1, h2⟩
section
variable {P : Program} {w : World} {K : PySem.W.Frag} {mg : Str → Option Value} {base : Heap} {C_Ratio : Addr} {C_Gains : Addr} {C_GameError : Addr} {C_BadEdit : Addr} {C_BadPlan : Addr} {C_BadRatio : Addr} {C_BadText : Addr} {C_TooLarge : Addr} {C_BadGains : Addr} {f_BadGains___init : Addr}
theorem ok_lgain {f : Addr} {fd : FuncData} (D : C8.Def K mg "_law_gain" s_law_gain f fd) (b : Binds K fd ["pool", "way"] []) (T : Txt K mg C_Ratio C_Gains C_GameError C_BadEdit C_BadPlan C_BadRatio C_BadText C_TooLarge C_BadGains) (c_law_draw : C8.Cal P w K mg base 1 "_law_draw" sp_law_draw []) (c_law_less : C8.Cal P w K mg base 2 "_law_less" sp_less []) : C8.Cal P w K mg base 3 "_law_gain" sp_lgain [] := by
  refine cal0 D b .nil sc_law_gain (fun vs H Q E h => ?_) (fun cdv A outer s H vs Q E hr h => ?_)
  · obtain ⟨p, q, is, way, rfl, _⟩ := h
    rfl
  · obtain ⟨p, q, is, way, rfl, hw0, hw6, hP, k⟩ := h
    refine ⟨_, (pss_cons (ps_if (pt_cmpR op_eq (pv 1) pe_int (nomark _))
  (pss_one (ps_ret (pe_tup (pa_cons (pe_op op_sub (pe_c c_law_draw hr (by first | exact Nat.le_refl _ | decide | omega) rfl (pa_cons (pv 0) (pa_cons pe_int pa_nil))) pe_int) (pa_cons pe_int pa_nil)))))
  pss_nil)
(pss_cons (ps_if (pt_cmpR op_eq (pv 1) pe_int (nomark _))
  (pss_one (ps_ret (pe_c c_law_less hr (by first | exact Nat.le_refl _ | decide | omega) rfl (pa_cons (pe_op op_sub (pe_c c_law_draw hr (by first | exact Nat.le_refl _ | decide | omega) rfl (pa_cons (pv 0) (pa_cons (pe_op op_mul pe_int (pe_op op_pow pe_int pe_int)) pa_nil))) (pe_op op_pow pe_int pe_int)) (pa_cons (pe_op op_add pe_int (pe_c c_law_draw hr (by first | exact Nat.le_refl _ | decide | omega) rfl (pa_cons (pv 0) (pa_cons (pe_op op_pow pe_int pe_int) pa_nil)))) pa_nil)))))
  pss_nil)
(pss_cons (ps_if (pt_cmpR op_eq (pv 1) pe_int (nomark _))
  (pss_one (ps_ret (pe_tup (pa_cons (pe_op op_mul (pe_op op_mul (pe_op op_sub (pe_c c_law_draw hr (by first | exact Nat.le_refl _ | decide | omega) rfl (pa_cons (pv 0) (pa_cons pe_int pa_nil))) pe_int) pe_int) (pe_op op_sub (pe_op op_pow pe_int pe_int) pe_int)) (pa_cons pe_int pa_nil)))))
  pss_nil)
(pss_one (ps_ret (pe_c c_law_less hr (by first | exact Nat.le_refl _ | decide | omega) rfl (pa_cons (pe_op op_sub (pe_c c_law_draw hr (by first | exact Nat.le_refl _ | decide | omega) rfl (pa_cons (pv 0) (pa_cons pe_int pa_nil))) pe_int) (pa_cons (pe_ix ix_tup (pe_tup (pa_cons pe_int (pa_cons pe_int (pa_cons pe_int (pa_cons pe_int (pa_cons pe_int pa_nil)))))) (pe_c c_law_draw hr (by first | exact Nat.le_refl _ | decide | omega) rfl (pa_cons (pv 0) (pa_cons pe_int pa_nil))) (fun _ _ => rfl)) pa_nil)))))))), ?_⟩
    have big : ∀ {d : Int}, 0 < d → d ≤ 2 ^ 25 → d.natAbs < 2 ^ 8000 := fun {d} h1 h2 => Nat.lt_of_le_of_lt (show d.natAbs ≤ 2 ^ 25 by omega) (Nat.pow_lt_pow_right (by decide) (by decide))
    have fin : ∀ (n d : Int) H1, Pool H1 p q is → Keep [p] H H1 → 0 < d → d ≤ 2 ^ 25 → n.natAbs < 2 ^ 100 → sp_less [.int n, .int d] H1 Q C8.E0 := fun n d H1 P1 k1 hd hd2 hn => by
      refine ⟨n, d, rfl, hd, big hd hd2, fun t H2 nt ht k2 => k _ (redN n d, redD n d) H2 ⟨t, rfl, ht⟩ (red_idem hd) ((frB_of hd hn (by omega)).red) (P1.keep0 k2) (k1.trans (k2.mono (by simp)))⟩
    have one : ∀ (n : Int) H1, Pool H1 p q is → Keep [p] H H1 → n.natAbs < 2 ^ 100 → ∀ t, H1 t = none → Q (.ref t) (upd H1 t (.tup [.int n, .int 1])) := fun n H1 P1 k1 hn t nt =>
      k _ (n, 1) _ ⟨t, rfl, upd_same⟩ (red_one n) (frB_of (show (0 : Int) < 1 by decide) hn (show (1 : Int).natAbs ≤ 2 ^ 25 by decide)) (P1.new nt) (k1.then_new nt)
    refine ⟨_, rfl, rfl, _, rfl, iteD (fun e => ?_) (fun e => ?_)⟩
    · refine ⟨_, rfl, p, q, is, 3, rfl, by decide, by decide, hP, fun z H1 z0 z1 P1 k1 => ⟨_, _, rfl, rfl, And.intro (by show 2 ≤ sizeLine; decide) <| fun t nt => one _ H1 P1 k1 (by omega) t nt⟩⟩
    refine ⟨_, rfl, rfl, _, rfl, iteD (fun e => ?_) (fun e => ?_)⟩
    · refine ⟨_, rfl, _, _, rfl, rfl, ⟨by decide, by decide, by decide⟩, _, _, rfl, rfl, .inl ⟨by decide, by decide⟩, ?_⟩
      rw [p20]
      refine ⟨p, q, is, _, rfl, by decide, by decide, hP, fun z H1 z0 z1 P1 k1 => ⟨_, _, rfl, rfl, ⟨by decide, by decide, by decide⟩, _, _, rfl, rfl, ?_⟩⟩
      rw [p20]
      refine ⟨_, rfl, _, _, rfl, rfl, ⟨by decide, by decide, by decide⟩, ?_⟩
      refine ⟨p, q, is, 1000000, rfl, by decide, by decide, P1, fun y H2 y0 y1 P2 k2 => ⟨_, _, rfl, rfl, ?_⟩⟩
      exact fin _ _ H2 P2 (k1.trans k2) (by omega) (by omega) (by omega)
    refine ⟨_, rfl, rfl, _, rfl, iteD (fun e => ?_) (fun e => ?_)⟩
    · refine ⟨_, rfl, p, q, is, 13, rfl, by decide, by decide, hP, fun z H1 z0 z1 P1 k1 => ⟨_, _, rfl, rfl, _, _, rfl, rfl, .inl ⟨by omega, by omega⟩, _, _, rfl, rfl, ⟨by decide, by decide, by decide⟩, _, _, rfl, rfl, _, _, rfl, rfl, .inl ⟨by omega, by omega⟩, And.intro (by show 2 ≤ sizeLine; decide) <| fun t nt => ?_⟩⟩
      rw [p61]
      exact one _ H1 P1 k1 (by omega) t nt
    · refine ⟨_, rfl, p, q, is, 13, rfl, by decide, by decide, hP, fun z H1 z0 z1 P1 k1 => ⟨_, _, rfl, rfl, And.intro (by show 5 ≤ sizeLine; decide) <| fun t nt => ?_⟩⟩
      have P2 := P1.new (o := .tup [.int 1, .int 1, .int 1, .int 2, .int 3]) nt
      have k2 := k1.then_new (o := .tup [.int 1, .int 1, .int 1, .int 2, .int 3]) nt
      have ht : upd H1 t (.tup [.int 1, .int 1, .int 1, .int 2, .int 3]) t = some (.tup [.int 1, .int 1, .int 1, .int 2, .int 3]) := upd_same
      generalize upd H1 t (.tup [.int 1, .int 1, .int 1, .int 2, .int 3]) = H2 at *
      refine ⟨_, rfl, p, q, is, 5, rfl, by decide, by decide, P2, fun y H3 y0 y1 P3 k3 => ?_⟩
      obtain ⟨d, hd, hd1, hd2⟩ : ∃ d : Int, atI [V.int 1, .int 1, .int 1, .int 2, .int 3] y = some (.int d) ∧ 0 < d ∧ d ≤ 3 := by
        have : y = 0 ∨ y = 1 ∨ y = 2 ∨ y = 3 ∨ y = 4 := by omega
        rcases this with rfl | rfl | rfl | rfl | rfl
        · exact ⟨1, rfl, by decide, by decide⟩
        · exact ⟨1, rfl, by decide, by decide⟩
        · exact ⟨1, rfl, by decide, by decide⟩
        · exact ⟨2, rfl, by decide, by decide⟩
        · exact ⟨3, rfl, by decide, by decide⟩
      refine ⟨t, _, _, _, rfl, rfl, SqT.of (P2.tk k3 _ _ ht), hd, ?_⟩
      exact fin _ _ H3 P3 (k2.trans k3) hd1 (by omega) (by omega)
theorem ok_table {f : Addr} {fd : FuncData} (D : C8.Def K mg "_law_table" s_law_table f fd) (b : Binds K fd ["pool", "most"] []) (T : Txt K mg C_Ratio C_Gains C_GameError C_BadEdit C_BadPlan C_BadRatio C_BadText C_TooLarge C_BadGains) (c_law_draw : C8.Cal P w K mg base 1 "_law_draw" sp_law_draw []) (c_law_gain : C8.Cal P w K mg base 3 "_law_gain" sp_lgain []) : C8.Cal P w K mg base 4 "_law_table" sp_table [] := by
  refine cal0 D b .nil sc_law_table (fun vs H Q E h => ?_) (fun cdv A outer s H vs Q E hr h => ?_)
  · obtain ⟨p, q, is, most, rfl, _⟩ := h
    rfl
  · obtain ⟨p, q, is, most, rfl, hm1, hm8, hP, k⟩ := h
    refine ⟨_, (pss_cons (ps_set (i := 2) sc_law_table.nd rfl (by first | exact Or.inl rfl | exact Or.inr rfl) (pe_c c_law_draw hr (by first | exact Nat.le_refl _ | decide | omega) rfl (pa_cons (pv 0) (pa_cons pe_int pa_nil))))
(pss_cons (ps_set (i := 3) sc_law_table.nd rfl (by first | exact Or.inl rfl | exact Or.inr rfl) (pe_op op_add pe_int (pe_c c_law_draw hr (by first | exact Nat.le_refl _ | decide | omega) rfl (pa_cons (pv 0) (pa_cons (pv 1) pa_nil)))))
(pss_cons (ps_set (i := 4) sc_law_table.nd rfl (by first | exact Or.inl rfl | exact Or.inr rfl) (pe_lst pa_nil))
(pss_cons (ps_for PassesOwn.never rfl (pi_range1 (by rfl) T.n_range (pa_cons (pe_op op_add pe_int (pe_c c_law_draw hr (by first | exact Nat.le_refl _ | decide | omega) rfl (pa_cons (pv 0) (pa_cons (pv 1) pa_nil)))) pa_nil)) (pg_name (i := 5) sc_law_table.nd rfl (by first | exact Or.inl rfl | exact Or.inr rfl))
  (pss_cons (ps_set (i := 6) sc_law_table.nd rfl (by first | exact Or.inl rfl | exact Or.inr rfl) (pe_lst pa_nil))
  (pss_cons (ps_for PassesOwn.never rfl (pi_range1 (by rfl) T.n_range (pa_cons (pv 3) pa_nil)) (pg_name (i := 7) sc_law_table.nd rfl (by first | exact Or.inl rfl | exact Or.inr rfl))
    (pss_cons (ps_set (i := 8) sc_law_table.nd rfl (by first | exact Or.inl rfl | exact Or.inr rfl) (pe_c c_law_gain hr (by first | exact Nat.le_refl _ | decide | omega) rfl (pa_cons (pv 0) (pa_cons (pv 2) pa_nil))))
    (pss_cons (ps_set (i := 9) sc_law_table.nd rfl (by first | exact Or.inl rfl | exact Or.inr rfl) (pe_c c_law_gain hr (by first | exact Nat.le_refl _ | decide | omega) rfl (pa_cons (pv 0) (pa_cons (pv 2) pa_nil))))
    (pss_one (ps_expr (pe_bm PySem.F.plainAttrs_list PySem.F.slot_list_append PySem.F.type_list_append mt_append (pv 6) (pa_cons (pe_tup (pa_cons (pv 8) (pa_cons (pe_ix ix_tup (pe_tup (pa_cons (pv 9) (pa_cons (pe_tup (pa_cons (pe_op op_sub pe_int (pe_ix ix_tup (pv 8) pe_int (fun _ _ => rfl))) (pa_cons (pe_ix ix_tup (pv 8) pe_int (fun _ _ => rfl)) pa_nil))) (pa_cons (pv 8) (pa_cons (pv 9) (pa_cons (pv 9) (pa_cons (pv 9) (pa_cons (pv 9) pa_nil)))))))) (pv 2) (fun _ _ => rfl)) pa_nil))) pa_nil)))))))
  (pss_cut (ps_if (PW.pt (pw_and (pt_cmpR op_eq (pv 2) pe_int (nomark _)) (pw_and (pt_cmpR op_gt (pv 5) pe_int (nomark _)) (pw_and1 (pt_cmpR op_eq (pe_c c_law_draw hr (by first | exact Nat.le_refl _ | decide | omega) rfl (pa_cons (pv 0) (pa_cons pe_int pa_nil))) pe_int (nomark _))))))
    (pss_one (ps_set (i := 6) sc_law_table.nd rfl (by first | exact Or.inl rfl | exact Or.inr rfl) (pe_callTy call_list_of (by rfl) T.n_list bo_list (pa_cons (pe_ix ix_list (pv 4) (pe_c c_law_draw hr (by first | exact Nat.le_refl _ | decide | omega) rfl (pa_cons (pv 0) (pa_cons (pv 5) pa_nil))) (fun _ _ => rfl)) pa_nil))))
    pss_nil)
  (pss_one (ps_expr (pe_bm PySem.F.plainAttrs_list PySem.F.slot_list_append PySem.F.type_list_append mt_append (pv 4) (pa_cons (pe_callTy call_tuple_of (by rfl) T.n_tuple bo_tuple (pa_cons (pv 6) pa_nil)) pa_nil))))))))
(pss_one (ps_ret (pe_callTy call_tuple_of (by rfl) T.n_tuple bo_tuple (pa_cons (pv 4) pa_nil)))))))), ?_⟩
    refine ⟨_, rfl, p, q, is, 7, rfl, by decide, by decide, hP, fun way H1 w0 w1 P1 k1 => ?_⟩
    refine ⟨_, rfl, _, rfl, p, q, is, most, rfl, by omega, by omega, P1, fun wd H2 d0 d1 P2 k2 => ⟨_, _, rfl, rfl, ?_⟩⟩
    refine And.intro (by show 0 ≤ sizeLine; decide) <| fun R nR => ?_
    have k12 := k1.trans k2
    have P3 := P2.new (o := .lst []) nR
    have k3 := k12.then_new (o := .lst []) nR
    have nRH : H R = none := P2.free k12 nR
    have hR3 : upd H2 R (.lst []) R = some (.lst []) := upd_same
    have Rp := P2.nep nR
    have Rq := P2.neq nR
    generalize upd H2 R (.lst []) = H3 at *
    refine ⟨_, rfl, _, rfl, p, q, is, most, rfl, by omega, by omega, P3, fun hg H4 g0 g1 P4 k4 => ⟨_, _, rfl, rfl, ?_⟩⟩
    obtain ⟨wn, hwn⟩ : ∃ wn : Nat, (1 : Int) + wd = (wn : Int) := ⟨(1 + wd).toNat, by omega⟩
    obtain ⟨hn, hhn⟩ : ∃ hn : Nat, (1 : Int) + hg = (hn : Int) := ⟨(1 + hg).toNat, by omega⟩
    have hR4 : H4 R = some (.lst []) := k4 _ _ hR3 (by simpa using Rp)
    refine ⟨(hn : Int), by rw [← hhn], by omega, by omega, for_range (lo := 0) (n := hn) (fun i σ H' => ∃ vs tb o5 o6 o7 o8 o9, σ = [some (.ref p), some (.int most), some (.int way), some (.int wn), some (.ref R), o5, o6, o7, o8, o9] ∧ H' R = some (.lst vs) ∧ TDs H' vs (tb.map dRw) ∧ tb.length = i ∧ (∀ r ∈ tb, RowOk wn r) ∧ Pool H' p q is ∧ Keep [p] H H') ⟨[], [], none, none, none, none, none, by rw [← hwn]; rfl, hR4, .nil, rfl, (fun _ h => nomatch h), P4, k3.trans k4⟩ ?_ ?_⟩
    · rintro i σ H5 hi ⟨vs, tb, o5, o6, o7, o8, o9, rfl, hR, hvs, htl, htb, P5, k5⟩
      have e0 : (0 : Int) + (i : Int) = (i : Int) := by omega
      rw [e0]
      have hvl := hvs.length
      rw [List.length_map] at hvl
      refine And.intro (by show 0 ≤ sizeLine; decide) <| fun L nL => ?_
      have hL6 : upd H5 L (.lst []) L = some (.lst []) := upd_same
      have kn := Keep.new (W := []) (o := .lst []) nL
      have nLH : H L = none := P5.free k5 nL
      have Lp := P5.nep nL
      have Lq := P5.neq nL
      have LR : L ≠ R := (ne_of_none hR nL).symm
      have P6 := P5.keep0 kn
      have k6 := k5.trans (kn.mono (by simp))
      have hR6 := kn _ _ hR (by simp)
      have hvs6 := hvs.tk kn.tk
      generalize upd H5 L (.lst []) = H6 at *
      refine ⟨_, rfl, (wn : Int), rfl, by omega, by omega, for_range (lo := 0) (n := wn) (fun j σ H' => ∃ rvs r o7 o8 o9, σ = [some (.ref p), some (.int most), some (.int way), some (.int wn), some (.ref R), some (.int (i : Int)), some (.ref L), o7, o8, o9] ∧ H' L = some (.lst rvs) ∧ TDs H' rvs (r.map dCel) ∧ RowOk j r ∧ H' R = some (.lst vs) ∧ TDs H' vs (tb.map dRw) ∧ Pool H' p q is ∧ Keep [p] H H') ⟨[], [], o7, o8, o9, rfl, hL6, .nil, ⟨rfl, fun _ h => nomatch h⟩, hR6, hvs6, P6, k6⟩ ?_ ?_⟩
      · rintro j σ H7 hj ⟨rvs, r, o7', o8', o9', rfl, hL, hrv, hro, hR7, hvs7, P7, k7⟩
        have hrl := hrv.length
        rw [List.length_map, hro.1] at hrl
        refine ⟨_, rfl, _, rfl, p, q, is, way, rfl, w0, by omega, P7, fun z1 c1 H8 hz1 r1 b1 P8 k8 => ?_⟩
        refine ⟨_, rfl, _, rfl, p, q, is, way, rfl, w0, by omega, P8, fun z2 c2 H9 hz2 r2 b2 P9 k9 => ?_⟩
        have hz19 := hz1.tk (P8.tk k9)
        have tk79 := (P7.tk k8).trans (P8.tk k9)
        obtain ⟨t1, rfl, ht1⟩ := id hz19
        have hL9 : H9 L = some (.lst rvs) := k9 _ _ (k8 _ _ hL (by simpa using Lp)) (by simpa using Lp)
        have hR9 : H9 R = some (.lst vs) := k9 _ _ (k8 _ _ hR7 (by simpa using Rp)) (by simpa using Rp)
        have k79 := (k7.trans k8).trans k9
        refine ⟨_, rfl, .inl ⟨rfl, _, SqL.of hL9⟩, _, rfl, _, rfl, _, rfl, _, _, _, _, rfl, rfl, SqT.of ht1, rfl, _, _, rfl, rfl, _, rfl, _, _, _, _, rfl, rfl, SqT.of ht1, rfl, And.intro (by show 2 ≤ sizeLine; decide) <| fun tn ntn => ?_⟩
        have kA := Keep.new (W := []) (o := .tup [.int (0 - c1.1), .int c1.2]) ntn
        have hA : upd H9 tn (.tup [.int (0 - c1.1), .int c1.2]) tn = some (.tup [.int (0 - c1.1), .int c1.2]) := upd_same
        generalize upd H9 tn (.tup [.int (0 - c1.1), .int c1.2]) = HA at *
        refine ⟨_, rfl, _, rfl, _, rfl, _, rfl, _, rfl, And.intro (by show 7 ≤ sizeLine; decide) <| fun t7 nt7 => ?_⟩
        have kB := Keep.new (W := []) (o := .tup [z2, .ref tn, .ref t1, z2, z2, z2, z2]) nt7
        have hB : upd HA t7 (.tup [z2, .ref tn, .ref t1, z2, z2, z2, z2]) t7 = some (.tup [z2, .ref tn, .ref t1, z2, z2, z2, z2]) := upd_same
        generalize upd HA t7 (.tup [z2, .ref tn, .ref t1, z2, z2, z2, z2]) = HB at *
        have kAB := kA.trans kB
        obtain ⟨v, c, hv, hvf, hvr, hvb⟩ : ∃ v c, atI [z2, .ref tn, .ref t1, z2, z2, z2, z2] way = some v ∧ FrAt HB v c ∧ RedOk c ∧ FrB 100 25 c := by
          have : way = 0 ∨ way = 1 ∨ way = 2 ∨ way = 3 ∨ way = 4 ∨ way = 5 ∨ way = 6 := by omega
          have g2 := hz2.keep kAB
          have g1 := hz19.keep kAB
          rcases this with rfl | rfl | rfl | rfl | rfl | rfl | rfl
          · exact ⟨z2, c2, rfl, g2, r2, b2⟩
          · exact ⟨.ref tn, (0 - c1.1, c1.2), rfl, ⟨tn, rfl, kB _ _ hA (by simp)⟩, r1.neg, ⟨b1.1, by show (0 - c1.1).natAbs < _; rw [Int.zero_sub, Int.natAbs_neg]; exact b1.2.1, b1.2.2⟩⟩
          · exact ⟨.ref t1, c1, rfl, g1, r1, b1⟩
          · exact ⟨z2, c2, rfl, g2, r2, b2⟩
          · exact ⟨z2, c2, rfl, g2, r2, b2⟩
          · exact ⟨z2, c2, rfl, g2, r2, b2⟩
          · exact ⟨z2, c2, rfl, g2, r2, b2⟩
        refine ⟨_, rfl, t7, _, _, _, rfl, rfl, SqT.of hB, hv, And.intro (by show 2 ≤ sizeLine; decide) <| fun tc ntc => ?_⟩
        have kC := Keep.new (W := []) (o := .tup [.ref t1, v]) ntc
        have hC : upd HB tc (.tup [.ref t1, v]) tc = some (.tup [.ref t1, v]) := upd_same
        generalize upd HB tc (.tup [.ref t1, v]) = HC at *
        have kABC := kAB.trans kC
        have hLC := kABC _ _ hL9 (by simp)
        have hRC := kABC _ _ hR9 (by simp)
        have PC := P9.keep0 kABC
        have tkC := tk79.trans kABC.tk
        have tl := TK.lst (o := .lst (rvs ++ [.ref tc])) hLC
        refine ⟨L, _, _, rfl, rfl, hLC, smallL (by omega), ?_⟩
        refine ⟨rvs ++ [.ref tc], r ++ [(c1, c)], _, _, _, rfl, upd_same, ?_, ⟨by rw [List.length_append, hro.1]; rfl, fun x hx => ?_⟩, by rw [upd_ne LR.symm]; exact hRC, (hvs7.tk tkC).tk tl, PC.own Lp Lq, (k79.trans (kABC.mono (by simp))).then_own nLH⟩
        · rw [List.map_append]
          exact ((hrv.tk tkC).tk tl).append (.cons (.tup (tl _ _ hC) (.cons (((hz19.keep kABC).tk tl).td) (.cons ((((hvf.keep kC)).tk tl).td) .nil))) .nil)
        · rcases List.mem_append.mp hx with hx | hx
          · exact hro.2 x hx
          · rw [List.mem_singleton.mp hx]; exact ⟨⟨b1, hvb⟩, ⟨r1, hvr⟩⟩
      · rintro σ H7 ⟨rvs, r, o7', o8', o9', rfl, hL, hrv, hro, hR7, hvs7, P7, k7⟩
        refine ⟨fun σ H' => ∃ L' rvs r o7 o8 o9, σ = [some (.ref p), some (.int most), some (.int way), some (.int wn), some (.ref R), some (.int (i : Int)), some (.ref L'), o7, o8, o9] ∧ H' L' = some (.lst rvs) ∧ TDs H' rvs (r.map dCel) ∧ RowOk wn r ∧ H' R = some (.lst vs) ∧ TDs H' vs (tb.map dRw) ∧ Pool H' p q is ∧ Keep [p] H H', ?_, ?_⟩
        · have stay : ∀ H', Pool H' p q is → Keep [p] H7 H' → ∃ L' rvs r o7 o8 o9, ([some (.ref p), some (.int most), some (.int way), some (.int wn), some (.ref R), some (.int (i : Int)), some (.ref L), o7', o8', o9'] : List (Option V)) = [some (.ref p), some (.int most), some (.int way), some (.int wn), some (.ref R), some (.int (i : Int)), some (.ref L'), o7, o8, o9] ∧ H' L' = some (.lst rvs) ∧ TDs H' rvs (r.map dCel) ∧ RowOk wn r ∧ H' R = some (.lst vs) ∧ TDs H' vs (tb.map dRw) ∧ Pool H' p q is ∧ Keep [p] H H' :=
            fun H' P' k' => ⟨L, rvs, r, _, _, _, rfl, k' _ _ hL (by simpa using Lp), hrv.tk (P7.tk k'), hro, k' _ _ hR7 (by simpa using Rp), hvs7.tk (P7.tk k'), P', k7.trans k'⟩
          refine ⟨_, rfl, rfl, _, rfl, iteD (fun _ => ?_) (fun _ => stay H7 P7 (Keep.refl _ _))⟩
          refine ⟨_, rfl, _, _, rfl, rfl, _, rfl, iteD (fun hi0 => ?_) (fun _ => stay H7 P7 (Keep.refl _ _))⟩
          refine ⟨_, rfl, p, q, is, 3, rfl, by decide, by decide, P7, fun z H8 z0 z1 P8 k8 => ⟨rfl, _, rfl, iteD (fun _ => ?_) (fun _ => stay H8 P8 k8)⟩⟩
          refine ⟨_, rfl, _, rfl, _, rfl, p, q, is, (i : Int), rfl, by omega, by omega, P8, fun y H9 y0 y1 P9 k9 => ?_⟩
          have k89 := k8.trans k9
          have tk9 := P7.tk k89
          have hR9 := k89 _ _ hR7 (by simpa using Rp)
          obtain ⟨m, rfl⟩ : ∃ m : Nat, y = (m : Int) := ⟨y.toNat, by omega⟩
          obtain ⟨r', hr'⟩ : ∃ r', tb[m]? = some r' := ⟨_, List.getElem?_eq_getElem (by omega)⟩
          obtain ⟨v', hv', hvd⟩ := (hvs7.tk tk9).get (i := m) (d := dRw r') (by rw [List.getElem?_map, hr']; rfl)
          obtain ⟨rt, cvs, rfl, hrt, hcv⟩ := td_rw hvd
          refine ⟨R, _, _, _, rfl, rfl, SqL.of hR9, atI_nat hv', rt, cvs, rfl, .inr (SqT.of hrt), fun L2 nL2 => ?_⟩
          have kN := Keep.new (W := []) (o := .lst cvs) nL2
          exact ⟨L2, cvs, r', _, _, _, rfl, upd_same, hcv.tk kN.tk, htb r' (List.mem_of_getElem? hr'), kN _ _ hR9 (by simp), (hvs7.tk tk9).tk kN.tk, P9.keep0 kN, (k7.trans k89).trans (kN.mono (by simp))⟩
        · rintro σ H8 ⟨L', rvs, r, o7, o8, o9, rfl, hL', hrv, hro, hR8, hvs8, P8, k8⟩
          refine ⟨_, rfl, .inl ⟨rfl, _, SqL.of hR8⟩, _, rfl, L', rvs, rfl, .inl ⟨SqL.of hL', fun t nt => ?_⟩⟩
          have kt := Keep.new (W := []) (o := .tup rvs) nt
          have ht : upd H8 t (.tup rvs) t = some (.tup rvs) := upd_same
          generalize upd H8 t (.tup rvs) = H9 at *
          have hR9 := kt _ _ hR8 (by simp)
          have tl := TK.lst (o := .lst (vs ++ [.ref t])) hR9
          refine ⟨R, _, _, rfl, rfl, hR9, smallL (by omega), ?_⟩
          refine ⟨vs ++ [.ref t], tb ++ [r], _, _, _, _, _, rfl, upd_same, ?_, by rw [List.length_append, htl]; rfl, fun x hx => ?_, (P8.keep0 kt).own Rp Rq, (k8.trans (kt.mono (by simp))).then_own nRH⟩
          · rw [List.map_append]
            exact ((hvs8.tk kt.tk).tk tl).append (.cons (.tup (tl _ _ ht) ((hrv.tk kt.tk).tk tl)) .nil)
          · rcases List.mem_append.mp hx with hx | hx
            · exact htb x hx
            · rw [List.mem_singleton.mp hx]; exact hro
    · rintro σ H5 ⟨vs, tb, o5, o6, o7, o8, o9, rfl, hR, hvs, htl, htb, P5, k5⟩
      refine ⟨_, rfl, R, vs, rfl, .inl ⟨SqL.of hR, fun t nt => ?_⟩⟩
      have kt := Keep.new (W := []) (o := .tup vs) nt
      have hok : okT tb = true := by
        cases tb with
        | nil => simp at htl; omega
        | cons r0 tb' =>
          have h0 := (htb r0 (List.mem_cons_self ..)).1
          unfold okT
          simp only [Bool.and_eq_true, decide_eq_true_eq, List.all_eq_true]
          refine ⟨⟨by omega, by omega⟩, ⟨by show 1 ≤ r0.length; omega, by show r0.length ≤ 8; omega⟩, fun r hr => ?_⟩
          show r.length = r0.length
          rw [(htb r hr).1, h0]
      exact k t vs tb _ upd_same (hvs.tk kt.tk) hok (fun r hr c hc => ((htb r hr).2 c hc).1) (fun r hr c hc => ((htb r hr).2 c hc).2) (P5.keep0 kt) (k5.trans (kt.mono (by simp)))
end

theorem cutTake (xs : List V) (k : Nat) : cutV xs none (some (k : Int)) = xs.take k := by
  unfold cutV
  rw [HT.sIx_none, HT.sIx_nat, List.drop_zero, Nat.sub_zero]
  rcases Nat.le_total k xs.length with h | h
  · rw [Nat.min_eq_left h]
  · rw [Nat.min_eq_right h, List.take_length, List.take_of_length_le h]
theorem cutDrop (xs : List V) (k : Nat) : cutV xs (some (k : Int)) none = xs.drop k := by
  unfold cutV
  rw [HT.sIx_none, HT.sIx_nat]
  rcases Nat.le_total k xs.length with h | h
  · rw [Nat.min_eq_left h]
    exact List.take_of_length_le (by rw [List.length_drop]; omega)
  · rw [Nat.min_eq_right h, Nat.sub_self, List.take_zero, List.drop_eq_nil_of_le h]

/-! mixes; tables of wrong sizes; tables that differ -/
def SumOk (n : Nat) (ws : List Int) : Prop := ws.length = n ∧ (∀ x ∈ ws, 0 ≤ x ∧ x ≤ 5) ∧ 1 ≤ ws.sum
def mixR (ws : List Int) : List Fr := ws.map fun x => (redN x ws.sum, redD x ws.sum)
def sp_mix : Sp := fun vs H Q _ => ∃ (p q : Addr) (is : List Int) (n : Nat), vs = [.ref p, .int n] ∧ 1 ≤ n ∧ n ≤ 8 ∧ Pool H p q is ∧ ∀ t ws H', FrsAt H' t (mixR ws) → SumOk n ws → Pool H' p q is → Keep [p] H H' → Q (.ref t) H'
def DT (H : Hp) (v : V) (ds : List PyData) : Prop := ∃ t us, v = .ref t ∧ H t = some (.tup us) ∧ TDs H us ds
theorem DT.td {H : Hp} {v : V} {ds : List PyData} (h : DT H v ds) : TD H v (.tuple ds) := by
  obtain ⟨t, us, rfl, h1, h2⟩ := h
  exact .tup h1 h2
theorem DT.of {H : Hp} {v : V} {ds : List PyData} (h : TD H v (.tuple ds)) : DT H v ds := by
  cases h with
  | tup h1 h2 => exact ⟨_, _, rfl, h1, h2⟩
theorem DT.tk {H H' : Hp} {v : V} {ds : List PyData} (h : DT H v ds) (k : TK H H') : DT H' v ds := by
  obtain ⟨t, us, e, h1, h2⟩ := h
  exact ⟨t, us, e, k _ _ h1, h2.tk k⟩
theorem TDs.drop {H : Hp} : ∀ {vs : List V} {ds : List PyData} (n : Nat), TDs H vs ds → TDs H (vs.drop n) (ds.drop n)
  | _, _, 0, h => h
  | _, _, _ + 1, .nil => .nil
  | _, _, n + 1, .cons _ h => h.drop n
theorem TDs.rep {H : Hp} {vs : List V} {ds : List PyData} (h : TDs H vs ds) : ∀ k : Nat, TDs H (List.replicate k vs).flatten (List.replicate k ds).flatten
  | 0 => .nil
  | k + 1 => by rw [List.replicate_succ, List.replicate_succ, List.flatten_cons, List.flatten_cons]; exact h.append (h.rep k)
theorem catD {K : PySem.W.Frag} {H : Hp} {v u : V} {ds es : List PyData} {Q : VK} (h1 : DT H v ds) (h2 : DT H u es) (hl : ds.length + es.length ≤ 1000) (q : ∀ r H', DT H' r (ds ++ es) → Keep [] H H' → Q r H') : rCatA K v u H Q := by
  obtain ⟨a, xs, rfl, ha, hx⟩ := h1
  obtain ⟨b, ys, rfl, hb, hy⟩ := h2
  exact catA_of ha hb (by rw [hx.length, hy.length]; omega) fun r H' hr k => q _ H' ⟨r, _, rfl, hr, (hx.tk k.tk).append (hy.tk k.tk)⟩ k
theorem toD {K : PySem.W.Frag} {H : Hp} {v : V} {ds : List PyData} {Q : VK} {k : Nat} {hi : Int} (h1 : DT H v ds) (e : hi = (k : Int)) (q : ∀ r H', DT H' r (ds.take k) → Keep [] H H' → Q r H') : rSlA K v none (some hi) H Q := by
  obtain ⟨a, xs, rfl, ha, hx⟩ := h1
  subst e
  exact slA_of ha fun r H' hr k' => q _ H' ⟨r, _, rfl, hr, by rw [cutTake]; exact (hx.tk k'.tk).take k⟩ k'
theorem fromD {K : PySem.W.Frag} {H : Hp} {v : V} {ds : List PyData} {Q : VK} {k : Nat} {lo : Int} (h1 : DT H v ds) (e : lo = (k : Int)) (q : ∀ r H', DT H' r (ds.drop k) → Keep [] H H' → Q r H') : rSlA K v (some lo) none H Q := by
  obtain ⟨a, xs, rfl, ha, hx⟩ := h1
  subst e
  exact slA_of ha fun r H' hr k' => q _ H' ⟨r, _, rfl, hr, by rw [cutDrop]; exact (hx.tk k'.tk).drop k⟩ k'
theorem fromND {K : PySem.W.Frag} {H : Hp} {v : V} {ds : List PyData} {Q : VK} {σ : L2.St} {k : Nat} {lo : Int} (h1 : DT H v ds) (e : lo = (k : Int)) (q : ∀ r H', DT H' r (ds.drop k) → Keep [] H H' → Q r H') : L2.tNoPart σ H fun u H3 => rSlA K v (some lo) u H3 Q := fromD h1 e q
theorem repD {K : PySem.W.Frag} {H : Hp} {v : V} {ds : List PyData} {Q : VK} {k : Nat} {n : Int} (h1 : DT H v ds) (e : n = (k : Int)) (hk : k ≤ 70000) (hl : ds.length ≤ 100) (q : ∀ r H', DT H' r (List.replicate k ds).flatten → Keep [] H H' → Q r H') : rRepX K v (.int n) H Q := by
  obtain ⟨a, xs, rfl, ha, hx⟩ := h1
  subst e
  exact repX_of ha (by omega) (by omega) (by rw [hx.length]; exact hl) fun r H' hr k' => q _ H' ⟨r, _, rfl, hr, by rw [Int.toNat_natCast]; exact (hx.tk k'.tk).rep k⟩ k'
theorem repCD {K : PySem.W.Frag} {H : Hp} {v : V} {ds : List PyData} {Q : VK} {σ : L2.St} {k : Nat} {n : Int} (h1 : DT H v ds) (e : n = (k : Int)) (hk : k ≤ 70000) (hl : ds.length ≤ 100) (q : ∀ r H', DT H' r (List.replicate k ds).flatten → Keep [] H H' → Q r H') : L2.tC (V.int n) σ H fun y H2 => rRepX K v y H2 Q := repD h1 e hk hl q
theorem td_new {H : Hp} {t : Addr} {us : List V} {ds : List PyData} (h : TDs H us ds) (n : H t = none) : DT (upd H t (.tup us)) (.ref t) ds := ⟨t, us, rfl, upd_same, h.tk (Keep.new (W := []) n).tk⟩
theorem rep_one {α : Type} (x : α) : ∀ k : Nat, (List.replicate k [x]).flatten = List.replicate k x
  | 0 => rfl
  | k + 1 => by rw [List.replicate_succ, List.flatten_cons, rep_one x k]; rfl
def WrongT (tb : Tab) : Prop := okT tb = false ∧ tb.length ≤ 20 ∧ ∀ r ∈ tb, r.length ≤ 20 ∧ ∀ c ∈ r, CelOk c
def CelsOk (tb : Tab) : Prop := ∀ r ∈ tb, ∀ c ∈ r, CelOk c
def sp_wrong : Sp := fun vs H Q _ => ∃ (p q : Addr) (is : List Int) (v : V) (tb : Tab), vs = [.ref p, v] ∧ Pool H p q is ∧ DT H v (tb.map dRw) ∧ okT tb = true ∧ CelsOk tb ∧
  ∀ (l : Addr) (us : List V) (tbs : List Tab) (H' : Hp), H l = none → H' l = some (.lst us) → TDs H' us (tbs.map dTb) → (∀ b ∈ tbs, WrongT b) → Pool H' p q is → Keep [p] H H' → Q (.ref l) H'
theorem okT_false {tb : Tab} (h : ¬ (1 ≤ tb.length ∧ tb.length ≤ 8 ∧ 1 ≤ (tb.headD []).length ∧ (tb.headD []).length ≤ 8 ∧ ∀ r ∈ tb, r.length = (tb.headD []).length)) : okT tb = false := by
  cases e : okT tb with
  | false => rfl
  | true => exact absurd (okT_iff e) h
theorem okT_two {tb : Tab} {r r' : List Cel} (h1 : r ∈ tb) (h2 : r' ∈ tb) (n : r.length ≠ r'.length) : okT tb = false := okT_false fun z => n ((z.2.2.2.2 r h1).trans (z.2.2.2.2 r' h2).symm)
section
variable {P : Program} {w : World} {K : PySem.W.Frag} {mg : Str → Option Value} {base : Heap} {C_Ratio : Addr} {C_Gains : Addr} {C_GameError : Addr} {C_BadEdit : Addr} {C_BadPlan : Addr} {C_BadRatio : Addr} {C_BadText : Addr} {C_TooLarge : Addr} {C_BadGains : Addr} {f_BadGains___init : Addr}
theorem cr_sumK {X : Cx} {K : PySem.W.Frag} (hc : X.calm = true) (hK : X.K = K := by rfl) : CallR X (.builtin "sum") (rSum K) := hK ▸ cr_sum hc
theorem ixN_n {n j : Nat} (hj : j < n) : ixN n (j : Int) = some j := by
  unfold ixN
  rw [if_pos (by omega), if_pos (by omega)]
  rfl
theorem sum_nn : ∀ {ws : List Int}, (∀ x ∈ ws, 0 ≤ x ∧ x ≤ 5) → 0 ≤ ws.sum ∧ ws.sum ≤ 5 * ws.length
  | [], _ => ⟨Int.le_refl _, Int.le_refl _⟩
  | x :: ws, h => by
    have := sum_nn fun y hy => h y (List.mem_cons_of_mem _ hy)
    have hx := h x (List.mem_cons_self ..)
    rw [List.sum_cons, List.length_cons]
    omega
theorem sum_pos {ws : List Int} (h : ∀ x ∈ ws, 0 ≤ x ∧ x ≤ 5) {j : Nat} {z : Int} (hj : ws[j]? = some z) (hz : 1 ≤ z) : 1 ≤ ws.sum := by
  induction ws generalizing j with
  | nil => simp at hj
  | cons x ws ih =>
    have h0 := sum_nn fun y hy => h y (List.mem_cons_of_mem _ hy)
    have hx := h x (List.mem_cons_self ..)
    rw [List.sum_cons]
    cases j with
    | zero => simp at hj; subst hj; omega
    | succ j => have := ih (fun y hy => h y (List.mem_cons_of_mem _ hy)) (by simpa using hj); omega
theorem ok_mix {f : Addr} {fd : FuncData} (D : C8.Def K mg "_law_mix" s_law_mix f fd) (b : Binds K fd ["pool", "count"] []) (T : Txt K mg C_Ratio C_Gains C_GameError C_BadEdit C_BadPlan C_BadRatio C_BadText C_TooLarge C_BadGains) (c_law_draw : C8.Cal P w K mg base 1 "_law_draw" sp_law_draw []) (c_law_less : C8.Cal P w K mg base 2 "_law_less" sp_less []) : C8.Cal P w K mg base 3 "_law_mix" sp_mix [] := by
  refine cal0 D b .nil sc_law_mix (fun vs H Q E h => ?_) (fun cdv A outer s H vs Q E hr h => ?_)
  · obtain ⟨p, q, is, n, rfl, _⟩ := h
    rfl
  · obtain ⟨p, q, is, n, rfl, hn1, hn8, hP, k⟩ := h
    refine ⟨_, (pss_cons (ps_set (i := 2) sc_law_mix.nd rfl (by first | exact Or.inl rfl | exact Or.inr rfl) (pe_lc (own := [("k", 4)]) (g := gName 4) (tt := tYes) rfl sc_law_mix.nd (pi_range1 (by rfl) T.n_range (pa_cons (pv 1) pa_nil)) (blkOk_by (N := ["pool", "count", "weights", "at", "k", "weight"]) (sc := fnScope s_law_mix) (by decide +kernel)) (fun _ _ _ _ _ => pg_name (i := 4) sc_law_mix.nd rfl (by first | exact Or.inl rfl | exact Or.inr rfl)) (fun _ _ _ _ _ => pts_nil) (fun _ _ _ _ _ => (pe_c c_law_draw hr (by first | exact Nat.le_refl _ | decide | omega) rfl (pa_cons (pv 0) (pa_cons pe_int pa_nil))))))
(pss_cut (ps_if (pt_cmpR op_eq (pe_c c_law_draw hr (by first | exact Nat.le_refl _ | decide | omega) rfl (pa_cons (pv 0) (pa_cons pe_int pa_nil))) pe_int (nomark _))
  (pss_one (ps_set (i := 2) sc_law_mix.nd rfl (by first | exact Or.inl rfl | exact Or.inr rfl) (pe_op op_rep (pe_lst (pa_cons pe_int pa_nil)) (pv 1))))
  pss_nil)
(pss_cons (ps_set (i := 3) sc_law_mix.nd rfl (by first | exact Or.inl rfl | exact Or.inr rfl) (pe_c c_law_draw hr (by first | exact Nat.le_refl _ | decide | omega) rfl (pa_cons (pv 0) (pa_cons (pv 1) pa_nil))))
(pss_cons (ps_asg (pe_op op_add (pe_ix ix_list (pv 2) (pv 3) (fun _ _ => rfl)) pe_int) (pg_sub (pv 2) (pv 3) set_list))
(pss_one (ps_ret (pe_callTy call_tuple_of (by rfl) T.n_tuple bo_tuple (pa_cons (pe_lc (own := [("weight", 5)]) (g := gName 5) (tt := tYes) rfl sc_law_mix.nd (pi_list (pv 2)) (blkOk_by (N := ["pool", "count", "weights", "at", "k", "weight"]) (sc := fnScope s_law_mix) (by decide +kernel)) (fun _ _ _ _ _ => pg_name (i := 5) sc_law_mix.nd rfl (by first | exact Or.inl rfl | exact Or.inr rfl)) (fun _ _ _ _ _ => pts_nil) (fun _ _ _ _ _ => (pe_c c_law_less hr (by first | exact Nat.le_refl _ | decide | omega) rfl (pa_cons (pv 5) (pa_cons (pe_callB (cr_sumK (K := K) rfl) (by rfl) T.n_sum bo_sum (pa_cons (pv 2) pa_nil)) pa_nil))))) pa_nil)))))))), ?_⟩
    refine ⟨_, rfl, (n : Int), rfl, by omega, by omega, fun D1 nD => ?_⟩
    refine lc_range (lo := 0) (n := n) (fun i H' => ∃ ws : List Int, H' D1 = some (.lst (ws.map V.int)) ∧ ws.length = i ∧ (∀ x ∈ ws, 0 ≤ x ∧ x ≤ 4) ∧ Pool H' p q is ∧ Keep [p] H H') ⟨[], upd_same, rfl, (fun _ h => nomatch h), hP.new nD, Keep.new nD⟩ ?_ ?_
    · rintro i H1 hi ⟨ws, hD, hwl, hws, P1, k1⟩
      refine ⟨rfl, yes_then ⟨_, rfl, p, q, is, 5, rfl, by decide, by decide, P1, fun z H2 z0 z1 P2 k2 => ?_⟩⟩
      have Dp := hP.nep nD
      have Dq := hP.neq nD
      refine ⟨_, k2 _ _ hD (by simpa using Dp), smallL (by rw [List.length_map]; omega), ws ++ [z], by rw [upd_same, List.map_append]; rfl, by rw [List.length_append, hwl]; rfl, fun x hx => ?_, P2.own Dp Dq, (k1.trans k2).then_own nD⟩
      rcases List.mem_append.mp hx with hx | hx
      · exact hws x hx
      · rw [List.mem_singleton.mp hx]; omega
    · rintro H1 ⟨ws, hD, hwl, hws, P1, k1⟩
      have Dp := hP.nep nD
      have Dq := hP.neq nD
      refine ⟨fun σ H' => ∃ (L : Addr) (ws : List Int), σ = [some (.ref p), some (.int (n : Int)), some (.ref L), none, none, none] ∧ H' L = some (.lst (ws.map V.int)) ∧ H L = none ∧ L ≠ p ∧ L ≠ q ∧ ws.length = n ∧ (∀ x ∈ ws, 0 ≤ x ∧ x ≤ 4) ∧ Pool H' p q is ∧ Keep [p] H H', ?_, ?_⟩
      · refine ⟨_, rfl, p, q, is, 4, rfl, by decide, by decide, P1, fun z H2 z0 z1 P2 k2 => ⟨rfl, _, rfl, iteD (fun _ => ?_) (fun _ => ?_)⟩⟩
        · refine And.intro (by show 1 ≤ sizeLine; decide) <| fun l nl => ?_
          have kl := Keep.new (W := []) (o := .lst [.int 0]) nl
          have hl : upd H2 l (.lst [.int 0]) l = some (.lst [.int 0]) := upd_same
          generalize upd H2 l (.lst [.int 0]) = H3 at *
          refine ⟨_, rfl, l, (n : Int), _, rfl, rfl, hl, by omega, by omega, smallM (by show 1 * _ ≤ _; omega), fun L nL => ?_⟩
          have P3 := P2.keep0 kl
          have k13 := (k1.trans k2).trans (kl.mono (by simp))
          refine ⟨L, List.replicate n 0, rfl, ?_, P3.free k13 nL, P3.nep nL, P3.neq nL, List.length_replicate, fun x hx => ?_, P3.new nL, k13.then_new nL⟩
          · rw [upd_same, Int.toNat_natCast, rep_one, List.map_replicate]
          · rw [List.eq_of_mem_replicate hx]; omega
        · exact ⟨D1, ws, rfl, k2 _ _ hD (by simpa using Dp), nD, Dp, Dq, by omega, hws, P2, k1.trans k2⟩
      · rintro σ H2 ⟨L, ws, rfl, hL, nL, Lp, Lq, hwl, hws, P2, k2⟩
        refine ⟨_, rfl, _, rfl, p, q, is, (n : Int), rfl, by omega, by omega, P2, fun z H3 z0 z1 P3 k3 => ?_⟩
        obtain ⟨j, rfl⟩ : ∃ j : Nat, z = (j : Int) := ⟨z.toNat, by omega⟩
        have hj : j < ws.length := by omega
        have hL3 := k3 _ _ hL (by simpa using Lp)
        have hwj : (ws.map V.int)[j]? = some (.int ws[j]) := by rw [List.getElem?_map, List.getElem?_eq_getElem hj]; rfl
        refine ⟨_, rfl, _, rfl, _, _, _, _, rfl, rfl, SqL.of hL3, atI_nat hwj, _, _, rfl, rfl, _, rfl, _, rfl, L, _, _, j, rfl, rfl, hL3, ixN_n (by rw [List.length_map]; exact hj), ?_⟩
        have es : (ws.map V.int).set j (.int (ws[j] + 1)) = (ws.set j (ws[j] + 1)).map V.int := List.map_set.symm
        rw [show (fun i j => V.int (i + j)) ws[j] 1 = V.int (ws[j] + 1) from rfl, es]
        have hok : ∀ x ∈ ws.set j (ws[j] + 1), 0 ≤ x ∧ x ≤ 5 := fun x hx => by
          rcases List.mem_or_eq_of_mem_set hx with h | h
          · have := hws x h; omega
          · have := hws _ (List.getElem_mem hj); omega
        have hsl : (ws.set j (ws[j] + 1)).length = n := by rw [List.length_set]; exact hwl
        have hget : (ws.set j (ws[j] + 1))[j]? = some (ws[j] + 1) := List.getElem?_set_self hj
        have hpos : 1 ≤ (ws.set j (ws[j] + 1)).sum := sum_pos hok hget (by have := hws _ (List.getElem_mem hj); omega)
        have hsum := sum_nn hok
        generalize ws.set j (ws[j] + 1) = us at *
        have hL4 : upd H3 L (.lst (us.map V.int)) L = some (.lst (us.map V.int)) := upd_same
        have k4 : Keep [p] H (upd H3 L (.lst (us.map V.int))) := (k2.trans k3).then_own nL
        have P4 : Pool (upd H3 L (.lst (us.map V.int))) p q is := P3.own Lp Lq
        generalize upd H3 L (.lst (us.map V.int)) = H4 at *
        refine ⟨_, rfl, L, rfl, ⟨_, SqL.of hL4⟩, fun D2 nD2 => ?_⟩
        refine lc_list (K := K) (a := L) (xs := us.map V.int) (fun i H' => ∃ vs, H' D2 = some (.lst vs) ∧ All2 (FrAt H') vs ((mixR us).take i) ∧ Keep [] H4 H') ⟨[], upd_same, by rw [List.take_zero]; exact .nil, Keep.new nD2⟩ (fun i H' _ ⟨_, _, _, kk⟩ => SqL.of (kk _ _ hL4 (by simp))) ?_ ?_
        · rintro i v H5 hv ⟨vs, hD2, hvs, k5⟩
          obtain ⟨z, hz, rfl⟩ := ints_get hv
          have hil := (List.getElem?_eq_some_iff.mp hz).1
          have hvl := hvs.1
          rw [List.length_take] at hvl
          have hb : us.sum.natAbs < 2 ^ 8000 := Nat.lt_of_le_of_lt (show us.sum.natAbs ≤ 2 ^ 10 by omega) (Nat.pow_lt_pow_right (by decide) (by decide))
          refine ⟨rfl, yes_then ⟨_, rfl, _, rfl, L, us, rfl, SqL.of (k5 _ _ hL4 (by simp)), z, us.sum, rfl, by omega, hb, fun t H6 nt ht k6 => ?_⟩⟩
          have hD6 := k6 _ _ hD2 (by simp)
          have tl := TK.lst (o := .lst (vs ++ [.ref t])) hD6
          refine ⟨vs, hD6, smallL (by omega), vs ++ [.ref t], upd_same, ?_, (k5.trans k6).then_own nD2⟩
          rw [snoc_take (show (mixR us)[i]? = some (redN z us.sum, redD z us.sum) by unfold mixR; rw [List.getElem?_map, hz]; rfl)]
          exact (hvs.mono fun _ _ z => (z.keep k6).tk tl).snoc ⟨t, rfl, tl _ _ ht⟩
        · rintro H5 ⟨vs, hD2, hvs, k5⟩
          rw [show (us.map V.int).length = (mixR us).length by unfold mixR; rw [List.length_map, List.length_map], List.take_length] at hvs
          refine ⟨D2, vs, rfl, .inl ⟨SqL.of hD2, fun t nt => ?_⟩⟩
          have kt := Keep.new (W := []) (o := .tup vs) nt
          exact k t us _ ⟨vs, upd_same, hvs.mono fun _ _ z => z.keep kt⟩ ⟨hsl, hok, hpos⟩ ((P4.keep0 k5).keep0 kt) (k4.trans ((k5.trans kt).mono (by simp)))
theorem mem_take_ok {tb : Tab} (h : CelsOk tb) {n : Nat} : ∀ r ∈ tb.take n, ∀ c ∈ r, CelOk c := fun r hr => h r (List.mem_of_mem_take hr)
theorem mem_drop_ok {tb : Tab} (h : CelsOk tb) {n : Nat} : ∀ r ∈ tb.drop n, ∀ c ∈ r, CelOk c := fun r hr => h r (List.mem_of_mem_drop hr)
theorem ok_wrong {f : Addr} {fd : FuncData} (D : C8.Def K mg "_law_wrong" s_law_wrong f fd) (b : Binds K fd ["pool", "table"] []) (T : Txt K mg C_Ratio C_Gains C_GameError C_BadEdit C_BadPlan C_BadRatio C_BadText C_TooLarge C_BadGains) (c_law_draw : C8.Cal P w K mg base 1 "_law_draw" sp_law_draw []) : C8.Cal P w K mg base 2 "_law_wrong" sp_wrong [] := by
  refine cal0 D b .nil sc_law_wrong (fun vs H Q E h => ?_) (fun cdv A outer s H vs Q E hr h => ?_)
  · obtain ⟨p, q, is, v, tb, rfl, _⟩ := h
    rfl
  · obtain ⟨p, q, is, v, tb, rfl, hP, hT, hok, hcel, k⟩ := h
    refine ⟨_, (pss_cons (ps_set (i := 2) sc_law_wrong.nd rfl (by first | exact Or.inl rfl | exact Or.inr rfl) (pe_ix ix_tup (pe_ix ix_tup (pv 1) pe_int (fun _ _ => rfl)) pe_int (fun _ _ => rfl)))
(pss_cons (ps_set (i := 3) sc_law_wrong.nd rfl (by first | exact Or.inl rfl | exact Or.inr rfl) (pe_op op_repX (pe_tup (pa_cons (pv 2) pa_nil)) pe_int))
(pss_cons (ps_set (i := 4) sc_law_wrong.nd rfl (by first | exact Or.inl rfl | exact Or.inr rfl) (pe_lst (pa_cons (pe_tup pa_nil) (pa_cons (pe_op op_catA (pe_tup (pa_cons (pe_tup pa_nil) pa_nil)) (pe_slice sl_tupA (pv 1) (po_some pe_int) po_none)) (pa_cons (pe_op op_repX (pe_tup (pa_cons (pv 3) pa_nil)) (pe_op op_add pe_int (pe_c c_law_draw hr (by first | exact Nat.le_refl _ | decide | omega) rfl (pa_cons (pv 0) (pa_cons pe_int pa_nil))))) (pa_cons (pe_op op_repX (pe_tup (pa_cons (pe_ix ix_tup (pv 1) pe_int (fun _ _ => rfl)) pa_nil)) pe_int) (pa_cons (pe_tup (pa_cons (pe_tup pa_nil) pa_nil)) pa_nil)))))))
(pss_cons (ps_set (i := 5) sc_law_wrong.nd rfl (by first | exact Or.inl rfl | exact Or.inr rfl) (pe_c c_law_draw hr (by first | exact Nat.le_refl _ | decide | omega) rfl (pa_cons (pv 0) (pa_cons (pe_callB call_len_seq (by rfl) T.n_len bo_len (pa_cons (pv 1) pa_nil)) pa_nil))))
(pss_cons (ps_expr (pe_bm PySem.F.plainAttrs_list PySem.F.slot_list_append PySem.F.type_list_append mt_append (pv 4) (pa_cons (pe_op op_catA (pe_op op_catA (pe_op op_catA (pe_slice sl_tupA (pv 1) po_none (po_some (pv 5))) (pe_tup (pa_cons (pe_op op_catA (pe_ix ix_tup (pv 1) (pv 5) (fun _ _ => rfl)) (pe_tup (pa_cons (pv 2) pa_nil))) pa_nil))) (pe_slice sl_tupA (pv 1) (po_some (pe_op op_add (pv 5) pe_int)) po_none)) (pe_tup (pa_cons (pe_ix ix_tup (pv 1) (pv 5) (fun _ _ => rfl)) pa_nil))) pa_nil)))
(pss_cons (ps_expr (pe_bm PySem.F.plainAttrs_list PySem.F.slot_list_append PySem.F.type_list_append mt_append (pv 4) (pa_cons (pe_op op_catA (pv 1) (pe_tup (pa_cons (pe_slice sl_tupA (pe_ix ix_tup (pv 1) pe_int (fun _ _ => rfl)) (po_some pe_int) po_none) pa_nil))) pa_nil)))
(pss_one (ps_ret (pv 4))))))))), ?_⟩
    obtain ⟨o1, o2, o3, o4, o5⟩ := okT_iff hok
    obtain ⟨r0, tb', rfl⟩ : ∃ r0 tb', tb = r0 :: tb' := by
      cases tb with
      | nil => simp at o1
      | cons a l => exact ⟨a, l, rfl⟩
    have o2' : tb'.length + 1 ≤ 8 := o2
    have o3 : 1 ≤ r0.length := o3
    have o4 : r0.length ≤ 8 := o4
    have o5 : ∀ r ∈ r0 :: tb', r.length = r0.length := o5
    obtain ⟨c0, r0', rfl⟩ : ∃ c l, r0 = c :: l := by
      cases r0 with
      | nil => simp at o3
      | cons a l => exact ⟨a, l, rfl⟩
    obtain ⟨t, us, rfl, ht, hus⟩ := id hT
    obtain ⟨v0, hv0, hd0⟩ := hus.get (i := 0) (d := dRw (c0 :: r0')) rfl
    obtain ⟨t0, cs0, rfl, ht0, hc0⟩ := td_rw hd0
    obtain ⟨vc, hvc, hdc⟩ := hc0.get (i := 0) (d := dCel c0) rfl
    refine ⟨_, rfl, _, _, _, _, rfl, rfl, SqT.of ht, atI_nat (j := 0) hv0, _, _, _, _, rfl, rfl, SqT.of ht0, atI_nat (j := 0) hvc, ?_⟩
    refine ⟨_, rfl, by show 1 ≤ sizeLine; decide, fun a1 na1 => repCD (td_new (TDs.cons hdc .nil) na1) (n := 9) (k := 9) rfl (by decide) (by simp) fun wd H2 hwd k2 => ?_⟩
    rw [rep_one] at hwd
    have K2 := (Keep.new (W := []) (o := .tup [vc]) na1).trans k2
    -- the list
    refine And.intro (by show 0 ≤ sizeLine; decide) <| fun a2 na2 => ?_
    have e2 := td_new (H := H2) TDs.nil na2
    have K3 := K2.trans (Keep.new (W := []) (o := .tup []) na2)
    have kk3 := Keep.new (W := []) (o := .tup []) na2
    generalize upd H2 a2 (.tup []) = H3 at *
    refine And.intro (by show 0 ≤ sizeLine; decide) <| fun a3 na3 => ?_
    have e3 := td_new (H := H3) TDs.nil na3
    have kk4 := Keep.new (W := []) (o := .tup []) na3
    generalize upd H3 a3 (.tup []) = H4 at *
    refine And.intro (by show 1 ≤ sizeLine; decide) <| fun a4 na4 => ?_
    have e4 := td_new (H := H4) (TDs.cons e3.td .nil) na4
    have kk5 := Keep.new (W := []) (o := .tup [.ref a3]) na4
    generalize upd H4 a4 (.tup [.ref a3]) = H5 at *
    have K5 := (K3.trans kk4).trans kk5
    refine ⟨_, rfl, _, rfl, fromD (hT.tk K5.tk) (lo := 1) (k := 1) rfl fun s1 H6 hs1 k6 => catD (e4.tk k6.tk) hs1 (by simp; omega) fun x2 H7 hx2 k7 => ?_⟩
    have K7 := (K5.trans k6).trans k7
    have kk57 := k6.trans k7
    refine ⟨_, rfl, by show 1 ≤ sizeLine; decide, fun a5 na5 => ?_⟩
    have kk8 := Keep.new (W := []) (o := .tup [wd]) na5
    have e5 := td_new (H := H7) (TDs.cons ((hwd.tk (((kk3.trans kk4).trans kk5).trans kk57).tk).td) .nil) na5
    generalize upd H7 a5 (.tup [wd]) = H8 at *
    have K8 := K7.trans kk8
    refine ⟨_, rfl, p, q, is, 3, rfl, by decide, by decide, hP.keep0 K8, fun z H9 z0 z1 P9 k9 => ⟨_, _, rfl, rfl, ?_⟩⟩
    have tk9 := (hP.keep0 K8).tk k9
    obtain ⟨zn, rfl⟩ : ∃ zn : Nat, z = (zn : Int) := ⟨z.toNat, by omega⟩
    refine repD (e5.tk tk9) (k := 1 + zn) (by push_cast; rfl) (by omega) (by simp) fun x3 HA hx3 kA => ?_
    rw [rep_one] at hx3
    have K9 : Keep [p] H HA := ((K8.mono (by simp)).trans k9).trans (kA.mono (by simp))
    have tkA := K8.tk.trans (tk9.trans kA.tk)
    have hTA := hT.tk tkA
    obtain ⟨tA, usA, eA, htA, husA⟩ := id hTA
    obtain rfl : t = tA := V.ref.inj eA
    have hrow : DT HA (.ref t0) ((c0 :: r0').map dCel) := DT.of (hd0.tk tkA)
    have hv0A : usA[0]? = some (.ref t0) := by
      have := tkA _ _ ht
      rw [htA] at this
      cases this
      exact hv0
    refine ⟨_, rfl, _, _, _, _, rfl, rfl, SqT.of htA, atI_nat (j := 0) hv0A, by show 1 ≤ sizeLine; decide, fun a6 na6 => ?_⟩
    have kkB := Keep.new (W := []) (o := .tup [.ref t0]) na6
    have e6 := td_new (H := HA) (TDs.cons hrow.td .nil) na6
    generalize upd HA a6 (.tup [.ref t0]) = HB at *
    refine repCD e6 (n := 9) (k := 9) rfl (by decide) (by simp) fun x4 HC hx4 kC => ?_
    rw [rep_one] at hx4
    have kkC := kkB.trans kC
    refine And.intro (by show 0 ≤ sizeLine; decide) <| fun a7 na7 => ?_
    have e7 := td_new (H := HC) TDs.nil na7
    have kkD := Keep.new (W := []) (o := .tup []) na7
    generalize upd HC a7 (.tup []) = HD at *
    refine And.intro (by show 1 ≤ sizeLine; decide) <| fun a8 na8 => ?_
    have e8 := td_new (H := HD) (TDs.cons e7.td .nil) na8
    have kkE := Keep.new (W := []) (o := .tup [.ref a7]) na8
    generalize upd HD a8 (.tup [.ref a7]) = HE at *
    refine And.intro (by show 5 ≤ sizeLine; decide) <| fun l nl => ?_
    have kCE := (kkC.trans kkD).trans kkE
    have PE' := (P9.keep0 kA).keep0 kCE
    have KE' : Keep [p] H HE := K9.trans (kCE.mono (by simp))
    have nlH := PE'.free KE' nl
    have lp := PE'.nep nl
    have lq := PE'.neq nl
    have kkF := Keep.new (W := []) (o := .lst [.ref a2, x2, x3, x4, .ref a8]) nl
    have hl : upd HE l (.lst [.ref a2, x2, x3, x4, .ref a8]) l = some (.lst [.ref a2, x2, x3, x4, .ref a8]) := upd_same
    have PF := PE'.keep0 kkF
    have KF : Keep [p] H _ := KE'.trans (kkF.mono (by simp))
    have t3E : TK H3 HE := ((((kk4.trans kk5).trans kk57).trans kk8).tk).trans ((tk9.trans kA.tk).trans kCE.tk)
    have t7E : TK H7 HE := kk8.tk.trans ((tk9.trans kA.tk).trans kCE.tk)
    have all5 := (TDs.cons (e2.tk t3E).td (.cons (hx2.tk t7E).td (.cons (hx3.tk kCE.tk).td (.cons (hx4.tk (kkD.trans kkE).tk).td (.cons e8.td .nil))))).tk kkF.tk
    have tkF := tkA.trans (kCE.tk.trans kkF.tk)
    generalize upd HE l (.lst [.ref a2, x2, x3, x4, .ref a8]) = HF at *
    refine ⟨_, rfl, _, rfl, t, _, rfl, .inr (SqT.of (tkF _ _ ht)), p, q, is, _, rfl, ?_, ?_, PF, fun y HG y0 y1 PG kG => ?_⟩
    · have := hus.length
      rw [List.length_map] at this
      rw [this]
      exact Int.natCast_pos.mpr o1
    · have := hus.length
      rw [List.length_map] at this
      rw [this]
      omega
    have hul := hus.length
    rw [List.length_map] at hul
    obtain ⟨j, rfl⟩ : ∃ j : Nat, y = (j : Int) := ⟨y.toNat, by omega⟩
    have hj : j < ((c0 :: r0') :: tb').length := by omega
    obtain ⟨rj, hrj⟩ : ∃ r, ((c0 :: r0') :: tb')[j]? = some r := ⟨_, List.getElem?_eq_getElem hj⟩
    have hrm := List.mem_of_getElem? hrj
    have hrl := o5 rj hrm
    have tkG := tkF.trans (PF.tk kG)
    have hTG := hT.tk tkG
    have htG := tkG _ _ ht
    have husG := hus.tk tkG
    obtain ⟨vj, hvj, hdj⟩ := husG.get (i := j) (d := dRw rj) (by rw [List.getElem?_map, hrj]; rfl)
    have hrowj : DT HG vj (rj.map dCel) := DT.of hdj
    have hlG := kG _ _ hl (by simpa using lp)
    have KG := KF.trans kG
    have all5G := all5.tk (PF.tk kG)
    refine ⟨_, rfl, .inl ⟨rfl, _, SqL.of hlG⟩, _, rfl, _, rfl, _, rfl, toD hTG (k := j) rfl fun s2 HH hs2 kH => ?_⟩
    refine ⟨_, rfl, _, rfl, _, _, _, _, rfl, rfl, SqT.of (kH.tk _ _ htG), atI_nat hvj, _, rfl, by show 1 ≤ sizeLine; decide, fun b1 nb1 => ?_⟩
    have kI := Keep.new (W := []) (o := .tup [vc]) nb1
    have f1 := td_new (H := HH) (TDs.cons ((hdc.tk tkG).tk kH.tk) .nil) nb1
    generalize upd HH b1 (.tup [vc]) = HI at *
    refine catD ((hrowj.tk kH.tk).tk kI.tk) f1 (by simp; omega) fun s3 HJ hs3 kJ => ?_
    refine And.intro (by show 1 ≤ sizeLine; decide) <| fun b2 nb2 => ?_
    have kK := Keep.new (W := []) (o := .tup [s3]) nb2
    have f2 := td_new (H := HJ) (TDs.cons hs3.td .nil) nb2
    generalize upd HJ b2 (.tup [s3]) = HK at *
    have kGK := ((kH.trans kI).trans kJ).trans kK
    refine catD (hs2.tk ((kI.trans kJ).trans kK).tk) f2 (by simp; omega) fun s4 HL hs4 kL => ?_
    refine ⟨_, rfl, _, rfl, _, _, rfl, rfl, _, rfl, fromND (hTG.tk (kGK.trans kL).tk) (k := j + 1) (by push_cast; rfl) fun s5 HM hs5 kM => ?_⟩
    refine catD (hs4.tk kM.tk) hs5 (by simp; omega) fun s6 HN hs6 kN => ?_
    have kGN := ((kGK.trans kL).trans kM).trans kN
    refine ⟨_, rfl, _, rfl, _, _, _, _, rfl, rfl, SqT.of (kGN.tk _ _ htG), atI_nat hvj, by show 1 ≤ sizeLine; decide, fun b3 nb3 => ?_⟩
    have kO := Keep.new (W := []) (o := .tup [vj]) nb3
    have f3 := td_new (H := HN) (TDs.cons ((hrowj.tk kGN.tk).td) .nil) nb3
    generalize upd HN b3 (.tup [vj]) = HO' at *
    refine catD (hs6.tk kO.tk) f3 (by simp; omega) fun x6 HP hx6 kP => ?_
    have kGP := (kGN.trans kO).trans kP
    have hlP := kGP _ _ hlG (by simp)
    refine ⟨l, _, _, rfl, rfl, hlP, smallL (by simp), ?_⟩
    have tl1 := TK.lst (o := .lst ([.ref a2, x2, x3, x4, .ref a8] ++ [x6])) hlP
    have all6 := ((all5G.tk kGP.tk).append (.cons hx6.td .nil)).tk tl1
    have PQ := ((PG.keep0 kGP).own (a := l) (o := .lst ([.ref a2, x2, x3, x4, .ref a8] ++ [x6])) lp lq)
    have KQ : Keep [p] H _ := (KG.trans (kGP.mono (by simp))).then_own (o := .lst ([.ref a2, x2, x3, x4, .ref a8] ++ [x6])) nlH
    have hlQ : upd HP l (.lst ([.ref a2, x2, x3, x4, .ref a8] ++ [x6])) l = some (.lst ([.ref a2, x2, x3, x4, .ref a8] ++ [x6])) := upd_same
    have tkQ := (tkG.trans kGP.tk).trans tl1
    generalize upd HP l (.lst ([.ref a2, x2, x3, x4, .ref a8] ++ [x6])) = HQ at *
    refine ⟨_, rfl, .inl ⟨rfl, _, SqL.of hlQ⟩, _, rfl, _, rfl, _, _, _, _, rfl, rfl, SqT.of (tkQ _ _ ht), atI_nat (j := 0) hv0, _, rfl, fromND (DT.of (hd0.tk tkQ)) (lo := 1) (k := 1) rfl fun s7 HR hs7 kR => ?_⟩
    refine And.intro (by show 1 ≤ sizeLine; decide) <| fun b4 nb4 => ?_
    have kS := Keep.new (W := []) (o := .tup [s7]) nb4
    have f4 := td_new (H := HR) (TDs.cons hs7.td .nil) nb4
    generalize upd HR b4 (.tup [s7]) = HS at *
    refine catD ((hT.tk tkQ).tk (kR.trans kS).tk) f4 (by simp; omega) fun x7 HT' hx7 kT => ?_
    have kQT := (kR.trans kS).trans kT
    have hlT := kQT _ _ hlQ (by simp)
    refine ⟨l, _, _, rfl, rfl, hlT, smallL (by simp), ?_⟩
    have tl2 := TK.lst (o := .lst ([.ref a2, x2, x3, x4, .ref a8] ++ [x6] ++ [x7])) hlT
    have all7 := ((all6.tk kQT.tk).append (.cons hx7.td .nil)).tk tl2
    have PU := ((PQ.keep0 kQT).own (a := l) (o := .lst ([.ref a2, x2, x3, x4, .ref a8] ++ [x6] ++ [x7])) lp lq)
    have KU : Keep [p] H _ := (KQ.trans (kQT.mono (by simp))).then_own (o := .lst ([.ref a2, x2, x3, x4, .ref a8] ++ [x6] ++ [x7])) nlH
    refine ⟨_, rfl, k l _ [[], [] :: tb', List.replicate (1 + zn) (List.replicate 9 c0), List.replicate 9 (c0 :: r0'), [[]], ((c0 :: r0') :: tb').take j ++ [rj ++ [c0]] ++ ((c0 :: r0') :: tb').drop (j + 1) ++ [rj], ((c0 :: r0') :: tb') ++ [r0']] _ nlH upd_same ?_ ?_ PU KU⟩
    · have e : ∀ {us vs : List V} {ds es : List PyData} {H : Hp}, us = vs → ds = es → TDs H us ds → TDs H vs es := fun h1 h2 h => by rw [← h1, ← h2]; exact h
      refine e rfl ?_ all7
      simp [dTb, dRw, List.map_append, List.map_take, List.map_drop, List.map_replicate]
    · have hc0 : CelOk c0 := hcel _ (List.mem_cons_self ..) _ (List.mem_cons_self ..)
      have hcj : ∀ c ∈ rj, CelOk c := hcel rj hrm
      have h2' : ((c0 :: r0') :: tb').length ≤ 8 := o2
      have hrow8 : ∀ r ∈ (c0 :: r0') :: tb', r.length ≤ 8 := fun r hr => by rw [o5 r hr]; exact o4
      intro b hb
      simp only [List.mem_cons, List.not_mem_nil, or_false] at hb
      rcases hb with rfl | rfl | rfl | rfl | rfl | rfl | rfl
      · exact ⟨rfl, by decide, fun _ h => nomatch h⟩
      · refine ⟨okT_false fun z => ?_, by rw [List.length_cons]; omega, fun r hr => ?_⟩
        · have := z.2.2.1
          simp at this
        · rcases List.mem_cons.mp hr with rfl | hr
          · exact ⟨by decide, fun _ h => nomatch h⟩
          · exact ⟨by have := hrow8 r (List.mem_cons_of_mem _ hr); omega, hcel r (List.mem_cons_of_mem _ hr)⟩
      · refine ⟨okT_false fun z => ?_, by rw [List.length_replicate]; omega, fun r hr => ?_⟩
        · have h := z.2.2.2.1
          rw [Nat.add_comm, List.replicate_succ] at h
          change (List.replicate 9 c0).length ≤ 8 at h
          rw [List.length_replicate] at h
          omega
        · rw [List.eq_of_mem_replicate hr]
          exact ⟨by rw [List.length_replicate]; decide, fun c hc => by rw [List.eq_of_mem_replicate hc]; exact hc0⟩
      · refine ⟨okT_false fun z => ?_, by rw [List.length_replicate]; decide, fun r hr => ?_⟩
        · have h := z.2.1
          rw [List.length_replicate] at h
          omega
        · rw [List.eq_of_mem_replicate hr]
          exact ⟨by have := hrow8 _ (List.mem_cons_self ..); omega, hcel _ (List.mem_cons_self ..)⟩
      · refine ⟨okT_false fun z => ?_, by decide, fun r hr => ?_⟩
        · have := z.2.2.1
          simp at this
        · rw [List.mem_singleton.mp hr]; exact ⟨by decide, fun _ h => nomatch h⟩
      · refine ⟨okT_two (r := rj ++ [c0]) (r' := rj) (by simp) (by simp) (by simp), ?_, fun r hr => ?_⟩
        · simp only [List.length_append, List.length_take, List.length_drop, List.length_singleton]; omega
        · simp only [List.mem_append, List.mem_singleton] at hr
          rcases hr with ((hr | rfl) | hr) | rfl
          · have hm := List.mem_of_mem_take hr
            exact ⟨by have := hrow8 r hm; omega, hcel r hm⟩
          · refine ⟨by rw [List.length_append, List.length_singleton]; have := hrow8 rj hrm; omega, fun c hc => ?_⟩
            rcases List.mem_append.mp hc with hc | hc
            · exact hcj c hc
            · rw [List.mem_singleton.mp hc]; exact hc0
          · have hm := List.mem_of_mem_drop hr
            exact ⟨by have := hrow8 r hm; omega, hcel r hm⟩
          · exact ⟨by have := hrow8 r hrm; omega, hcj⟩
      · refine ⟨okT_two (r := c0 :: r0') (r' := r0') (by simp) (by simp) (by simp), ?_, fun r hr => ?_⟩
        · rw [List.length_append, List.length_singleton]; omega
        · rcases List.mem_append.mp hr with hr | hr
          · exact ⟨by have := hrow8 r hr; omega, hcel r hr⟩
          · rw [List.mem_singleton.mp hr]
            exact ⟨by have := hrow8 _ (List.mem_cons_self ..); simp at this; omega, fun c hc => hcel _ (List.mem_cons_self ..) c (List.mem_cons_of_mem _ hc)⟩
end

/-! tables that differ -/
def CelOk2 (c : Cel) : Prop := (FrB 300 200 c.1 ∧ FrB 300 200 c.2) ∧ (RedOk c.1 ∧ RedOk c.2)
theorem CelOk.two {c : Cel} (h : CelOk c) : CelOk2 c := ⟨⟨h.1.1.mono (by decide) (by decide), h.1.2.mono (by decide) (by decide)⟩, h.2⟩
def LikeT (tb : Tab) : Prop := okT tb = true ∧ ∀ r ∈ tb, ∀ c ∈ r, CelOk2 c
theorem okT_of {tb : Tab} {n : Nat} (h1 : 1 ≤ tb.length) (h8 : tb.length ≤ 8) (w1 : 1 ≤ n) (w8 : n ≤ 8) (h : ∀ r ∈ tb, r.length = n) : okT tb = true := by
  cases tb with
  | nil => simp at h1
  | cons r0 tb' =>
    have h0 := h r0 (List.mem_cons_self ..)
    unfold okT
    simp only [Bool.and_eq_true, decide_eq_true_eq, List.all_eq_true]
    exact ⟨⟨h1, h8⟩, ⟨by show 1 ≤ r0.length; omega, by show r0.length ≤ 8; omega⟩, fun r hr => by show r.length = r0.length; rw [h r hr, h0]⟩
theorem RedOk.pl {a b : Fr} (ha : RedOk a) (hb : RedOk b) : RedOk (plR a b) := by
  unfold plR
  split
  · exact hb
  · split
    · exact ha
    · exact red_idem (Int.mul_pos ha.1 hb.1)
def sp_unlike : Sp := fun vs H Q _ => ∃ (p q : Addr) (is : List Int) (v : V) (tb : Tab), vs = [.ref p, v] ∧ Pool H p q is ∧ DT H v (tb.map dRw) ∧ okT tb = true ∧ CelsOk tb ∧
  ∀ (l : Addr) (us : List V) (tbs : List Tab) (H' : Hp), H l = none → H' l = some (.lst us) → TDs H' us (tbs.map dTb) → (∀ b ∈ tbs, LikeT b) → tbs.length ≤ 20 → Pool H' p q is → Keep [p] H H' → Q (.ref l) H'
theorem p25 : (10 : Int) ^ (25 : Int).toNat = 10000000000000000000000000 := by decide
def putC (tb : Tab) (i j : Nat) (r : List Cel) (c : Cel) : Tab := tb.take i ++ [r.take j ++ [c] ++ r.drop (j + 1)] ++ tb.drop (i + 1)
theorem put_like {tb : Tab} (h : LikeT tb) {i j : Nat} {r : List Cel} (hi : tb[i]? = some r) (hj : j < r.length) {c : Cel} (hc : CelOk2 c) : LikeT (putC tb i j r c) := by
  obtain ⟨o1, o2, o3, o4, o5⟩ := okT_iff h.1
  have hil := (List.getElem?_eq_some_iff.mp hi).1
  have hrm := List.mem_of_getElem? hi
  refine ⟨okT_of (n := (tb.headD []).length) ?_ ?_ o3 o4 fun r' hr' => ?_, fun r' hr' c' hc' => ?_⟩
  · unfold putC
    simp only [List.length_append, List.length_take, List.length_drop, List.length_singleton]; omega
  · unfold putC
    simp only [List.length_append, List.length_take, List.length_drop, List.length_singleton]; omega
  · unfold putC at hr'
    simp only [List.mem_append, List.mem_singleton] at hr'
    rcases hr' with (hr' | rfl) | hr'
    · exact o5 r' (List.mem_of_mem_take hr')
    · simp only [List.length_append, List.length_take, List.length_drop, List.length_singleton]
      rw [← o5 r hrm]; omega
    · exact o5 r' (List.mem_of_mem_drop hr')
  · unfold putC at hr'
    simp only [List.mem_append, List.mem_singleton] at hr'
    rcases hr' with (hr' | rfl) | hr'
    · exact h.2 r' (List.mem_of_mem_take hr') c' hc'
    · simp only [List.mem_append, List.mem_singleton] at hc'
      rcases hc' with (hc' | rfl) | hc'
      · exact h.2 r hrm c' (List.mem_of_mem_take hc')
      · exact hc
      · exact h.2 r hrm c' (List.mem_of_mem_drop hc')
    · exact h.2 r' (List.mem_of_mem_drop hr') c' hc'
theorem putC_td (tb : Tab) (i j : Nat) (r : List Cel) (c : Cel) : dTb (putC tb i j r c) = .tuple ((tb.map dRw).take i ++ [.tuple ((r.map dCel).take j ++ [dCel c] ++ (r.map dCel).drop (j + 1))] ++ (tb.map dRw).drop (i + 1)) := by
  unfold dTb putC
  simp [dRw, List.map_append, List.map_take, List.map_drop]
theorem rev_like {tb : Tab} (h : LikeT tb) : LikeT tb.reverse := by
  obtain ⟨o1, o2, o3, o4, o5⟩ := okT_iff h.1
  exact ⟨okT_of (by rw [List.length_reverse]; exact o1) (by rw [List.length_reverse]; exact o2) o3 o4 fun r hr => o5 r (List.mem_reverse.mp hr), fun r hr => h.2 r (List.mem_reverse.mp hr)⟩
theorem revs_like {tb : Tab} (h : LikeT tb) : LikeT (tb.map List.reverse) := by
  obtain ⟨o1, o2, o3, o4, o5⟩ := okT_iff h.1
  refine ⟨okT_of (by rw [List.length_map]; exact o1) (by rw [List.length_map]; exact o2) o3 o4 fun r hr => ?_, fun r hr c hc => ?_⟩
  · obtain ⟨q, hq, rfl⟩ := List.mem_map.mp hr
    rw [List.length_reverse]; exact o5 q hq
  · obtain ⟨q, hq, rfl⟩ := List.mem_map.mp hr
    exact h.2 q hq c (List.mem_reverse.mp hc)
theorem turn_like {tb : Tab} (h : LikeT tb) : LikeT (turnT tb) := by
  refine ⟨okT_turn h.1, fun r hr c hc => ?_⟩
  unfold turnT at hr
  obtain ⟨j, hj, rfl⟩ := List.mem_map.mp hr
  obtain ⟨q, hq, rfl⟩ := List.mem_map.mp hc
  have hl := (okT_iff h.1).2.2.2.2 q hq
  have hj' := List.mem_range.mp hj
  have e : q.getD j c0 = q[j]'(by omega) := by rw [List.getD_eq_getElem?_getD, List.getElem?_eq_getElem (by omega)]; rfl
  rw [e]
  have := h.2 q hq _ (List.getElem_mem (h := show j < q.length by omega))
  exact ⟨⟨this.1.2, this.1.1⟩, ⟨this.2.2, this.2.1⟩⟩
theorem more_like {tb : Tab} (h : LikeT tb) (h8 : tb.length < 8) : LikeT (tb ++ tb.take 1) := by
  obtain ⟨o1, o2, o3, o4, o5⟩ := okT_iff h.1
  refine ⟨okT_of (n := (tb.headD []).length) (by rw [List.length_append]; omega) (by rw [List.length_append, List.length_take]; omega) o3 o4 fun r hr => ?_, fun r hr => ?_⟩
  · rcases List.mem_append.mp hr with hr | hr
    · exact o5 r hr
    · exact o5 r (List.mem_of_mem_take hr)
  · rcases List.mem_append.mp hr with hr | hr
    · exact h.2 r hr
    · exact h.2 r (List.mem_of_mem_take hr)
theorem wide_like {tb : Tab} (h : LikeT tb) (h8 : (tb.headD []).length < 8) : LikeT (tb.map fun r => r ++ r.take 1) := by
  obtain ⟨o1, o2, o3, o4, o5⟩ := okT_iff h.1
  refine ⟨okT_of (n := (tb.headD []).length + 1) (by rw [List.length_map]; exact o1) (by rw [List.length_map]; exact o2) (by omega) (by omega) fun r hr => ?_, fun r hr c hc => ?_⟩
  · obtain ⟨q, hq, rfl⟩ := List.mem_map.mp hr
    rw [List.length_append, List.length_take, o5 q hq]; omega
  · obtain ⟨q, hq, rfl⟩ := List.mem_map.mp hr
    rcases List.mem_append.mp hc with hc | hc
    · exact h.2 q hq c hc
    · exact h.2 q hq c (List.mem_of_mem_take hc)
section
variable {P : Program} {w : World} {K : PySem.W.Frag} {mg : Str → Option Value} {base : Heap} {C_Ratio : Addr} {C_Gains : Addr} {C_GameError : Addr} {C_BadEdit : Addr} {C_BadPlan : Addr} {C_BadRatio : Addr} {C_BadText : Addr} {C_TooLarge : Addr} {C_BadGains : Addr} {f_BadGains___init : Addr}
theorem ok_unlike {f : Addr} {fd : FuncData} (D : C8.Def K mg "_law_unlike" s_law_unlike f fd) (b : Binds K fd ["pool", "table"] []) (T : Txt K mg C_Ratio C_Gains C_GameError C_BadEdit C_BadPlan C_BadRatio C_BadText C_TooLarge C_BadGains) (c_law_draw : C8.Cal P w K mg base 1 "_law_draw" sp_law_draw []) (c_law_plus : C8.Cal P w K mg base 3 "_law_plus" sp_plus []) (c_law_turned : C8.Cal P w K mg base 1 "_law_turned" sp_lturned []) : C8.Cal P w K mg base 4 "_law_unlike" sp_unlike [] := by
  refine cal0 D b .nil sc_law_unlike (fun vs H Q E h => ?_) (fun cdv A outer s H vs Q E hr h => ?_)
  · obtain ⟨p, q, is, v, tb, rfl, _⟩ := h
    rfl
  · obtain ⟨p, q, is, v, tb, rfl, hP, hT, hok, hcel, k⟩ := h
    refine ⟨_, (pss_cons (ps_set (i := 2) sc_law_unlike.nd rfl (by first | exact Or.inl rfl | exact Or.inr rfl) (pe_c c_law_draw hr (by first | exact Nat.le_refl _ | decide | omega) rfl (pa_cons (pv 0) (pa_cons (pe_callB call_len_seq (by rfl) T.n_len bo_len (pa_cons (pv 1) pa_nil)) pa_nil))))
(pss_cons (ps_set (i := 3) sc_law_unlike.nd rfl (by first | exact Or.inl rfl | exact Or.inr rfl) (pe_c c_law_draw hr (by first | exact Nat.le_refl _ | decide | omega) rfl (pa_cons (pv 0) (pa_cons (pe_callB call_len_seq (by rfl) T.n_len bo_len (pa_cons (pe_ix ix_tup (pv 1) pe_int (fun _ _ => rfl)) pa_nil)) pa_nil))))
(pss_cons (ps_asg (pe_ix ix_tup (pe_ix ix_tup (pv 1) (pv 2) (fun _ _ => rfl)) (pv 3) (fun _ _ => rfl)) (pg_tup (by rfl) (pgs_cons (pg_name (i := 4) sc_law_unlike.nd rfl (by first | exact Or.inl rfl | exact Or.inr rfl)) (pgs_cons (pg_name (i := 5) sc_law_unlike.nd rfl (by first | exact Or.inl rfl | exact Or.inr rfl)) pgs_nil))))
(pss_cons (ps_set (i := 6) sc_law_unlike.nd rfl (by first | exact Or.inl rfl | exact Or.inr rfl) (pe_lst pa_nil))
(pss_cons (ps_for PassesOwn.never rfl (pi_tup (pe_tup (pa_cons (pe_tup (pa_cons (pe_c c_law_plus hr (by first | exact Nat.le_refl _ | decide | omega) rfl (pa_cons (pv 4) (pa_cons (pe_tup (pa_cons pe_int (pa_cons (pe_op op_pow pe_int pe_int) pa_nil))) pa_nil))) (pa_cons (pv 5) pa_nil))) (pa_cons (pe_tup (pa_cons (pv 4) (pa_cons (pe_c c_law_plus hr (by first | exact Nat.le_refl _ | decide | omega) rfl (pa_cons (pv 5) (pa_cons (pe_tup (pa_cons (pe_op op_sub pe_int pe_int) (pa_cons (pe_op op_pow pe_int pe_int) pa_nil))) pa_nil))) pa_nil))) (pa_cons (pe_tup (pa_cons (pv 5) (pa_cons (pv 4) pa_nil))) pa_nil))))) (pg_name (i := 7) sc_law_unlike.nd rfl (by first | exact Or.inl rfl | exact Or.inr rfl))
  (pss_one (ps_expr (pe_bm PySem.F.plainAttrs_list PySem.F.slot_list_append PySem.F.type_list_append mt_append (pv 6) (pa_cons (pe_op op_catA (pe_op op_catA (pe_slice sl_tupA (pv 1) po_none (po_some (pv 2))) (pe_tup (pa_cons (pe_op op_catA (pe_op op_catA (pe_slice sl_tupA (pe_ix ix_tup (pv 1) (pv 2) (fun _ _ => rfl)) po_none (po_some (pv 3))) (pe_tup (pa_cons (pv 7) pa_nil))) (pe_slice sl_tupA (pe_ix ix_tup (pv 1) (pv 2) (fun _ _ => rfl)) (po_some (pe_op op_add (pv 3) pe_int)) po_none)) pa_nil))) (pe_slice sl_tupA (pv 1) (po_some (pe_op op_add (pv 2) pe_int)) po_none)) pa_nil)))))
(pss_cons (ps_set (i := 6) sc_law_unlike.nd rfl (by first | exact Or.inl rfl | exact Or.inr rfl) (pe_op op_cat (pv 6) (pe_lst (pa_cons (pe_revT (pv 1)) (pa_cons (pe_callTy call_tuple_of (by rfl) T.n_tuple bo_tuple (pa_cons (pe_lc (own := [("row", 8)]) (g := gName 8) (tt := tYes) rfl sc_law_unlike.nd (pi_tup (pv 1)) (blkOk_by (N := ["pool", "table", "at", "of", "one", "two", "found", "cell", "row"]) (sc := fnScope s_law_unlike) (by decide +kernel)) (fun _ _ _ _ _ => pg_name (i := 8) sc_law_unlike.nd rfl (by first | exact Or.inl rfl | exact Or.inr rfl)) (fun _ _ _ _ _ => pts_nil) (fun _ _ _ _ _ => (pe_revTK (K := K) (pv 8)))) pa_nil)) (pa_cons (pe_c c_law_turned hr (by first | exact Nat.le_refl _ | decide | omega) rfl (pa_cons (pv 1) pa_nil)) pa_nil))))))
(pss_cut (ps_if (pt_cmpR op_lt (pe_callB call_len_seq (by rfl) T.n_len bo_len (pa_cons (pv 1) pa_nil)) pe_int (nomark _))
  (pss_one (ps_expr (pe_bm PySem.F.plainAttrs_list PySem.F.slot_list_append PySem.F.type_list_append mt_append (pv 6) (pa_cons (pe_op op_catA (pv 1) (pe_slice sl_tupA (pv 1) po_none (po_some pe_int))) pa_nil))))
  pss_nil)
(pss_cut (ps_if (pt_cmpR op_lt (pe_callB call_len_seq (by rfl) T.n_len bo_len (pa_cons (pe_ix ix_tup (pv 1) pe_int (fun _ _ => rfl)) pa_nil)) pe_int (nomark _))
  (pss_one (ps_expr (pe_bm PySem.F.plainAttrs_list PySem.F.slot_list_append PySem.F.type_list_append mt_append (pv 6) (pa_cons (pe_callTy call_tuple_of (by rfl) T.n_tuple bo_tuple (pa_cons (pe_lc (own := [("row", 8)]) (g := gName 8) (tt := tYes) rfl sc_law_unlike.nd (pi_tup (pv 1)) (blkOk_by (N := ["pool", "table", "at", "of", "one", "two", "found", "cell", "row"]) (sc := fnScope s_law_unlike) (by decide +kernel)) (fun _ _ _ _ _ => pg_name (i := 8) sc_law_unlike.nd rfl (by first | exact Or.inl rfl | exact Or.inr rfl)) (fun _ _ _ _ _ => pts_nil) (fun _ _ _ _ _ => (pe_op (op_catAK (K := K)) (pv 8) (pe_slice (sl_tupAK (K := K)) (pv 8) po_none (po_some pe_int))))) pa_nil)) pa_nil))))
  pss_nil)
(pss_one (ps_ret (pv 6))))))))))), ?_⟩
    have hlike : LikeT tb := ⟨hok, fun r hr c hc => (hcel r hr c hc).two⟩
    obtain ⟨o1, o2, o3, o4, o5⟩ := okT_iff hok
    obtain ⟨t, us, rfl, ht, hus⟩ := id hT
    have hul := hus.length
    rw [List.length_map] at hul
    refine ⟨_, rfl, _, rfl, t, _, rfl, .inr (SqT.of ht), p, q, is, _, rfl, by omega, by omega, hP, fun y H1 y0 y1 P1 k1 => ?_⟩
    obtain ⟨i, rfl⟩ : ∃ i : Nat, y = (i : Int) := ⟨y.toNat, by omega⟩
    obtain ⟨r, hri⟩ : ∃ r, tb[i]? = some r := ⟨_, List.getElem?_eq_getElem (by omega)⟩
    obtain ⟨r0, hr0⟩ : ∃ r, tb[0]? = some r := ⟨_, List.getElem?_eq_getElem (by omega)⟩
    have tk1 := hP.tk k1
    obtain ⟨v0, hv0, hd0⟩ := (hus.tk tk1).get (i := 0) (d := dRw r0) (by rw [List.getElem?_map, hr0]; rfl)
    obtain ⟨t0, cs0, rfl, ht0, hc0⟩ := td_rw hd0
    have hcl0 := hc0.length
    rw [List.length_map, o5 r0 (List.mem_of_getElem? hr0)] at hcl0
    have hrl := o5 r (List.mem_of_getElem? hri)
    refine ⟨_, rfl, _, rfl, _, _, _, _, rfl, rfl, SqT.of (tk1 _ _ ht), atI_nat (j := 0) hv0, t0, cs0, rfl, .inr (SqT.of ht0), p, q, is, _, rfl, by omega, by omega, P1, fun y H2 y2 y3 P2 k2 => ?_⟩
    obtain ⟨j, rfl⟩ : ∃ j : Nat, y = (j : Int) := ⟨y.toNat, by omega⟩
    have k12 := k1.trans k2
    have tk2 := tk1.trans (P1.tk k2)
    have hT2 := hT.tk tk2
    have ht2 := tk2 _ _ ht
    obtain ⟨vi, hvi, hdi⟩ := (hus.tk tk2).get (i := i) (d := dRw r) (by rw [List.getElem?_map, hri]; rfl)
    obtain ⟨ti, csi, rfl, hti, hci⟩ := td_rw hdi
    obtain ⟨c, hcj⟩ : ∃ c, r[j]? = some c := ⟨_, List.getElem?_eq_getElem (by omega)⟩
    obtain ⟨vc, hvc, hdc⟩ := hci.get (i := j) (d := dCel c) (by rw [List.getElem?_map, hcj]; rfl)
    obtain ⟨ct, cp, cq, rfl, hct, hcp, hcq⟩ := td_cel hdc
    have hcok := hcel r (List.mem_of_getElem? hri) c (List.mem_of_getElem? hcj)
    have hjl := (List.getElem?_eq_some_iff.mp hcj).1
    refine ⟨_, rfl, _, rfl, _, _, _, _, rfl, rfl, SqT.of ht2, atI_nat hvi, _, rfl, _, _, _, _, rfl, rfl, SqT.of hti, atI_nat hvc, ct, _, rfl, SqT.of hct, rfl, _, _, rfl, _, _, rfl, rfl, ?_⟩
    refine And.intro (by show 0 ≤ sizeLine; decide) <| fun F nF => ?_
    have kF := Keep.new (W := []) (o := .lst []) nF
    have hF : upd H2 F (.lst []) F = some (.lst []) := upd_same
    have nFH := P2.free k12 nF
    have Fp := P2.nep nF
    have Fq := P2.neq nF
    generalize upd H2 F (.lst []) = H3 at *
    -- the three cells
    have f1 : FrAt H3 (.ref cp) c.1 := ⟨cp, rfl, kF _ _ hcp (by simp)⟩
    have f2 : FrAt H3 (.ref cq) c.2 := ⟨cq, rfl, kF _ _ hcq (by simp)⟩
    have q1 : FrB 1 84 ((1, 10000000000000000000000000) : Fr) := ⟨by decide, by decide, by decide⟩
    have q2 : FrB 1 84 ((-1, 10000000000000000000000000) : Fr) := ⟨by decide, by decide, by decide⟩
    have g1 : RedOk ((1, 10000000000000000000000000) : Fr) := redOk_of (by decide) (by decide)
    have g2 : RedOk ((-1, 10000000000000000000000000) : Fr) := redOk_of (by decide) (by decide)
    refine ⟨_, rfl, _, _, rfl, rfl, ⟨by decide, by decide, by decide⟩, by show 2 ≤ sizeLine; decide, fun a1 na1 => ?_⟩
    have kA := Keep.new (W := []) (o := .tup [.int 1, .int 10000000000000000000000000]) na1
    have hA : upd H3 a1 (.tup [.int 1, .int 10000000000000000000000000]) a1 = some (.tup [.int 1, .int 10000000000000000000000000]) := upd_same
    refine ⟨_, _, c.1, (1, 10000000000000000000000000), rfl, f1.keep kA, ⟨a1, rfl, hA⟩, hcok.1.1.ok (by decide) (by decide), q1.ok (by decide) (by decide), fun z1 H5 hz1 k5 => ?_⟩
    refine ⟨_, rfl, by show 2 ≤ sizeLine; decide, fun a2 na2 => ?_⟩
    have kB := Keep.new (W := []) (o := .tup [z1, .ref cq]) na2
    have k35 := kA.trans k5
    have e1 := td_new (H := H5) (TDs.cons hz1.td (.cons (f2.keep k35).td .nil)) na2
    generalize upd H5 a2 (.tup [z1, .ref cq]) = H6 at *
    refine ⟨_, rfl, _, rfl, _, _, rfl, rfl, _, _, rfl, rfl, ⟨by decide, by decide, by decide⟩, by show 2 ≤ sizeLine; decide, fun a3 na3 => ?_⟩
    have kC := Keep.new (W := []) (o := .tup [.int (0 - 1), .int 10000000000000000000000000]) na3
    have hC : upd H6 a3 (.tup [.int (0 - 1), .int 10000000000000000000000000]) a3 = some (.tup [.int (0 - 1), .int 10000000000000000000000000]) := upd_same
    have k36 := k35.trans kB
    have k37 := k36.trans kC
    refine ⟨_, _, c.2, (-1, 10000000000000000000000000), rfl, f2.keep k37, ⟨a3, rfl, by show upd H6 a3 (.tup [.int (0 - 1), .int ((10 : Int) ^ (25 : Int).toNat)]) a3 = some (.tup [.int (-1), .int 10000000000000000000000000]); rw [upd_same, p25]; rfl⟩, hcok.1.2.ok (by decide) (by decide), q2.ok (by decide) (by decide), fun z2 H8 hz2 k8 => ?_⟩
    have k38 := k37.trans k8
    refine And.intro (by show 2 ≤ sizeLine; decide) <| fun a4 na4 => ?_
    have kD := Keep.new (W := []) (o := .tup [.ref cp, z2]) na4
    have e2 := td_new (H := H8) (TDs.cons (f1.keep k38).td (.cons hz2.td .nil)) na4
    generalize upd H8 a4 (.tup [.ref cp, z2]) = H9 at *
    have k39 := k38.trans kD
    refine ⟨_, rfl, _, rfl, by show 2 ≤ sizeLine; decide, fun a5 na5 => ?_⟩
    have kE := Keep.new (W := []) (o := .tup [.ref cq, .ref cp]) na5
    have e3 := td_new (H := H9) (TDs.cons (f2.keep k39).td (.cons (f1.keep k39).td .nil)) na5
    generalize upd H9 a5 (.tup [.ref cq, .ref cp]) = HA at *
    have k3A := k39.trans kE
    refine And.intro (by show 3 ≤ sizeLine; decide) <| fun a6 na6 => ?_
    have kG := Keep.new (W := []) (o := .tup [.ref a2, .ref a4, .ref a5]) na6
    have h6 : upd HA a6 (.tup [.ref a2, .ref a4, .ref a5]) a6 = some (.tup [.ref a2, .ref a4, .ref a5]) := upd_same
    have hcells : TDs (upd HA a6 (.tup [.ref a2, .ref a4, .ref a5])) [.ref a2, .ref a4, .ref a5] ([(plR c.1 (1, 10000000000000000000000000), c.2), (c.1, plR c.2 (-1, 10000000000000000000000000)), (c.2, c.1)].map dCel) :=
      (TDs.cons (e1.tk (((kC.trans k8).trans kD).trans kE).tk).td (.cons (e2.tk kE.tk).td (.cons e3.td .nil))).tk kG.tk
    have k3B := k3A.trans kG
    generalize upd HA a6 (.tup [.ref a2, .ref a4, .ref a5]) = HB at *
    have hcs : ∀ c' ∈ ([(plR c.1 (1, 10000000000000000000000000), c.2), (c.1, plR c.2 (-1, 10000000000000000000000000)), (c.2, c.1)] : List Cel), CelOk2 c' := by
      have b1 : FrB 300 200 (plR c.1 (1, 10000000000000000000000000)) := (hcok.1.1.pl q1 (m := 184) (by decide) (by decide)).mono (by decide) (by decide)
      have b2 : FrB 300 200 (plR c.2 (-1, 10000000000000000000000000)) := (hcok.1.2.pl q2 (m := 184) (by decide) (by decide)).mono (by decide) (by decide)
      have c2 := hcok.two
      intro c' hc'
      simp only [List.mem_cons, List.not_mem_nil, or_false] at hc'
      rcases hc' with rfl | rfl | rfl
      · exact ⟨⟨b1, c2.1.2⟩, ⟨hcok.2.1.pl g1, c2.2.2⟩⟩
      · exact ⟨⟨c2.1.1, b2⟩, ⟨c2.2.1, hcok.2.2.pl g2⟩⟩
      · exact ⟨⟨c2.1.2, c2.1.1⟩, ⟨c2.2.2, c2.2.1⟩⟩
    generalize [(plR c.1 (1, 10000000000000000000000000), c.2), (c.1, plR c.2 (-1, 10000000000000000000000000)), (c.2, c.1)] = cells at *
    have hcell := hcells.length
    rw [List.length_map] at hcell
    have K3 : Keep [p] H H3 := k12.trans (kF.mono (by simp))
    have P3 := P2.keep0 kF
    refine ⟨a6, rfl, ⟨_, SqT.of h6⟩, for_tup (K := K) (a := a6) (xs := [.ref a2, .ref a4, .ref a5]) (fun n σ H' => ∃ (us : List V) (tbs : List Tab) (o7 : Option V), σ = [some (.ref p), some (.ref t), some (.int (i : Int)), some (.int (j : Int)), some (.ref cp), some (.ref cq), some (.ref F), o7, none] ∧ H' F = some (.lst us) ∧ TDs H' us (tbs.map dTb) ∧ (∀ b ∈ tbs, LikeT b) ∧ tbs.length = n ∧ TK HB H' ∧ Pool H' p q is ∧ Keep [p] H H')
      ⟨[], [], none, rfl, k3B _ _ hF (by simp), .nil, (fun _ h => nomatch h), rfl, TK.refl _, P3.keep0 k3B, K3.trans (k3B.mono (by simp))⟩ (fun n σ H' _ ⟨_, _, _, _, _, _, _, _, tk, _⟩ => SqT.of (tk _ _ h6)) ?_ ?_⟩
    · rintro n x σ H' hx ⟨us', tbs, o7, rfl, hFF, hF2, hlk, hln, tkB, P', k'⟩
      have hnl := (List.getElem?_eq_some_iff.mp hx).1
      obtain ⟨c', hcn⟩ : ∃ c', cells[n]? = some c' := ⟨_, List.getElem?_eq_getElem (by rw [← hcell]; exact hnl)⟩
      obtain ⟨x', hx', hxd⟩ := (hcells.tk tkB).get (i := n) (d := dCel c') (by rw [List.getElem?_map, hcn]; rfl)
      rw [hx] at hx'
      cases hx'
      have tkH : TK H H' := tk2.trans ((kF.trans k3B).tk.trans tkB)
      have htH := tkH _ _ ht
      have hTH := hT.tk tkH
      obtain ⟨vi', hvi', hdi'⟩ := (hus.tk tkH).get (i := i) (d := dRw r) (by rw [List.getElem?_map, hri]; rfl)
      have hrow : DT H' vi' (r.map dCel) := DT.of hdi'
      obtain ⟨ri, csi', eri, hri2, hcsi⟩ := td_rw hdi'
      subst eri
      have hul' := hF2.length
      rw [List.length_map] at hul'
      refine ⟨_, rfl, .inl ⟨rfl, _, SqL.of hFF⟩, _, rfl, _, rfl, _, rfl, toD hTH (k := i) rfl fun s1 Ha hs1 ka => ?_⟩
      refine ⟨_, rfl, _, rfl, _, _, _, _, rfl, rfl, SqT.of (ka.tk _ _ htH), atI_nat hvi', _, rfl, _, rfl, toD (hrow.tk ka.tk) (k := j) rfl fun s2 Hb hs2 kb => ?_⟩
      refine ⟨_, rfl, by show 1 ≤ sizeLine; decide, fun b1 nb1 => ?_⟩
      have kc := Keep.new (W := []) (o := .tup [x]) nb1
      have kab := ka.trans kb
      have u1 := td_new (H := Hb) (TDs.cons (hxd.tk kab.tk) .nil) nb1
      generalize upd Hb b1 (.tup [x]) = Hc at *
      have hil := (List.getElem?_eq_some_iff.mp hri).1
      refine catD (hs2.tk kc.tk) u1 (by simp; omega) fun s3 Hd hs3 kd => ?_
      have kad := (kab.trans kc).trans kd
      refine ⟨_, rfl, _, rfl, _, _, _, _, rfl, rfl, SqT.of (kad.tk _ _ htH), atI_nat hvi', _, rfl, _, _, rfl, rfl, _, rfl, fromND (hrow.tk kad.tk) (k := j + 1) (by push_cast; rfl) fun s4 He hs4 ke => ?_⟩
      refine catD (hs3.tk ke.tk) hs4 (by simp; omega) fun s5 Hf hs5 kf => ?_
      refine And.intro (by show 1 ≤ sizeLine; decide) <| fun b2 nb2 => ?_
      have kg := Keep.new (W := []) (o := .tup [s5]) nb2
      have kaf := (kad.trans ke).trans kf
      have u2 := td_new (H := Hf) (TDs.cons hs5.td .nil) nb2
      generalize upd Hf b2 (.tup [s5]) = Hg at *
      have kag := kaf.trans kg
      refine catD (hs1.tk ((((kb.trans kc).trans kd).trans ke).trans (kf.trans kg)).tk) u2 (by simp; omega) fun s6 Hh hs6 kh => ?_
      have kah := kag.trans kh
      refine ⟨_, rfl, _, rfl, _, _, rfl, rfl, _, rfl, fromND (hTH.tk kah.tk) (k := i + 1) (by push_cast; rfl) fun s7 Hi hs7 ki => ?_⟩
      refine catD (hs6.tk ki.tk) hs7 (by simp; omega) fun s8 Hj hs8 kj => ?_
      have kaj := (kah.trans ki).trans kj
      have hFj := kaj _ _ hFF (by simp)
      refine ⟨F, _, _, rfl, rfl, hFj, smallL (by simp at hnl; omega), ?_⟩
      have tl := TK.lst (o := .lst (us' ++ [s8])) hFj
      refine ⟨us' ++ [s8], tbs ++ [putC tb i j r c'], _, rfl, upd_same, ?_, fun b' hb' => ?_, by rw [List.length_append, hln]; rfl, (tkB.trans kaj.tk).trans tl, (P'.keep0 kaj).own Fp Fq, (k'.trans (kaj.mono (by simp))).then_own nFH⟩
      · rw [List.map_append]
        refine ((hF2.tk kaj.tk).tk tl).append (.cons ?_ .nil)
        show TD _ s8 (dTb _)
        rw [putC_td]
        exact (hs8.tk tl).td
      · rcases List.mem_append.mp hb' with hb' | hb'
        · exact hlk b' hb'
        · rw [List.mem_singleton.mp hb']
          exact put_like hlike hri hjl (hcs c' (List.mem_of_getElem? hcn))
    · rintro σ H' ⟨us', tbs, o7, rfl, hFF, hF2, hlk, hln, tkB, P', k'⟩
      have tkH : TK H H' := tk2.trans ((kF.trans k3B).tk.trans tkB)
      have htH := tkH _ _ ht
      have hTH := hT.tk tkH
      have husH := hus.tk tkH
      have hul' := hF2.length
      rw [List.length_map] at hul'
      refine ⟨_, rfl, _, rfl, t, us, rfl, SqT.of htH, fun b1 nb1 => ?_⟩
      have ka := Keep.new (W := []) (o := .tup us.reverse) nb1
      have u1 : DT (upd H' b1 (.tup us.reverse)) (.ref b1) (tb.reverse.map dRw) := by
        rw [List.map_reverse]
        exact td_new husH.reverse nb1
      generalize upd H' b1 (.tup us.reverse) = Ha at *
      refine ⟨_, rfl, t, rfl, ⟨_, SqT.of (ka.tk _ _ htH)⟩, fun D1 nD => ?_⟩
      refine lc_tup (K := K) (a := t) (xs := us) (fun m H'' => ∃ ws, H'' D1 = some (.lst ws) ∧ TDs H'' ws (((tb.map List.reverse).take m).map dRw) ∧ Keep [] Ha H'') ⟨[], upd_same, by rw [List.take_zero]; exact .nil, Keep.new nD⟩ (fun m H'' _ ⟨_, _, _, kk⟩ => SqT.of ((ka.trans kk).tk _ _ htH)) ?_ ?_
      · rintro m x Hb hx ⟨ws, hD, hws, kb⟩
        have hml := (List.getElem?_eq_some_iff.mp hx).1
        obtain ⟨r', hr'⟩ : ∃ r', tb[m]? = some r' := ⟨_, List.getElem?_eq_getElem (by omega)⟩
        obtain ⟨x', hx', hxd⟩ := (husH.tk (ka.trans kb).tk).get (i := m) (d := dRw r') (by rw [List.getElem?_map, hr']; rfl)
        rw [hx] at hx'
        cases hx'
        obtain ⟨xt, xs, rfl, hxt, hxs⟩ := td_rw hxd
        have hwl := hws.length
        rw [List.length_map, List.length_take, List.length_map] at hwl
        refine ⟨rfl, yes_then ⟨_, rfl, xt, xs, rfl, SqT.of hxt, fun b2 nb2 => ?_⟩⟩
        have kc := Keep.new (W := []) (o := .tup xs.reverse) nb2
        have u2 : DT (upd Hb b2 (.tup xs.reverse)) (.ref b2) (r'.reverse.map dCel) := by
          rw [List.map_reverse]
          exact td_new hxs.reverse nb2
        generalize upd Hb b2 (.tup xs.reverse) = Hc at *
        have hDc := kc _ _ hD (by simp)
        have tl := TK.lst (o := .lst (ws ++ [.ref b2])) hDc
        refine ⟨ws, hDc, smallL (by omega), ws ++ [.ref b2], upd_same, ?_, (kb.trans kc).then_own nD⟩
        rw [snoc_take (show (tb.map List.reverse)[m]? = some r'.reverse by rw [List.getElem?_map, hr']; rfl), List.map_append]
        exact ((hws.tk kc.tk).tk tl).append (.cons (u2.tk tl).td .nil)
      · rintro Hb ⟨ws, hD, hws, kb⟩
        rw [show us.length = (tb.map List.reverse).length by rw [List.length_map]; exact hul, List.take_length] at hws
        refine ⟨D1, ws, rfl, .inl ⟨SqL.of hD, fun b2 nb2 => ?_⟩⟩
        have kc := Keep.new (W := []) (o := .tup ws) nb2
        have u2 := td_new hws nb2
        generalize upd Hb b2 (.tup ws) = Hc at *
        have kac := (ka.trans kb).trans kc
        refine ⟨_, rfl, t, us, tb, rfl, kac.tk _ _ htH, husH.tk kac.tk, hok, fun b3 vs3 Hd nb3 hb3 hvs3 kd => ?_⟩
        have kad := kac.trans kd
        refine And.intro (by show 3 ≤ sizeLine; decide) <| fun l2 nl2 => ?_
        have ke := Keep.new (W := []) (o := .lst [.ref b1, .ref b2, .ref b3]) nl2
        have hl2 : upd Hd l2 (.lst [.ref b1, .ref b2, .ref b3]) l2 = some (.lst [.ref b1, .ref b2, .ref b3]) := upd_same
        have three : TDs (upd Hd l2 (.lst [.ref b1, .ref b2, .ref b3])) [.ref b1, .ref b2, .ref b3] ([tb.reverse, tb.map List.reverse, turnT tb].map dTb) :=
          (TDs.cons ((u1.tk ((kb.trans kc).trans kd).tk).td) (.cons ((u2.tk kd.tk).td) (.cons (.tup hb3 hvs3) .nil))).tk ke.tk
        generalize upd Hd l2 (.lst [.ref b1, .ref b2, .ref b3]) = He at *
        have kae := kad.trans ke
        have hFe := kae _ _ hFF (by simp)
        refine ⟨F, l2, us', _, rfl, rfl, hFe, hl2, smallM (by simp at *; omega), fun F2 nF2 => ?_⟩
        have Pe := P'.keep0 kae
        have Ke : Keep [p] H He := k'.trans (kae.mono (by simp))
        have nF2H := Pe.free Ke nF2
        have F2p := Pe.nep nF2
        have F2q := Pe.neq nF2
        have kf := Keep.new (W := []) (o := .lst (us' ++ [.ref b1, .ref b2, .ref b3])) nF2
        have hF3 : upd He F2 (.lst (us' ++ [.ref b1, .ref b2, .ref b3])) F2 = some (.lst (us' ++ [.ref b1, .ref b2, .ref b3])) := upd_same
        have all6 := ((hF2.tk kae.tk).append three).tk kf.tk
        rw [← List.map_append] at all6
        have Pf := Pe.keep0 kf
        have Kf : Keep [p] H _ := Ke.trans (kf.mono (by simp))
        have tkf := tkH.trans (kae.trans kf).tk
        generalize upd He F2 (.lst (us' ++ [.ref b1, .ref b2, .ref b3])) = Hf at *
        have hlk6 : ∀ b ∈ tbs ++ [tb.reverse, tb.map List.reverse, turnT tb], LikeT b := fun b hb => by
          simp only [List.mem_append, List.mem_cons, List.not_mem_nil, or_false] at hb
          rcases hb with hb | rfl | rfl | rfl
          · exact hlk b hb
          · exact rev_like hlike
          · exact revs_like hlike
          · exact turn_like hlike
        have hl6 : (tbs ++ [tb.reverse, tb.map List.reverse, turnT tb]).length = 6 := by rw [List.length_append, hln]; rfl
        generalize tbs ++ [tb.reverse, tb.map List.reverse, turnT tb] = tbs6 at *
        have hl6' := all6.length
        rw [List.length_map] at hl6'
        generalize us' ++ [.ref b1, .ref b2, .ref b3] = us6 at *
        refine ⟨fun σ H'' => ∃ (us : List V) (tbs : List Tab), σ = [some (.ref p), some (.ref t), some (.int (i : Int)), some (.int (j : Int)), some (.ref cp), some (.ref cq), some (.ref F2), o7, none] ∧ H'' F2 = some (.lst us) ∧ TDs H'' us (tbs.map dTb) ∧ (∀ b ∈ tbs, LikeT b) ∧ tbs.length ≤ 7 ∧ TK H H'' ∧ Pool H'' p q is ∧ Keep [p] H H'', ?_, ?_⟩
        · refine ⟨_, rfl, t, us, rfl, .inr (SqT.of (tkf _ _ ht)), _, _, rfl, rfl, _, rfl, iteD (fun h8 => ?_) (fun _ => ⟨us6, tbs6, rfl, hF3, all6, hlk6, by omega, tkf, Pf, Kf⟩)⟩
          refine ⟨_, rfl, .inl ⟨rfl, _, SqL.of hF3⟩, _, rfl, _, rfl, _, rfl, toD (hT.tk tkf) (hi := 1) (k := 1) rfl fun s1 Hg hs1 kg => ?_⟩
          refine catD ((hT.tk tkf).tk kg.tk) hs1 (by simp; omega) fun s2 Hh hs2 kh => ?_
          have kgh := kg.trans kh
          have hFh := kgh _ _ hF3 (by simp)
          refine ⟨F2, _, _, rfl, rfl, hFh, smallL (by omega), ?_⟩
          have tl := TK.lst (o := .lst (us6 ++ [s2])) hFh
          refine ⟨us6 ++ [s2], tbs6 ++ [tb ++ tb.take 1], rfl, upd_same, ?_, fun b hb => ?_, by rw [List.length_append]; simp; omega, (tkf.trans kgh.tk).trans tl, (Pf.keep0 kgh).own F2p F2q, (Kf.trans (kgh.mono (by simp))).then_own nF2H⟩
          · rw [List.map_append]
            refine ((all6.tk kgh.tk).tk tl).append (.cons ?_ .nil)
            have := (hs2.tk tl).td
            unfold dTb
            rw [List.map_append, List.map_take]
            exact this
          · rcases List.mem_append.mp hb with hb | hb
            · exact hlk6 b hb
            · rw [List.mem_singleton.mp hb]; exact more_like hlike (by omega)
        · rintro σ Hg ⟨us7, tbs7, rfl, hF7, all7, hlk7, hl7, tkg, Pg, Kg⟩
          have hl7' := all7.length
          rw [List.length_map] at hl7'
          have hv0g : us[0]? = some (.ref t0) := hv0
          have hd0g : TD Hg (.ref t0) (dRw r0) := by
            obtain ⟨v', hv', hd'⟩ := (hus.tk tkg).get (i := 0) (d := dRw r0) (by rw [List.getElem?_map, hr0]; rfl)
            rw [hv0g] at hv'
            cases hv'
            exact hd'
          obtain ⟨t0', cs0', e0, ht0', hc0'⟩ := td_rw hd0g
          obtain rfl : t0 = t0' := V.ref.inj e0
          have hcl0' := hc0'.length
          rw [List.length_map, o5 r0 (List.mem_of_getElem? hr0)] at hcl0'
          refine ⟨fun σ H'' => ∃ (us : List V) (tbs : List Tab), σ = [some (.ref p), some (.ref t), some (.int (i : Int)), some (.int (j : Int)), some (.ref cp), some (.ref cq), some (.ref F2), o7, none] ∧ H'' F2 = some (.lst us) ∧ TDs H'' us (tbs.map dTb) ∧ (∀ b ∈ tbs, LikeT b) ∧ tbs.length ≤ 8 ∧ Pool H'' p q is ∧ Keep [p] H H'', ?_, ?_⟩
          · refine ⟨_, rfl, _, _, _, _, rfl, rfl, SqT.of (tkg _ _ ht), atI_nat (j := 0) hv0g, t0, cs0', rfl, .inr (SqT.of ht0'), _, _, rfl, rfl, _, rfl, iteD (fun h8 => ?_) (fun _ => ⟨us7, tbs7, rfl, hF7, all7, hlk7, by omega, Pg, Kg⟩)⟩
            refine ⟨_, rfl, .inl ⟨rfl, _, SqL.of hF7⟩, _, rfl, t, rfl, ⟨_, SqT.of (tkg _ _ ht)⟩, fun D2 nD2 => ?_⟩
            refine lc_tup (K := K) (a := t) (xs := us) (fun m H'' => ∃ ws, H'' D2 = some (.lst ws) ∧ TDs H'' ws (((tb.map fun r => r ++ r.take 1).take m).map dRw) ∧ Keep [] Hg H'') ⟨[], upd_same, by rw [List.take_zero]; exact .nil, Keep.new nD2⟩ (fun m H'' _ ⟨_, _, _, kk⟩ => SqT.of (kk.tk _ _ (tkg _ _ ht))) ?_ ?_
            · rintro m x Hh hx ⟨ws, hD, hws, kh⟩
              have hml := (List.getElem?_eq_some_iff.mp hx).1
              obtain ⟨r', hr'⟩ : ∃ r', tb[m]? = some r' := ⟨_, List.getElem?_eq_getElem (by omega)⟩
              obtain ⟨x', hx', hxd⟩ := (hus.tk (tkg.trans kh.tk)).get (i := m) (d := dRw r') (by rw [List.getElem?_map, hr']; rfl)
              rw [hx] at hx'
              cases hx'
              have hrow : DT Hh x (r'.map dCel) := DT.of hxd
              have hrl' := o5 r' (List.mem_of_getElem? hr')
              have hwl := hws.length
              rw [List.length_map, List.length_take, List.length_map] at hwl
              refine ⟨rfl, yes_then ⟨_, rfl, _, rfl, _, rfl, toD hrow (hi := 1) (k := 1) rfl fun s1 Hi hs1 ki => ?_⟩⟩
              refine catD (hrow.tk ki.tk) hs1 (by simp; omega) fun s2 Hj hs2 kj => ?_
              have kij := ki.trans kj
              have hDj := kij _ _ hD (by simp)
              have tl := TK.lst (o := .lst (ws ++ [s2])) hDj
              refine ⟨ws, hDj, smallL (by omega), ws ++ [s2], upd_same, ?_, (kh.trans kij).then_own nD2⟩
              rw [snoc_take (show (tb.map fun r => r ++ r.take 1)[m]? = some (r' ++ r'.take 1) by rw [List.getElem?_map, hr']; rfl), List.map_append]
              refine ((hws.tk kij.tk).tk tl).append (.cons ?_ .nil)
              have := (hs2.tk tl).td
              unfold dRw
              rw [List.map_append, List.map_take]
              exact this
            · rintro Hh ⟨ws, hD, hws, kh⟩
              rw [show us.length = (tb.map fun r => r ++ r.take 1).length by rw [List.length_map]; exact hul, List.take_length] at hws
              refine ⟨D2, ws, rfl, .inl ⟨SqL.of hD, fun b4 nb4 => ?_⟩⟩
              have ki := Keep.new (W := []) (o := .tup ws) nb4
              have u4 := td_new hws nb4
              generalize upd Hh b4 (.tup ws) = Hi at *
              have khi := kh.trans ki
              have hFi := khi _ _ hF7 (by simp)
              have tl := TK.lst (o := .lst (us7 ++ [.ref b4])) hFi
              refine ⟨F2, _, _, rfl, rfl, hFi, smallL (by omega), us7 ++ [.ref b4], tbs7 ++ [tb.map fun r => r ++ r.take 1], rfl, upd_same, ?_, fun b hb => ?_, by rw [List.length_append]; simp; omega, (Pg.keep0 khi).own F2p F2q, (Kg.trans (khi.mono (by simp))).then_own nF2H⟩
              · rw [List.map_append]
                exact ((all7.tk khi.tk).tk tl).append (.cons (u4.tk tl).td .nil)
              · rcases List.mem_append.mp hb with hb | hb
                · exact hlk7 b hb
                · rw [List.mem_singleton.mp hb]; exact wide_like hlike (by omega)
          · rintro σ Hh ⟨us8, tbs8, rfl, hF8, all8, hlk8, hl8, Ph, Kh⟩
            exact ⟨_, rfl, k F2 us8 tbs8 Hh nF2H hF8 all8 hlk8 (by omega) Ph Kh⟩
end

/-! plain law: sums of fractions, in whatever order -/
def val (r : Fr) : Rat := Rat.divInt r.1 r.2
theorem val_red {n d : Int} (h : d ≠ 0) : Rat.divInt (redN n d) (redD n d) = Rat.divInt n d := by
  have hr : redD n d ≠ 0 := by have := redD_pos (n := n) h; omega
  exact (Rat.divInt_eq_divInt_iff hr h).mpr (red_cross h)
theorem val_mul {a b : Fr} (ha : 0 < a.2) (hb : 0 < b.2) : val (tmR a b) = val a * val b := by
  unfold val tmR
  rw [val_red (Int.mul_ne_zero (by omega) (by omega)), Rat.divInt_mul_divInt]
theorem val_add {a b : Fr} (ha : 0 < a.2) (hb : 0 < b.2) : val (addR a b) = val a + val b := by
  unfold val addR
  rw [val_red (Int.mul_ne_zero (by omega) (by omega)), Rat.divInt_add_divInt _ _ (by omega) (by omega)]
theorem val_zero {a : Fr} (h : a.1 = 0) : val a = 0 := by
  unfold val
  rw [h, Rat.zero_divInt]
theorem val_pl {a b : Fr} (ha : 0 < a.2) (hb : 0 < b.2) : val (plR a b) = val a + val b := by
  unfold plR
  split
  · rename_i h
    rw [val_zero h, Rat.zero_add]
  · split
    · rename_i h
      rw [val_zero h, Rat.add_zero]
    · exact val_add ha hb
theorem red_eq {a b : Fr} (ha : RedOk a) (hb : RedOk b) (h : val a = val b) : a = b := by
  have h1 := ha.1
  have h2 := hb.1
  have e : a.1 * b.2 = b.1 * a.2 := (Rat.divInt_eq_divInt_iff (by omega) (by omega)).mp h
  have e' : a.1.natAbs * b.2.natAbs = b.1.natAbs * a.2.natAbs := by rw [← Int.natAbs_mul, ← Int.natAbs_mul, e]
  have ga := ha.gcd
  have gb := hb.gcd
  have d1 : a.2.natAbs ∣ b.2.natAbs := by
    have : a.2.natAbs ∣ a.1.natAbs * b.2.natAbs := ⟨b.1.natAbs, by rw [e', Nat.mul_comm]⟩
    exact Nat.Coprime.dvd_of_dvd_mul_left (by rw [Nat.coprime_comm]; exact ga) this
  have d2 : b.2.natAbs ∣ a.2.natAbs := by
    have : b.2.natAbs ∣ b.1.natAbs * a.2.natAbs := ⟨a.1.natAbs, by rw [← e', Nat.mul_comm]⟩
    exact Nat.Coprime.dvd_of_dvd_mul_left (by rw [Nat.coprime_comm]; exact gb) this
  have e2 : a.2 = b.2 := by
    have := Nat.dvd_antisymm d1 d2
    omega
  have e1 : a.1 = b.1 := by
    rw [e2] at e
    exact Int.eq_of_mul_eq_mul_right (by omega) e
  exact Prod.ext e1 e2
def dv (xs ys : List Rat) : Rat := (List.zipWith (· * ·) xs ys).sum
theorem dv_nil (ys : List Rat) : dv [] ys = 0 := by simp [dv]
theorem dv_nil2 (xs : List Rat) : dv xs [] = 0 := by cases xs <;> simp [dv]
theorem dv_cons (x y : Rat) (xs ys : List Rat) : dv (x :: xs) (y :: ys) = x * y + dv xs ys := by simp [dv]
def Pos (xs : List Fr) : Prop := ∀ r ∈ xs, 0 < r.2
theorem Pos.of {a b : Nat} {xs : List Fr} (h : ∀ r ∈ xs, FrB a b r) : Pos xs := fun r hr => (h r hr).1
theorem prod_pos {xs ys : List Fr} (hx : Pos xs) (hy : Pos ys) : Pos (prodR xs ys) ∧ ∀ r ∈ prodR xs ys, RedOk r := by
  have all : ∀ r ∈ prodR xs ys, RedOk r := fun r hr => by
    obtain ⟨i, hi⟩ := List.getElem?_of_mem hr
    unfold prodR at hi
    rw [List.getElem?_zipWith] at hi
    cases e1 : xs[i]? with
    | none => rw [e1] at hi; cases hi
    | some x =>
      cases e2 : ys[i]? with
      | none => rw [e1, e2] at hi; cases hi
      | some y =>
        rw [e1, e2] at hi
        cases hi
        exact red_idem (Int.mul_pos (hx x (List.mem_of_getElem? e1)) (hy y (List.mem_of_getElem? e2)))
  exact ⟨fun r hr => (all r hr).1, all⟩
theorem val_prod : ∀ {xs ys : List Fr}, Pos xs → Pos ys → (prodR xs ys).map val = List.zipWith (· * ·) (xs.map val) (ys.map val)
  | [], _, _, _ => by simp [prodR]
  | _ :: _, [], _, _ => by simp [prodR]
  | x :: xs, y :: ys, hx, hy => by
    have ih := val_prod (xs := xs) (ys := ys) (fun r hr => hx r (List.mem_cons_of_mem _ hr)) fun r hr => hy r (List.mem_cons_of_mem _ hr)
    have e : prodR (x :: xs) (y :: ys) = tmR x y :: prodR xs ys := rfl
    rw [e, List.map_cons, List.map_cons, List.map_cons, List.zipWith_cons_cons, ih, val_mul (hx x (List.mem_cons_self ..)) (hy y (List.mem_cons_self ..))]
theorem sumR_val (rs : List Fr) : Pos rs → RedOk (sumR rs) ∧ val (sumR rs) = (rs.map val).sum := by
  refine rev_ind (p := fun rs => Pos rs → RedOk (sumR rs) ∧ val (sumR rs) = (rs.map val).sum) ?_ ?_ rs
  · intro _; exact ⟨red_one 0, val_zero rfl⟩
  · intro l r ih h
    obtain ⟨i1, i2⟩ := ih fun z hz => h z (List.mem_append_left _ hz)
    have hr := h r (List.mem_append_right _ (List.mem_singleton.mpr rfl))
    rw [sumR_snoc]
    refine ⟨red_idem (Int.mul_pos i1.1 hr), ?_⟩
    rw [val_add i1.1 hr, i2, List.map_append, List.sum_append]
    simp [Rat.add_zero]
theorem foldP_val (rs : List Fr) : (∀ r ∈ rs, RedOk r) → RedOk (rs.foldl plR (0, 1)) ∧ val (rs.foldl plR (0, 1)) = (rs.map val).sum := by
  refine rev_ind (p := fun rs => (∀ r ∈ rs, RedOk r) → RedOk (rs.foldl plR (0, 1)) ∧ val (rs.foldl plR (0, 1)) = (rs.map val).sum) ?_ ?_ rs
  · intro _; exact ⟨red_one 0, val_zero rfl⟩
  · intro l r ih h
    obtain ⟨i1, i2⟩ := ih fun z hz => h z (List.mem_append_left _ hz)
    have hr := h r (List.mem_append_right _ (List.mem_singleton.mpr rfl))
    rw [foldP_snoc]
    refine ⟨i1.pl hr, ?_⟩
    rw [val_pl i1.1 hr.1, i2, List.map_append, List.sum_append]
    simp [Rat.add_zero]
theorem dotR_val {xs ys : List Fr} (hx : Pos xs) (hy : Pos ys) : RedOk (dotR xs ys) ∧ val (dotR xs ys) = dv (xs.map val) (ys.map val) := by
  obtain ⟨h1, h2⟩ := sumR_val _ (prod_pos hx hy).1
  exact ⟨h1, by unfold dotR; rw [h2, val_prod hx hy]; rfl⟩
theorem dotP_val {xs ys : List Fr} (hx : Pos xs) (hy : Pos ys) : RedOk (dotP xs ys) ∧ val (dotP xs ys) = dv (xs.map val) (ys.map val) := by
  obtain ⟨h1, h2⟩ := foldP_val _ (prod_pos hx hy).2
  exact ⟨h1, by unfold dotP; rw [h2, val_prod hx hy]; rfl⟩
theorem map_dotR {m : List Fr} (hm : Pos m) {rows : List (List Fr)} (hr : ∀ r ∈ rows, Pos r) : Pos (rows.map fun r => dotR m r) ∧ (rows.map fun r => dotR m r).map val = rows.map fun r => dv (m.map val) (r.map val) := by
  refine ⟨fun x hx => ?_, ?_⟩
  · obtain ⟨r, h, rfl⟩ := List.mem_map.mp hx
    exact (dotR_val hm (hr r h)).1.1
  · rw [List.map_map]
    exact List.map_congr_left fun r h => (dotR_val hm (hr r h)).2
theorem map_dotP {m : List Fr} (hm : Pos m) {rows : List (List Fr)} (hr : ∀ r ∈ rows, Pos r) : Pos (rows.map fun r => dotP m r) ∧ (rows.map fun r => dotP m r).map val = rows.map fun r => dv (m.map val) (r.map val) := by
  refine ⟨fun x hx => ?_, ?_⟩
  · obtain ⟨r, h, rfl⟩ := List.mem_map.mp hx
    exact (dotP_val hm (hr r h)).1.1
  · rw [List.map_map]
    exact List.map_congr_left fun r h => (dotP_val hm (hr r h)).2
theorem own_pos {tb : Tab} (h : TbB tb) : ∀ r ∈ ownT tb, Pos r := fun r hr => Pos.of (h.own r hr)
theorem gn_val {tb : Tab} (h : TbB tb) {m1 m2 : List Fr} (h1 : Pos m1) (h2 : Pos m2) : RedOk (gnR tb m1 m2) ∧ val (gnR tb m1 m2) = dv (m1.map val) ((ownT tb).map fun r => dv (m2.map val) (r.map val)) := by
  obtain ⟨p, e⟩ := map_dotR h2 (own_pos h)
  obtain ⟨q, e2⟩ := dotR_val h1 p
  exact ⟨q, by unfold gnR agR; rw [e2, e]⟩
def selT (tb : Tab) (pl : Int) : List (List Fr) := tb.map fun r => r.map (selC pl)
theorem due_eq (tb : Tab) (pl : Int) (m1 m2 : List Fr) : dueP tb pl m1 m2 = dotP m1 ((selT tb pl).map fun r => dotP m2 r) := by
  unfold dueP selT
  rw [List.map_map]; rfl
theorem sel_pos {tb : Tab} (h : TbB tb) (pl : Int) : ∀ r ∈ selT tb pl, Pos r := fun r hr x hx => by
  obtain ⟨q, hq, rfl⟩ := List.mem_map.mp hr
  obtain ⟨c, hc, rfl⟩ := List.mem_map.mp hx
  unfold selC
  split
  · exact (h q hq c hc).1.1
  · exact (h q hq c hc).2.1
theorem due_val {tb : Tab} (h : TbB tb) (pl : Int) {m1 m2 : List Fr} (h1 : Pos m1) (h2 : Pos m2) : RedOk (dueP tb pl m1 m2) ∧ val (dueP tb pl m1 m2) = dv (m1.map val) ((selT tb pl).map fun r => dv (m2.map val) (r.map val)) := by
  rw [due_eq]
  obtain ⟨p, e⟩ := map_dotP h2 (sel_pos h pl)
  obtain ⟨q, e2⟩ := dotP_val h1 p
  exact ⟨q, by rw [e2, e]⟩
theorem gain_one {tb : Tab} (h : TbB tb) {m1 m2 : List Fr} (h1 : Pos m1) (h2 : Pos m2) : gnR tb m1 m2 = dueP tb 1 m1 m2 := by
  obtain ⟨a, b⟩ := gn_val h h1 h2
  obtain ⟨c, d⟩ := due_val h 1 h1 h2
  have e : ownT tb = selT tb 1 := by
    unfold ownT selT
    refine List.map_congr_left fun r _ => List.map_congr_left fun c _ => ?_
    unfold selC; rw [if_pos rfl]
  exact red_eq a c (by rw [b, d, e])
theorem dv_zero : ∀ (ys : List Rat) (L : List Nat), dv ys (L.map fun _ => (0 : Rat)) = 0
  | [], _ => dv_nil _
  | _ :: _, [] => dv_nil2 _
  | y :: ys, j :: L => by rw [List.map_cons, dv_cons, dv_zero ys L, Rat.mul_zero, Rat.add_zero]
theorem dv_lin (x : Rat) (f g : Nat → Rat) : ∀ (ys : List Rat) (L : List Nat), dv ys (L.map fun j => x * f j + g j) = x * dv ys (L.map f) + dv ys (L.map g)
  | [], _ => by rw [dv_nil, dv_nil, dv_nil, Rat.mul_zero, Rat.add_zero]
  | _ :: _, [] => by rw [List.map_nil, List.map_nil, List.map_nil, dv_nil2, Rat.mul_zero, Rat.add_zero]
  | y :: ys, j :: L => by
    rw [List.map_cons, List.map_cons, List.map_cons, dv_cons, dv_cons, dv_cons, dv_lin x f g ys L]
    generalize dv ys (L.map f) = S
    generalize dv ys (L.map g) = U
    grind
theorem exch (ys : List Rat) (L : List Nat) : ∀ (M : List (Nat → Rat)) (xs : List Rat), dv ys (L.map fun j => dv xs (M.map fun f => f j)) = dv xs (M.map fun f => dv ys (L.map f))
  | [], xs => by
    rw [List.map_nil, dv_nil2]
    have : (fun j : Nat => dv xs ((([] : List (Nat → Rat))).map fun f => f j)) = fun _ => (0 : Rat) := funext fun j => dv_nil2 _
    rw [this, dv_zero]
  | f :: M, [] => by
    rw [dv_nil]
    have : (fun j : Nat => dv [] ((f :: M).map fun f => f j)) = fun _ => (0 : Rat) := funext fun j => dv_nil _
    rw [this, dv_zero]
  | f :: M, x :: xs => by
    rw [List.map_cons, dv_cons, ← exch ys L M xs, ← dv_lin x f (fun j => dv xs (M.map fun f => f j)) ys L]
    rfl
theorem row_range {r : List Cel} {n : Nat} (h : r.length = n) (g : Cel → Rat) : r.map g = (List.range n).map fun j => g (r.getD j c0) := by
  refine List.ext_getElem? fun i => ?_
  rw [List.getElem?_map, List.getElem?_map]
  by_cases hi : i < n
  · rw [List.getElem?_range hi, List.getElem?_eq_getElem (by omega)]
    simp only [Option.map_some]
    rw [List.getD_eq_getElem?_getD, List.getElem?_eq_getElem (by omega)]; rfl
  · rw [List.getElem?_eq_none (by omega), List.getElem?_eq_none (by simp; omega)]; rfl
theorem gain_two {tb : Tab} (ok : okT tb = true) (h : TbB tb) {m1 m2 : List Fr} (h1 : Pos m1) (h2 : Pos m2) : gnR (turnT tb) m2 m1 = dueP tb 2 m1 m2 := by
  obtain ⟨a, b⟩ := gn_val (h.turn ok) h2 h1
  obtain ⟨c, d⟩ := due_val h 2 h1 h2
  obtain ⟨_, _, _, _, o5⟩ := okT_iff ok
  refine red_eq a c ?_
  rw [b, d]
  have e1 : (selT tb 2).map (fun r => dv (m2.map val) (r.map val)) = (tb.map fun r j => val (r.getD j c0).2).map fun f => dv (m2.map val) ((List.range (tb.headD []).length).map f) := by
    unfold selT
    rw [List.map_map, List.map_map]
    refine List.map_congr_left fun r hr => ?_
    show dv _ ((r.map (selC 2)).map val) = dv _ _
    rw [List.map_map]
    rw [row_range (o5 r hr) (val ∘ selC 2)]
    rfl
  have e2 : (ownT (turnT tb)).map (fun r => dv (m1.map val) (r.map val)) = (List.range (tb.headD []).length).map fun j => dv (m1.map val) ((tb.map fun r j => val (r.getD j c0).2).map fun f => f j) := by
    unfold ownT turnT
    rw [List.map_map, List.map_map]
    refine List.map_congr_left fun j _ => ?_
    show dv _ (((tb.map fun r => swC (r.getD j c0)).map (·.1)).map val) = dv _ _
    rw [List.map_map, List.map_map, List.map_map]
    rfl
  rw [e1, e2]
  exact exch _ _ _ _
/-! a mix of one move alone -/
def unitV (n i : Nat) : List Fr := (List.range n).map fun k => (if k = i then 1 else 0, 1)
theorem dv_unit : ∀ (ys : List Rat) (s i : Nat), dv ((List.range' s ys.length).map fun k => if k = i then (1 : Rat) else 0) ys = if s ≤ i then ys.getD (i - s) 0 else 0
  | [], s, i => by rw [dv_nil2]; simp
  | y :: ys, s, i => by
    rw [List.length_cons, List.range'_succ, List.map_cons, dv_cons, dv_unit ys (s + 1) i]
    by_cases h : s = i
    · subst h
      rw [if_pos rfl, if_neg (by omega), if_pos (Nat.le_refl _), Nat.sub_self, Rat.one_mul, Rat.add_zero]; rfl
    · rw [if_neg h, Rat.zero_mul, Rat.zero_add]
      by_cases h2 : s < i
      · rw [if_pos (by omega), if_pos (by omega)]
        obtain ⟨m, hm⟩ : ∃ m, i - s = m + 1 := ⟨i - s - 1, by omega⟩
        rw [hm, show i - (s + 1) = m by omega]; rfl
      · rw [if_neg (by omega), if_neg (by omega)]
theorem unit_val (n i : Nat) : (unitV n i).map val = (List.range' 0 n).map fun k => if k = i then (1 : Rat) else 0 := by
  unfold unitV
  rw [List.map_map, ← List.range_eq_range']
  refine List.map_congr_left fun k _ => ?_
  show val (if k = i then 1 else 0, 1) = _
  split
  · show Rat.divInt 1 1 = 1; rfl
  · exact val_zero rfl
theorem unit_red (n i : Nat) : ∀ r ∈ unitV n i, RedOk r ∧ FrB 10 10 r := fun r hr => by
  obtain ⟨k, _, rfl⟩ := List.mem_map.mp hr
  split
  · exact ⟨red_one 1, ⟨by decide, by decide, by decide⟩⟩
  · exact ⟨red_one 0, ⟨by decide, by decide, by decide⟩⟩
theorem rg_val {tb : Tab} (h : TbB tb) {m : List Fr} (hm : Pos m) : Pos (rgP tb m) ∧ (rgP tb m).map val = (ownT tb).map fun r => dv (m.map val) (r.map val) := by
  have e : rgP tb m = (ownT tb).map fun r => dotP m r := by unfold rgP ownT; rw [List.map_map]; rfl
  rw [e]
  exact map_dotP hm (own_pos h)
theorem pure_row {tb : Tab} (h : TbB tb) {m : List Fr} (hm : Pos m) {i : Nat} {x : Fr} (hx : (rgP tb m)[i]? = some x) : gnR tb (unitV tb.length i) m = dotP [x] [(1, 1)] := by
  obtain ⟨a, b⟩ := gn_val h (Pos.of fun r hr => (unit_red tb.length i r hr).2) hm
  obtain ⟨c, d⟩ := rg_val h hm
  have hxp := c x (List.mem_of_getElem? hx)
  obtain ⟨e, f⟩ := dotP_val (xs := [x]) (ys := [(1, 1)]) (fun r hr => by rw [List.mem_singleton.mp hr]; exact hxp) (fun r hr => by rw [List.mem_singleton.mp hr]; decide)
  refine red_eq a e ?_
  rw [b, f, ← d, unit_val]
  have hl : ((rgP tb m).map val).length = tb.length := by unfold rgP; rw [List.length_map, List.length_map]
  rw [← hl, dv_unit, if_pos (Nat.zero_le _), Nat.sub_zero, List.getD_eq_getElem?_getD, List.getElem?_map, hx]
  show val x = dv [val x] [val (1, 1)]
  have e1 : val (1, 1) = 1 := rfl
  rw [dv_cons, dv_nil, e1, Rat.mul_one, Rat.add_zero]

/-! the common form -/
abbrev Rt := Int × Int
def lcmD (d : Nat) (r : Rt) : Nat := Nat.lcm d r.2.natAbs
def comD (rs : List Rt) : Nat := rs.foldl lcmD 1
def comN (rs : List Rt) : List Int := rs.map fun r => r.1 * ((comD rs : Nat) : Int).fdiv r.2
theorem comD_snoc (l : List Rt) (r : Rt) : comD (l ++ [r]) = lcmD (comD l) r := by unfold comD; rw [List.foldl_append]; rfl
theorem foldl_dvd_start : ∀ (l : List Rt) (d : Nat), d ∣ l.foldl lcmD d
  | [], d => Nat.dvd_refl d
  | r :: l, d => Nat.dvd_trans (Nat.dvd_lcm_left d r.2.natAbs) (foldl_dvd_start l (lcmD d r))
theorem foldl_dvd_mem : ∀ (l : List Rt) (d : Nat) {r : Rt}, r ∈ l → r.2.natAbs ∣ l.foldl lcmD d
  | r' :: l, d, r, h => by
    rcases List.mem_cons.mp h with e | e
    · subst e
      exact Nat.dvd_trans (Nat.dvd_lcm_right d r.2.natAbs) (foldl_dvd_start l (lcmD d r))
    · exact foldl_dvd_mem l (lcmD d r') e
theorem foldl_dvd_of : ∀ (l : List Rt) (d m : Nat), d ∣ m → (∀ r ∈ l, r.2.natAbs ∣ m) → l.foldl lcmD d ∣ m
  | [], d, m, h, _ => h
  | r :: l, d, m, h, hl => foldl_dvd_of l (lcmD d r) m (Nat.lcm_dvd h (hl r (List.mem_cons_self ..))) fun z hz => hl z (List.mem_cons_of_mem _ hz)
theorem comD_mem {rs : List Rt} {r : Rt} (h : r ∈ rs) : r.2.natAbs ∣ comD rs := foldl_dvd_mem rs 1 h
theorem comD_of {rs : List Rt} {m : Nat} (h : ∀ r ∈ rs, r.2.natAbs ∣ m) : comD rs ∣ m := foldl_dvd_of rs 1 m (Nat.one_dvd m) h
def sp_common (K : PySem.W.Frag) (C : Addr) : Sp := fun vs H Q _ => ∃ (a : Addr) (ps : List Addr) (rs : List Rt) (B : Nat), vs = [.ref a] ∧ SqL K H a (ps.map V.ref) ∧ ps.length = rs.length ∧ (∀ (i : Nat) p r, ps[i]? = some p → rs[i]? = some r → RatAt C H p r.1 r.2) ∧
  (∀ r ∈ rs, 0 < r.2 ∧ r.2.natAbs ∣ B ∧ r.1.natAbs < 2 ^ 300) ∧ 0 < B ∧ B < 2 ^ 1800 ∧ rs.length ≤ 1000 ∧
  ∀ l t H', H l = none → Keep [] H H' → H' l = some (.lst ((comN rs).map V.int)) → H' t = some (.tup [.ref l, .int (comD rs : Nat)]) → Q (.ref t) H'
section
variable {P : Program} {w : World} {K : PySem.W.Frag} {mg : Str → Option Value} {base : Heap} {C_Ratio : Addr} {C_Gains : Addr} {C_GameError : Addr} {C_BadEdit : Addr} {C_BadPlan : Addr} {C_BadRatio : Addr} {C_BadText : Addr} {C_TooLarge : Addr} {C_BadGains : Addr} {f_BadGains___init : Addr}
theorem ok_common {f : Addr} {fd : FuncData} (D : C8.Def K mg "common" s_common f fd) (b : Binds K fd ["ratios"] []) (T : Txt K mg C_Ratio C_Gains C_GameError C_BadEdit C_BadPlan C_BadRatio C_BadText C_TooLarge C_BadGains) : C8.Cal P w K mg base 1 "common" (sp_common K C_Ratio) [] := by
  refine cal0 D b .nil sc_common (fun vs H Q E h => ?_) (fun cdv A outer s H vs Q E hr h => ?_)
  · obtain ⟨a, ps, rs, B, rfl, _⟩ := h
    rfl
  · obtain ⟨a, ps, rs, B, rfl, hS, hlen, hrat, hrs, hB0, hB1, hn, k⟩ := h
    refine ⟨_, (pss_cons (ps_set (i := 1) sc_common.nd rfl (by first | exact Or.inl rfl | exact Or.inr rfl) pe_int)
(pss_cons (ps_for PassesOwn.never rfl (pi_list (pv 0)) (pg_name (i := 2) sc_common.nd rfl (by first | exact Or.inl rfl | exact Or.inr rfl))
  (pss_one (ps_set (i := 1) sc_common.nd rfl (by first | exact Or.inl rfl | exact Or.inr rfl) (pe_callBfun cr_lcm (by rfl) T.f_lcm (pa_cons (pv 1) (pa_cons (pe_fld (pv 2) rfl) pa_nil))))))
(pss_one (ps_ret (pe_tup (pa_cons (pe_lc (own := [("ratio", 2)]) (g := gName 2) (tt := tYes) rfl sc_common.nd (pi_list (pv 0)) (blkOk_by (N := ["ratios", "den", "ratio"]) (sc := fnScope s_common) (by decide +kernel)) (fun _ _ _ _ _ => pg_name (i := 2) sc_common.nd rfl (by first | exact Or.inl rfl | exact Or.inr rfl)) (fun _ _ _ _ _ => pts_nil) (fun _ _ _ _ _ => (pe_op op_mulO (pe_fldK (K := K) (pv 2) rfl) (pe_op op_fdivG (pv 1) (pe_fldK (K := K) (pv 2) rfl))))) (pa_cons (pv 1) pa_nil))))))), ?_⟩
    have bound : ∀ i, comD (rs.take i) < 2 ^ 1800 := fun i => Nat.lt_of_le_of_lt (Nat.le_of_dvd hB0 (comD_of fun r hr => (hrs r (List.mem_of_mem_take hr)).2.1)) hB1
    have big : ∀ {n : Nat}, n < 2 ^ 1800 → n < 2 ^ 6000 := fun h => Nat.lt_trans h (Nat.pow_lt_pow_right (by decide) (by decide))
    have rbound : ∀ r ∈ rs, r.2.natAbs < 2 ^ 1800 := fun r hr => Nat.lt_of_le_of_lt (Nat.le_of_dvd hB0 (hrs r hr).2.1) hB1
    refine ⟨_, rfl, a, rfl, ⟨_, hS⟩, for_list (K := K) (a := a) (xs := ps.map V.ref) (fun i σ H' => H' = H ∧ ∃ o2, σ = [some (.ref a), some (.int ((comD (rs.take i) : Nat) : Int)), o2])
      ⟨rfl, none, rfl⟩ (fun i σ H' _ ⟨e, _⟩ => by rw [e]; exact hS) ?_ ?_⟩
    · rintro i x σ H' hi ⟨rfl, o2, rfl⟩
      obtain ⟨p, hp, rfl⟩ : ∃ p, ps[i]? = some p ∧ x = V.ref p := by
        rw [List.getElem?_map] at hi
        cases e : ps[i]? with
        | none => rw [e] at hi; cases hi
        | some p => rw [e] at hi; exact ⟨p, rfl, (Option.some.inj hi).symm⟩
      have hil : i < rs.length := by have := (List.getElem?_eq_some_iff.mp hp).1; omega
      have hr : rs[i]? = some rs[i] := List.getElem?_eq_getElem hil
      obtain ⟨dx, hpx⟩ := hrat i p _ hp hr
      have hm := List.getElem_mem hil
      refine ⟨_, rfl, _, rfl, p, C_Ratio, dx, _, _, rfl, hpx, T.cl_Ratio, T.a_Ratio_den, rf_den _ _, _, _, rfl, big (by rw [Int.natAbs_natCast]; exact bound i), big (rbound _ hm), ?_⟩
      refine ⟨rfl, some (.ref p), ?_⟩
      have e1 : rs.take (i + 1) = rs.take i ++ [rs[i]] := by rw [List.take_add_one, hr]; rfl
      rw [e1, comD_snoc]
      rfl
    · rintro σ H0 ⟨rfl, o2, rfl⟩
      have et : rs.take (ps.map V.ref).length = rs := by rw [List.length_map, hlen, List.take_length]
      rw [et]
      have hD := bound rs.length
      rw [List.take_length] at hD
      refine ⟨_, rfl, a, rfl, ⟨_, hS⟩, fun L hL => ?_⟩
      refine lc_list (K := K) (a := a) (xs := ps.map V.ref) (fun i H' => H' L = some (.lst (((comN rs).take i).map V.int)) ∧ Keep [] H0 H')
        ⟨upd_same, Keep.new hL⟩ (fun i H' _ ⟨_, kk⟩ => kk.seqL hS (by simp)) ?_ ?_
      · rintro i x H' hi ⟨hDL, kk⟩
        obtain ⟨p, hp, rfl⟩ : ∃ p, ps[i]? = some p ∧ x = V.ref p := by
          rw [List.getElem?_map] at hi
          cases e : ps[i]? with
          | none => rw [e] at hi; cases hi
          | some p => rw [e] at hi; exact ⟨p, rfl, (Option.some.inj hi).symm⟩
        have hil : i < rs.length := by have := (List.getElem?_eq_some_iff.mp hp).1; omega
        have hr : rs[i]? = some rs[i] := List.getElem?_eq_getElem hil
        obtain ⟨dx, hpx⟩ := (hrat i p _ hp hr).keep0 kk
        have hm := List.getElem_mem hil
        obtain ⟨hp0, hpd, hpn⟩ := hrs _ hm
        have hfd : ((((comD rs : Nat) : Int).fdiv rs[i].2)).natAbs < 2 ^ 1800 := by
          rw [Int.fdiv_eq_ediv_of_nonneg _ (by omega)]
          refine Nat.lt_of_le_of_lt (Int.natAbs_ediv_le_natAbs _ _) ?_
          rw [Int.natAbs_natCast]; exact hD
        have cd : CDivG ((comD rs : Nat) : Int) rs[i].2 := ⟨by omega, Nat.lt_trans (log2_lt9 (rbound _ hm) (by decide)) (by decide)⟩
        have cm : IntMulOk rs[i].1 (((comD rs : Nat) : Int).fdiv rs[i].2) := IntMulOk.of_le (m := 300) (n := 1800) (intBits_le_iff.mpr hpn) (intBits_le_iff.mpr hfd) (by decide)
        refine ⟨rfl, yes_then ⟨_, rfl, p, C_Ratio, dx, _, _, rfl, hpx, T.cl_Ratio, T.a_Ratio_num, rf_num _ _, _, rfl, _, rfl, p, C_Ratio, dx, _, _, rfl, hpx, T.cl_Ratio, T.a_Ratio_den, rf_den _ _, _, _, rfl, rfl, cd, _, _, rfl, rfl, cm, ?_⟩⟩
        refine ⟨_, hDL, by rw [List.length_map, List.length_take]; exact smallL (by omega), ?_, kk.then_own hL⟩
        have e1 : (comN rs)[i]? = some (rs[i].1 * (((comD rs : Nat) : Int).fdiv rs[i].2)) := by unfold comN; rw [List.getElem?_map, hr]; rfl
        rw [List.take_add_one, e1, List.map_append]
        exact upd_same
      · rintro H' ⟨hDL, kk⟩
        have e2 : (comN rs).take (ps.map V.ref).length = comN rs := by
          refine List.take_of_length_le ?_
          unfold comN; rw [List.length_map, List.length_map, hlen]; exact Nat.le_refl _
        rw [e2] at hDL
        refine ⟨_, rfl, by show 2 ≤ sizeLine; decide, fun t ht => ?_⟩
        exact k L t _ hL (kk.then_new ht) (by rw [upd_ne (ne_of_none hDL ht)]; exact hDL) upd_same
end

/-! weights over a whole: are_lots -/
def wri (ws : List Int) (W : Int) : List Rt := ws.map fun w => (redN w W, redD w W)
def lotB (ws : List Int) (W : Int) : Bool := decide (ws.sum = W) && ws.all fun w => decide (0 ≤ w)
structure WK (ws : List Int) (W : Int) : Prop where
  pos : 1 ≤ W
  len : ws.length ≤ 100
  sm : ∀ w ∈ ws, w.natAbs < 2 ^ 200
  W : W.natAbs < 2 ^ 200
theorem wri_length (ws : List Int) (W : Int) : (wri ws W).length = ws.length := by unfold wri; rw [List.length_map]
theorem wri_dvd {ws : List Int} {W : Int} (h : 1 ≤ W) : ∀ r ∈ wri ws W, r.2.natAbs ∣ W.natAbs := fun r hr => by
  obtain ⟨w, _, rfl⟩ := List.mem_map.mp hr
  have := red_dvd (n := w) (d := W) (by omega)
  rwa [← Int.natAbs_dvd_natAbs] at this
theorem wri_small {ws : List Int} {W : Int} (h : WK ws W) : ∀ r ∈ wri ws W, 0 < r.2 ∧ r.2.natAbs ∣ W.natAbs ∧ r.1.natAbs < 2 ^ 300 := fun r hr => by
  have hd := wri_dvd h.pos r hr
  obtain ⟨w, hw, rfl⟩ := List.mem_map.mp hr
  have hp := h.pos
  refine ⟨redD_pos (by omega), hd, ?_⟩
  have h1 := red_abs_n (n := w) (d := W) (by omega)
  exact Nat.lt_of_le_of_lt h1 (Nat.lt_trans (h.sm w hw) (Nat.pow_lt_pow_right (by decide) (by decide)))
theorem comD_pos {ws : List Int} {W : Int} (h : 1 ≤ W) : 0 < comD (wri ws W) := Nat.pos_of_dvd_of_pos (comD_of (wri_dvd h)) (by omega)
def cN (ws : List Int) (W : Int) (w : Int) : Int := redN w W * ((comD (wri ws W) : Nat) : Int).fdiv (redD w W)
theorem comN_wri (ws : List Int) (W : Int) : comN (wri ws W) = ws.map (cN ws W) := by
  show (ws.map _).map _ = _
  rw [List.map_map]; rfl
theorem cN_mul {ws : List Int} {W : Int} (h : 1 ≤ W) {w : Int} (hw : w ∈ ws) : cN ws W w * W = w * ((comD (wri ws W) : Nat) : Int) := by
  have hr : (redN w W, redD w W) ∈ wri ws W := List.mem_map.mpr ⟨w, hw, rfl⟩
  have h1 : (redD w W).natAbs ∣ comD (wri ws W) := comD_mem hr
  have h2 : redD w W ∣ ((comD (wri ws W) : Nat) : Int) := by
    rw [← Int.natAbs_dvd_natAbs]; simpa using h1
  obtain ⟨q, hq⟩ := h2
  have hne : redD w W ≠ 0 := by have := redD_pos (n := w) (d := W) (by omega); omega
  unfold cN
  rw [fdiv_of_mul hne hq]
  have hc := red_cross (n := w) (d := W) (by omega)
  rw [hq]
  calc redN w W * q * W = (redN w W * W) * q := by rw [Int.mul_assoc, Int.mul_comm q, ← Int.mul_assoc]
    _ = (w * redD w W) * q := by rw [hc]
    _ = w * (redD w W * q) := Int.mul_assoc ..
theorem cN_sum {ws : List Int} {W : Int} (h : 1 ≤ W) : (comN (wri ws W)).sum * W = ws.sum * ((comD (wri ws W) : Nat) : Int) := by
  rw [comN_wri]
  have all : ∀ us : List Int, (∀ u ∈ us, u ∈ ws) → (us.map (cN ws W)).sum * W = us.sum * ((comD (wri ws W) : Nat) : Int) := by
    intro us
    induction us with
    | nil => intro _; simp
    | cons u us ih =>
      intro hu
      rw [List.map_cons, List.sum_cons, List.sum_cons, Int.add_mul, ih fun x hx => hu x (List.mem_cons_of_mem _ hx), cN_mul h (hu u (List.mem_cons_self ..)), Int.add_mul]
  exact all ws fun _ h => h
theorem sum_iff {ws : List Int} {W : Int} (h : 1 ≤ W) : (comN (wri ws W)).sum = ((comD (wri ws W) : Nat) : Int) ↔ ws.sum = W := by
  have e := cN_sum (ws := ws) h
  have hp := comD_pos (ws := ws) h
  constructor
  · intro z
    rw [z, Int.mul_comm] at e
    exact (Int.eq_of_mul_eq_mul_right (by omega) e).symm
  · intro z
    rw [z, Int.mul_comm W] at e
    exact Int.eq_of_mul_eq_mul_right (by omega) e
theorem nn_iff {ws : List Int} {W : Int} (h : 1 ≤ W) {w : Int} (hw : w ∈ ws) : 0 ≤ cN ws W w ↔ 0 ≤ w := by
  have e := cN_mul h hw
  have hp : (0 : Int) < ((comD (wri ws W) : Nat) : Int) := by have := comD_pos (ws := ws) h; omega
  constructor
  · intro z
    rcases Int.lt_or_le w 0 with q | q
    · have h1 := Int.mul_neg_of_neg_of_pos q hp
      have h2 : 0 ≤ cN ws W w * W := Int.mul_nonneg z (by omega)
      omega
    · exact q
  · intro z
    rcases Int.lt_or_le (cN ws W w) 0 with q | q
    · have h1 := Int.mul_neg_of_neg_of_pos q (show (0 : Int) < W by omega)
      have h2 : 0 ≤ w * ((comD (wri ws W) : Nat) : Int) := Int.mul_nonneg z (by omega)
      omega
    · exact q
theorem all_nn {ws : List Int} {W : Int} (h : 1 ≤ W) : ((comN (wri ws W)).all fun n => decide (0 ≤ n)) = ws.all fun w => decide (0 ≤ w) := by
  rw [comN_wri, List.all_map, Bool.eq_iff_iff, List.all_eq_true, List.all_eq_true]
  constructor
  · intro z w hw
    exact decide_eq_true ((nn_iff h hw).mp (of_decide_eq_true (z w hw)))
  · intro z w hw
    exact decide_eq_true ((nn_iff h hw).mpr (of_decide_eq_true (z w hw)))

section
variable {P : Program} {w : World} {K : PySem.W.Frag} {mg : Str → Option Value} {base : Heap} {C_Ratio : Addr} {C_Gains : Addr} {C_GameError : Addr} {C_BadEdit : Addr} {C_BadPlan : Addr} {C_BadRatio : Addr} {C_BadText : Addr} {C_TooLarge : Addr} {C_BadGains : Addr} {f_BadGains___init : Addr}
theorem ok_rat_init {f : Addr} {fd : FuncData} {ds : List Value} {dvs : List V} (M : Mk K C_Ratio f) (F : C8.Fun K "__init__" "Ratio.__init__" s_Ratio___init f fd) (b : Binds K fd ["self", "num", "den"] ds) (d : Vals dvs ds) (T : Txt K mg C_Ratio C_Gains C_GameError C_BadEdit C_BadPlan C_BadRatio C_BadText C_TooLarge C_BadGains) :
    C8.Mak P w K mg base 1 "Ratio" C_Ratio (sp_rat C_Ratio) dvs := by
  refine mak0 M T.m_Ratio F b d sc_Ratio___init (fun vs H Q E h => ?_) (fun cdv A outer s H vs Q E hr h => ?_)
  · obtain ⟨x, dx, n, d, rfl, _⟩ := h
    rfl
  · obtain ⟨x, dx, n, d, rfl, hd0, hdb, hx, k⟩ := h
    refine ⟨_, (pss_cons (ps_if (pt_cmpR op_eq (pv 2) pe_int (nomark _))
  (pss_one ps_never)
  pss_nil)
(pss_cons (ps_set (i := 3) sc_Ratio___init.nd rfl (by first | exact Or.inl rfl | exact Or.inr rfl) (pe_callBfun cr_gcd (by rfl) T.f_gcd (pa_cons (pv 1) (pa_cons (pv 2) pa_nil))))
(pss_cut (ps_if (pt_cmpR op_lt (pv 2) pe_int (nomark _))
  (pss_one (ps_set (i := 3) sc_Ratio___init.nd rfl (by first | exact Or.inl rfl | exact Or.inr rfl) (pe_un un_neg (pv 3))))
  pss_nil)
(pss_cons (ps_fld (pv 0) (pe_op op_fdivG (pv 1) (pv 3)) rfl)
(pss_one (ps_fld (pv 0) (pe_op op_fdivG (pv 2) (pv 3)) rfl)))))), ?_⟩
    refine ⟨_, rfl, rfl, _, rfl, iteDF (fun z => hd0 (V.int.inj z)) ?_⟩
    refine ⟨_, rfl, _, rfl, _, _, rfl, ?_⟩
    have hg := gcd_pos_of (n := n) hd0
    have hgb : Nat.gcd n.natAbs d.natAbs < 2 ^ 8000 := Nat.lt_of_le_of_lt (Nat.le_of_dvd (by omega) (Nat.gcd_dvd_right _ _)) hdb
    -- part is the sign's part
    refine ⟨fun σ H' => σ = [some (.ref x), some (.int n), some (.int d), some (.int (sg n d))] ∧ H' = H, ?_, ?_⟩
    · refine ⟨_, rfl, _, _, rfl, rfl, _, rfl, iteD (fun hn => ?_) (fun hn => ?_)⟩
      · refine ⟨_, rfl, _, rfl, ?_, rfl⟩
        unfold sg; rw [if_pos hn]; rfl
      · refine ⟨?_, rfl⟩
        unfold sg; rw [if_neg hn]; rfl
    · rintro σ H' ⟨rfl, rfl⟩
      have hs := sg_ne (n := n) hd0
      have hsb : CDivG n (sg n d) := ⟨hs, by
        refine Nat.lt_trans (log2_lt9 (b := 8000) ?_ (by decide)) (by decide)
        have : (sg n d).natAbs = Nat.gcd n.natAbs d.natAbs := by unfold sg; split <;> omega
        omega⟩
      refine ⟨_, rfl, _, rfl, _, _, rfl, rfl, hsb, _, rfl, x, C_Ratio, dx, [], rfl, hx, T.cl_Ratio, T.a_Ratio_num, by show 0 < 1000; decide, ?_⟩
      refine ⟨_, rfl, _, rfl, _, _, rfl, rfl, hsb, _, rfl, x, C_Ratio, dx, _, rfl, upd_same, T.cl_Ratio, T.a_Ratio_den, by show 1 < 1000; decide, ?_⟩
      exact k _ ((Keep.at_ (List.mem_singleton.mpr rfl)).then_at (List.mem_singleton.mpr rfl)) upd_same
end

section
variable {P : Program} {w : World} {K : PySem.W.Frag} {mg : Str → Option Value} {base : Heap} {C_Ratio : Addr} {C_Gains : Addr} {C_GameError : Addr} {C_BadEdit : Addr} {C_BadPlan : Addr} {C_BadRatio : Addr} {C_BadText : Addr} {C_TooLarge : Addr} {C_BadGains : Addr} {f_BadGains___init : Addr}
theorem ok_req {f : Addr} {fd : FuncData} (me : Meth K C_Ratio "__eq__" f) (F : C8.Fun K "__eq__" "Ratio.__eq__" s_Ratio___eq f fd) (b : Binds K fd ["self", "other"] []) (T : Txt K mg C_Ratio C_Gains C_GameError C_BadEdit C_BadPlan C_BadRatio C_BadText C_TooLarge C_BadGains) : Own P w K mg base 1 C_Ratio "__eq__" (sp_req C_Ratio) := by
  refine ⟨f, fd, ["self", "other"], me.at_, me.fn, C8.fn0 F sc_Ratio___eq (fun vs H Q E h => ?_) (fun cdv A outer s H vs Q E hr h => ?_), b⟩
  · obtain ⟨a, b, n, d, n', d', rfl, _⟩ := h
    rfl
  · obtain ⟨a, b, n, d, n', d', rfl, ⟨dx, h1⟩, ⟨dy, h2⟩, k⟩ := h
    refine ⟨_, (pss_one (ps_ret (pe_and (pe_callB call_isi (by rfl) T.n_isinstance bo_isinstance (pa_cons (pv 1) (pa_cons (pe_glob (v := .ref _) rfl T.m_Ratio rfl) pa_nil))) (pe_and (pe_cmpR op_eq (pe_fld (pv 0) rfl) (pe_fld (pv 1) rfl) (nomark _)) (pe_one (pe_cmpR op_eq (pe_fld (pv 0) rfl) (pe_fld (pv 1) rfl) (nomark _))))))), ?_⟩
    refine ⟨_, rfl, _, _, _, _, _, rfl, .own _, tyI T.i_Ratio h2, kitSelf, _, rfl, iteT ?_⟩
    refine ⟨_, rfl, a, C_Ratio, dx, _, _, rfl, h1, T.cl_Ratio, T.a_Ratio_num, rf_num n d, _, rfl, b, C_Ratio, dy, _, _, rfl, h2, T.cl_Ratio, T.a_Ratio_num, rf_num n' d', rfl, _, rfl, ?_⟩
    refine iteD (fun e => ?_) (fun e => ?_)
    · refine ⟨_, rfl, a, C_Ratio, dx, _, _, rfl, h1, T.cl_Ratio, T.a_Ratio_den, rf_den n d, _, rfl, b, C_Ratio, dy, _, _, rfl, h2, T.cl_Ratio, T.a_Ratio_den, rf_den n' d', rfl, ?_⟩
      have e1 : n = n' := V.int.inj e
      by_cases e2 : d = d'
      · rw [decide_eq_true ⟨e1, e2⟩] at k
        rw [decide_eq_true (by rw [e2])]; exact k
      · rw [decide_eq_false (fun z => e2 z.2)] at k
        rw [decide_eq_false (fun z => e2 (V.int.inj z))]; exact k
    · have e1 : ¬ n = n' := fun z => e (by rw [z])
      rw [decide_eq_false (fun z => e1 z.1)] at k
      exact k
end

def sp_alots (C : Addr) : Sp := fun vs H Q _ => ∃ (a : Addr) (us : List V) (ws : List Int) (W : Int), vs = [.ref a] ∧ H a = some (.lst us) ∧ All2 (RtV C H) us (wri ws W) ∧ WK ws W ∧ ∀ H', Keep [] H H' → Q (.bl (lotB ws W)) H'
theorem all_id (l : List Int) : ((l.map fun n => decide (0 ≤ n)).all id) = l.all fun n => decide (0 ≤ n) := by rw [List.all_map]; rfl
theorem refs_of {C : Addr} {H : Hp} {us : List V} {rs : List Rt} (h : All2 (RtV C H) us rs) : ∃ ps : List Addr, us = ps.map V.ref ∧ ps.length = rs.length ∧ ∀ (i : Nat) p r, ps[i]? = some p → rs[i]? = some r → RatAt C H p r.1 r.2 := by
  refine ⟨us.map fun v => match v with | .ref a => a | _ => 0, ?_, by rw [List.length_map]; exact h.1, fun i p r hp hr => ?_⟩
  · rw [List.map_map]
    refine List.ext_getElem? fun i => ?_
    rw [List.getElem?_map]
    cases e : us[i]? with
    | none => rfl
    | some v =>
      obtain ⟨r, _, p, rfl, _⟩ := h.get e
      rfl
  · rw [List.getElem?_map] at hp
    cases e : us[i]? with
    | none => rw [e] at hp; cases hp
    | some v =>
      obtain ⟨q, rfl, hq⟩ := h.2 i v r e hr
      rw [e] at hp
      cases hp
      exact hq
section
variable {P : Program} {w : World} {K : PySem.W.Frag} {mg : Str → Option Value} {base : Heap} {C_Ratio : Addr} {C_Gains : Addr} {C_GameError : Addr} {C_BadEdit : Addr} {C_BadPlan : Addr} {C_BadRatio : Addr} {C_BadText : Addr} {C_TooLarge : Addr} {C_BadGains : Addr} {f_BadGains___init : Addr}
theorem ok_are_lots {f : Addr} {fd : FuncData} (D : C8.Def K mg "are_lots" s_are_lots f fd) (b : Binds K fd ["ratios"] []) (T : Txt K mg C_Ratio C_Gains C_GameError C_BadEdit C_BadPlan C_BadRatio C_BadText C_TooLarge C_BadGains) (c_common : C8.Cal P w K mg base 1 "common" (sp_common K C_Ratio) []) : C8.Cal P w K mg base 2 "are_lots" (sp_alots C_Ratio) [] := by
  refine cal0 D b .nil sc_are_lots (fun vs H Q E h => ?_) (fun cdv A outer s H vs Q E hr h => ?_)
  · obtain ⟨a, us, ws, W, rfl, _⟩ := h
    rfl
  · obtain ⟨a, us, ws, W, rfl, ha, hrl, hok, k⟩ := h
    refine ⟨_, (pss_cons (ps_asg (pe_c c_common hr (by first | exact Nat.le_refl _ | decide | omega) rfl (pa_cons (pv 0) pa_nil)) (pg_tup (by rfl) (pgs_cons (pg_name (i := 1) sc_are_lots.nd rfl (by first | exact Or.inl rfl | exact Or.inr rfl)) (pgs_cons (pg_name (i := 2) sc_are_lots.nd rfl (by first | exact Or.inl rfl | exact Or.inr rfl)) pgs_nil))))
(pss_one (ps_ret (pe_and (pe_cmpR op_eq (pe_callB (cr_sum rfl) (by rfl) T.n_sum bo_sum (pa_cons (pv 1) pa_nil)) (pv 2) (nomark _)) (pe_one (pe_callB (cr_all rfl) (by rfl) T.n_all bo_all (pa_cons (pe_lc (own := [("weight", 3)]) (g := gName 3) (tt := tYes) rfl sc_are_lots.nd (pi_list (pv 1)) (blkOk_by (N := ["ratios", "weights", "den", "weight"]) (sc := fnScope s_are_lots) (by decide +kernel)) (fun _ _ _ _ _ => pg_name (i := 3) sc_are_lots.nd rfl (by first | exact Or.inl rfl | exact Or.inr rfl)) (fun _ _ _ _ _ => pts_nil) (fun _ _ _ _ _ => (pe_cmpR op_ge (pv 3) pe_int (nomark _)))) pa_nil))))))), ?_⟩
    obtain ⟨ps, rfl, hpl, hpr⟩ := refs_of hrl
    have hp := hok.pos
    have hlen := hok.len
    refine ⟨_, rfl, a, ps, wri ws W, W.natAbs, rfl, SqL.of ha, hpl, hpr, wri_small hok, by omega, Nat.lt_trans hok.W (Nat.pow_lt_pow_right (by decide) (by decide)), by rw [wri_length]; omega, fun l t H1 nl K1 hl ht => ?_⟩
    refine ⟨t, _, rfl, SqT.of ht, rfl, _, _, rfl, _, _, rfl, rfl, ?_⟩
    refine ⟨_, rfl, l, _, rfl, SqL.of hl, _, rfl, rfl, _, rfl, ?_⟩
    by_cases hs : (comN (wri ws W)).sum = ((comD (wri ws W) : Nat) : Int)
    · have hs' := (sum_iff hp).mp hs
      rw [hs]
      refine iteDT rfl ⟨_, rfl, l, rfl, ⟨_, SqL.of hl⟩, fun D nD => ?_⟩
      have hcl : (comN (wri ws W)).length = ws.length := by rw [comN_wri, List.length_map]
      refine lc_list (K := K) (a := l) (xs := (comN (wri ws W)).map V.int) (fun i H' => H' D = some (.lst ((((comN (wri ws W)).take i).map fun n => decide (0 ≤ n)).map V.bl)) ∧ Keep [] H1 H') ⟨upd_same, Keep.new nD⟩ (fun i H' _ ⟨_, kk⟩ => SqL.of (kk _ _ hl (by simp))) ?_ ?_
      · rintro i x H' hx ⟨hD, kk⟩
        obtain ⟨z, hz, rfl⟩ := ints_get hx
        have hi := (List.getElem?_eq_some_iff.mp hx).1
        rw [List.length_map, hcl] at hi
        refine ⟨rfl, yes_then ⟨_, rfl, _, _, rfl, rfl, _, hD, smallL (by simp; omega), ?_, kk.then_own nD⟩⟩
        rw [upd_same, snoc_take hz, List.map_append, List.map_append]; rfl
      · rintro H' ⟨hD, kk⟩
        rw [List.length_map, List.take_length] at hD
        refine ⟨D, _, rfl, SqL.of hD, ?_⟩
        rw [all_id, all_nn hp]
        have e : lotB ws W = ws.all fun w => decide (0 ≤ w) := by unfold lotB; rw [decide_eq_true hs', Bool.true_and]
        rw [← e]
        exact k _ (K1.trans kk)
    · have hs' : ¬ ws.sum = W := fun z => hs ((sum_iff hp).mpr z)
      refine iteDF (fun z => hs (V.int.inj z)) ?_
      have e : lotB ws W = false := by unfold lotB; rw [decide_eq_false hs', Bool.false_and]
      show Q (.bl false) H1
      rw [← e]
      exact k _ K1
end

/-! plain data: what == says of it -/
mutual
def PlD : PyData → Bool
  | .none => true
  | .bool _ => false
  | .int _ => true
  | .str _ => true
  | .list _ => false
  | .tuple xs => PlDs xs
  | .dict _ => false
def PlDs : List PyData → Bool
  | [] => true
  | d :: ds => PlD d && PlDs ds
end
mutual
theorem eqv_pl : ∀ (d e : PyData), PlD d = true → PlD e = true → PyData.eqv d e = true → d = e
  | .none, .none, _, _, _ => rfl
  | .int i, .int j, _, _, h => by
    have : i = j := by simpa [PyData.eqv] using h
    rw [this]
  | .str i, .str j, _, _, h => by
    have : i = j := by simpa [PyData.eqv] using h
    rw [this]
  | .tuple xs, .tuple ys, hx, hy, h => by
    rw [eqvs_pl xs ys (by simpa [PlD] using hx) (by simpa [PlD] using hy) (by simpa [PyData.eqv] using h)]
  | .none, .int _, _, _, h => by simp [PyData.eqv] at h
  | .none, .str _, _, _, h => by simp [PyData.eqv] at h
  | .none, .tuple _, _, _, h => by simp [PyData.eqv] at h
  | .int _, .none, _, _, h => by simp [PyData.eqv] at h
  | .int _, .str _, _, _, h => by simp [PyData.eqv] at h
  | .int _, .tuple _, _, _, h => by simp [PyData.eqv] at h
  | .str _, .none, _, _, h => by simp [PyData.eqv] at h
  | .str _, .int _, _, _, h => by simp [PyData.eqv] at h
  | .str _, .tuple _, _, _, h => by simp [PyData.eqv] at h
  | .tuple _, .none, _, _, h => by simp [PyData.eqv] at h
  | .tuple _, .int _, _, _, h => by simp [PyData.eqv] at h
  | .tuple _, .str _, _, _, h => by simp [PyData.eqv] at h
  | .bool _, _, h, _, _ => by simp [PlD] at h
  | .list _, _, h, _, _ => by simp [PlD] at h
  | .dict _, _, h, _, _ => by simp [PlD] at h
  | _, .bool _, _, h, _ => by simp [PlD] at h
  | _, .list _, _, h, _ => by simp [PlD] at h
  | _, .dict _, _, h, _ => by simp [PlD] at h
theorem eqvs_pl : ∀ (xs ys : List PyData), PlDs xs = true → PlDs ys = true → PyData.eqvAll xs ys = true → xs = ys
  | [], [], _, _, _ => rfl
  | d :: ds, e :: es, hx, hy, h => by
    simp only [PlDs, Bool.and_eq_true] at hx hy
    simp only [PyData.eqvAll, Bool.and_eq_true] at h
    rw [eqv_pl d e hx.1 hy.1 h.1, eqvs_pl ds es hx.2 hy.2 h.2]
  | [], _ :: _, _, _, h => by simp [PyData.eqvAll] at h
  | _ :: _, [], _, _, h => by simp [PyData.eqvAll] at h
end

/-! the law's look whether two values are the same: only the answer True is told -/
def SameV : Nat → Hp → V → V → Prop
  | 0, _, _, _ => False
  | n + 1, H, a, d => (a = d ∧ ((∃ x, d = .str x) ∨ (∃ i, d = .int i) ∨ (∃ b, d = .bl b) ∨ d = .non)) ∨
    ∃ p q xs ys, a = .ref p ∧ d = .ref q ∧ ((H p = some (.lst xs) ∧ H q = some (.lst ys)) ∨ (H p = some (.tup xs) ∧ H q = some (.tup ys))) ∧ xs.length = ys.length ∧ xs.length ≤ sizeLine ∧
      ∀ (i : Nat) x y, xs[i]? = some x → ys[i]? = some y → SameV n H x y
def sp_law_same (n : Nat) : Sp := fun vs H Q _ => ∃ a d, vs = [a, d] ∧ SameV n H a d ∧ Q (.bl true) H
theorem sameV_strs {n : Nat} {H : Hp} {p q : Addr} {ys : List Str} (h1 : H p = some (.lst (ys.map V.str))) (h2 : H q = some (.lst (ys.map V.str))) (hl : ys.length ≤ sizeLine) : SameV (n + 2) H (.ref p) (.ref q) := by
  refine .inr ⟨p, q, _, _, rfl, rfl, .inl ⟨h1, h2⟩, rfl, by rw [List.length_map]; exact hl, fun i x y hx hy => ?_⟩
  rw [hx] at hy; cases hy
  obtain ⟨z, _, rfl⟩ := strs_get hx
  exact .inl ⟨rfl, .inl ⟨z, rfl⟩⟩
theorem sameV_str {n : Nat} {H : Hp} (x : Str) : SameV (n + 1) H (.str x) (.str x) := .inl ⟨rfl, .inl ⟨x, rfl⟩⟩
section
variable {K : PySem.W.Frag}
theorem kLT : PySem.W.kitOne K (.type "list") (.type "tuple") = some false := kit_ty (by decide +kernel)
theorem kLL : PySem.W.kitOne K (.type "list") (.type "list") = some true := kit_ty (by decide +kernel)
theorem kTT : PySem.W.kitOne K (.type "tuple") (.type "tuple") = some true := kit_ty (by decide +kernel)
theorem kTL : PySem.W.kitOne K (.type "tuple") (.type "list") = some false := kit_ty (by decide +kernel)
theorem kST : PySem.W.kitOne K (.type "str") (.type "tuple") = some false := kit_ty (by decide +kernel)
theorem kSL : PySem.W.kitOne K (.type "str") (.type "list") = some false := kit_ty (by decide +kernel)
theorem kSB : PySem.W.kitOne K (.type "str") (.type "bool") = some false := kit_ty (by decide +kernel)
theorem kSI : PySem.W.kitOne K (.type "str") (.type "int") = some false := kit_ty (by decide +kernel)
theorem kSS : PySem.W.kitOne K (.type "str") (.type "str") = some true := kit_ty (by decide +kernel)
theorem kIT : PySem.W.kitOne K (.type "int") (.type "tuple") = some false := kit_ty (by decide +kernel)
theorem kIL : PySem.W.kitOne K (.type "int") (.type "list") = some false := kit_ty (by decide +kernel)
theorem kIB : PySem.W.kitOne K (.type "int") (.type "bool") = some false := kit_ty (by decide +kernel)
theorem kII : PySem.W.kitOne K (.type "int") (.type "int") = some true := kit_ty (by decide +kernel)
theorem kBT : PySem.W.kitOne K (.type "bool") (.type "tuple") = some false := kit_ty (by decide +kernel)
theorem kBL : PySem.W.kitOne K (.type "bool") (.type "list") = some false := kit_ty (by decide +kernel)
theorem kBB : PySem.W.kitOne K (.type "bool") (.type "bool") = some true := kit_ty (by decide +kernel)
theorem kBI : PySem.W.kitOne K (.type "bool") (.type "int") = some true := kit_ty (by decide +kernel)
theorem kNT : PySem.W.kitOne K (.type "NoneType") (.type "tuple") = some false := kit_ty (by decide +kernel)
theorem kNL : PySem.W.kitOne K (.type "NoneType") (.type "list") = some false := kit_ty (by decide +kernel)
theorem kNB : PySem.W.kitOne K (.type "NoneType") (.type "bool") = some false := kit_ty (by decide +kernel)
theorem kNI : PySem.W.kitOne K (.type "NoneType") (.type "int") = some false := kit_ty (by decide +kernel)
end
theorem paired_strs {K : PySem.W.Frag} {H : Hp} {n : Nat} : ∀ ys : List Str, Paired (EqV K H (n + 1)) (ys.map V.str) (ys.map V.str)
  | [] => .nil
  | y :: r => .cons (.inl ⟨rfl, rfl⟩) (paired_strs r)
theorem canLay_intsL : ∀ l : List Int, PyData.canLayAll0 (l.map PyData.int) = true
  | [] => rfl
  | a :: r => by simp [PyData.canLayAll0, PyData.canLay0, canLay_intsL r]
theorem depth_intsL : ∀ l : List Int, PyData.depthAll (l.map PyData.int) ≤ 1
  | [] => by simp [PyData.depthAll]
  | a :: r => by
    have := depth_intsL r
    simp only [List.map_cons, PyData.depthAll, PyData.depth]
    omega
theorem shaped_ints (ys : List Int) : SeqAt.shaped (.list (ys.map PyData.int)) = true := by
  unfold SeqAt.shaped
  have h := depth_intsL ys
  rw [Bool.and_eq_true]
  refine ⟨by simp only [PyData.canLay0]; exact canLay_intsL ys, decide_eq_true ?_⟩
  simp only [PyData.depth]
  omega
theorem eqv_ints (ys : List Int) : PyData.eqv (.list (ys.map PyData.int)) (.list (ys.map PyData.int)) = true := SeqAt.eqv_refl _ (SeqAt.canLay_of_shaped (shaped_ints ys))
theorem dp_ints {K : PySem.W.Frag} {H : Hp} : ∀ (ys : List Int), DpAll K H (ys.map V.int) (ys.map PyData.int)
  | [] => .nil
  | y :: r => .cons (.int y) (dp_ints r)

section
variable {P : Program} {w : World} {K : PySem.W.Frag} {mg : Str → Option Value} {base : Heap} {C_Ratio : Addr} {C_Gains : Addr} {C_GameError : Addr} {C_BadEdit : Addr} {C_BadPlan : Addr} {C_BadRatio : Addr} {C_BadText : Addr} {C_TooLarge : Addr} {C_BadGains : Addr} {f_BadGains___init : Addr}
theorem ok_law_same0 {f : Addr} {fd : FuncData} (D : C8.Def K mg "_law_same" s_law_same f fd) (b : Binds K fd ["actual", "due"] []) : C8.Cal P w K mg base 0 "_law_same" (sp_law_same 0) [] :=
  ⟨f, fd, ["actual", "due"], [], ⟨fun vs H Q E h => (by obtain ⟨a, d, rfl, _⟩ := h; rfl), fun A outer s H args us vs Q E _ _ _ _ h => (by obtain ⟨a, d, _, z, _⟩ := h; exact z.elim)⟩, D.mgf, D.kp, b, .nil⟩
theorem ok_law_same {f : Addr} {fd : FuncData} (D : C8.Def K mg "_law_same" s_law_same f fd) (b : Binds K fd ["actual", "due"] []) (T : Txt K mg C_Ratio C_Gains C_GameError C_BadEdit C_BadPlan C_BadRatio C_BadText C_TooLarge C_BadGains) {n k : Nat} (c_law_same : C8.Cal P w K mg base k "_law_same" (sp_law_same n) []) :
    C8.Cal P w K mg base (k + 1) "_law_same" (sp_law_same (n + 1)) [] := by
  refine cal0 D b .nil sc_law_same (fun vs H Q E h => ?_) (fun cdv A outer s H vs Q E hr h => ?_)
  · obtain ⟨a, d, rfl, _⟩ := h
    rfl
  · obtain ⟨a, d, rfl, hs, k⟩ := h
    have hu := hu_of hr
    refine ⟨_, (pss_cons (ps_if (PW.pt (pw_or (pt_val (pe_callB call_isi (by rfl) T.n_isinstance bo_isinstance (pa_cons (pv 1) (pa_cons (pe_bltn (v := .ty "tuple") (by rfl) T.n_tuple bo_tuple rfl) pa_nil)))) (pw_or1 (pt_val (pe_callB call_isi (by rfl) T.n_isinstance bo_isinstance (pa_cons (pv 1) (pa_cons (pe_bltn (v := .ty "list") (by rfl) T.n_list bo_list rfl) pa_nil)))))))
  (pss_cons (ps_if (PW.pt (pw_or (pt_cmpR op_ne (pe_callB call_isi (by rfl) T.n_isinstance bo_isinstance (pa_cons (pv 1) (pa_cons (pe_bltn (v := .ty "tuple") (by rfl) T.n_tuple bo_tuple rfl) pa_nil))) (pe_callB call_isi (by rfl) T.n_isinstance bo_isinstance (pa_cons (pv 0) (pa_cons (pe_bltn (v := .ty "tuple") (by rfl) T.n_tuple bo_tuple rfl) pa_nil))) (nomark _)) (pw_or1 (pt_cmpR op_ne (pe_callB call_isi (by rfl) T.n_isinstance bo_isinstance (pa_cons (pv 1) (pa_cons (pe_bltn (v := .ty "list") (by rfl) T.n_list bo_list rfl) pa_nil))) (pe_callB call_isi (by rfl) T.n_isinstance bo_isinstance (pa_cons (pv 0) (pa_cons (pe_bltn (v := .ty "list") (by rfl) T.n_list bo_list rfl) pa_nil))) (nomark _)))))
    (pss_one (ps_ret pe_bl))
    pss_nil)
  (pss_cons (ps_if (pt_cmpR op_ne (pe_callB call_len_seq (by rfl) T.n_len bo_len (pa_cons (pv 0) pa_nil)) (pe_callB call_len_seq (by rfl) T.n_len bo_len (pa_cons (pv 1) pa_nil)) (nomark _))
    (pss_one (ps_ret pe_bl))
    pss_nil)
  (pss_cons (ps_for PassesOwn.never rfl (pi_range1 (by rfl) T.n_range (pa_cons (pe_callB call_len_seq (by rfl) T.n_len bo_len (pa_cons (pv 1) pa_nil)) pa_nil)) (pg_name (i := 2) sc_law_same.nd rfl (by first | exact Or.inl rfl | exact Or.inr rfl))
    (pss_one (ps_if (pt_not (pt_val (pe_c c_law_same hr (by first | exact Nat.le_refl _ | decide | omega) rfl (pa_cons (pe_ix ix_seq (pv 0) (pv 2) (fun _ _ => rfl)) (pa_cons (pe_ix ix_seq (pv 1) (pv 2) (fun _ _ => rfl)) pa_nil)))))
      (pss_one (ps_ret pe_bl))
      pss_nil)))
  (pss_one (ps_ret pe_bl)))))
  pss_nil)
(pss_cons (ps_if (PW.pt (pw_or (pt_cmpR op_isN (pv 1) pe_non (nomark _)) (pw_or1 (pt_val (pe_callB call_isi (by rfl) T.n_isinstance bo_isinstance (pa_cons (pv 1) (pa_cons (pe_bltn (v := .ty "bool") (by rfl) T.n_bool bo_bool rfl) pa_nil)))))))
  (pss_one (ps_ret (pe_and (pe_cmpR op_eq (pe_cmpR op_isN (pv 0) pe_non (nomark _)) (pe_cmpR op_isN (pv 1) pe_non (nomark _)) (nomark _)) (pe_and (pe_or (pe_cmpR op_isN (pv 1) pe_non (nomark _)) (pe_one (pe_callB call_isi (by rfl) T.n_isinstance bo_isinstance (pa_cons (pv 0) (pa_cons (pe_bltn (v := .ty "bool") (by rfl) T.n_bool bo_bool rfl) pa_nil))))) (pe_one (pe_cmpR op_eq (pv 0) (pv 1) (nomark _)))))))
  pss_nil)
(pss_cons (ps_if (pt_val (pe_callB call_isi (by rfl) T.n_isinstance bo_isinstance (pa_cons (pv 1) (pa_cons (pe_bltn (v := .ty "int") (by rfl) T.n_int bo_int rfl) pa_nil))))
  (pss_one (ps_ret (pe_and (pe_callB call_isi (by rfl) T.n_isinstance bo_isinstance (pa_cons (pv 0) (pa_cons (pe_bltn (v := .ty "int") (by rfl) T.n_int bo_int rfl) pa_nil))) (pe_and (pe_not (pe_callB call_isi (by rfl) T.n_isinstance bo_isinstance (pa_cons (pv 0) (pa_cons (pe_bltn (v := .ty "bool") (by rfl) T.n_bool bo_bool rfl) pa_nil)))) (pe_one (pe_cmpR op_eq (pv 0) (pv 1) (nomark _)))))))
  pss_nil)
(pss_one (ps_ret (pe_and (pe_callB call_isi (by rfl) T.n_isinstance bo_isinstance (pa_cons (pv 0) (pa_cons (pe_bltn (v := .ty "str") (by rfl) T.n_str bo_str rfl) pa_nil))) (pe_one (pe_cmpR op_eq (pv 0) (pv 1) (nomark _))))))))), ?_⟩
    -- the part behind the lengths, for lists and for tuples
    rcases hs with ⟨rfl, ⟨x, rfl⟩ | ⟨x, rfl⟩ | ⟨x, rfl⟩ | rfl⟩ | ⟨p, q, xs, ys, rfl, rfl, hh, hl, hz, hall⟩
    · refine ⟨_, rfl, _, _, _, _, _, rfl, .ty _, .base (.str x), kST, _, rfl, iteF ⟨_, rfl, _, _, _, _, _, rfl, .ty _, .base (.str x), kSL, _, rfl, iteF ?_⟩⟩
      refine ⟨_, rfl, rfl, _, rfl, iteDF (by simp) ⟨_, rfl, _, _, _, _, _, rfl, .ty _, .base (.str x), kSB, _, rfl, iteF ?_⟩⟩
      refine ⟨_, rfl, _, _, _, _, _, rfl, .ty _, .base (.str x), kSI, _, rfl, iteF ?_⟩
      refine ⟨_, rfl, _, _, _, _, _, rfl, .ty _, .base (.str x), kSS, _, rfl, iteT ⟨_, rfl, _, rfl, rfl, ?_⟩⟩
      rw [decide_eq_true rfl]; exact k
    · refine ⟨_, rfl, _, _, _, _, _, rfl, .ty _, .base (.int x), kIT, _, rfl, iteF ⟨_, rfl, _, _, _, _, _, rfl, .ty _, .base (.int x), kIL, _, rfl, iteF ?_⟩⟩
      refine ⟨_, rfl, rfl, _, rfl, iteDF (by simp) ⟨_, rfl, _, _, _, _, _, rfl, .ty _, .base (.int x), kIB, _, rfl, iteF ?_⟩⟩
      refine ⟨_, rfl, _, _, _, _, _, rfl, .ty _, .base (.int x), kII, _, rfl, iteT ?_⟩
      refine ⟨_, rfl, _, _, _, _, _, rfl, .ty _, .base (.int x), kII, _, rfl, iteT ⟨_, rfl, _, _, _, _, _, rfl, .ty _, .base (.int x), kIB, _, rfl, _, rfl, iteT ⟨_, rfl, _, rfl, rfl, ?_⟩⟩⟩
      rw [decide_eq_true rfl]; exact k
    · refine ⟨_, rfl, _, _, _, _, _, rfl, .ty _, .base (.bl x), kBT, _, rfl, iteF ⟨_, rfl, _, _, _, _, _, rfl, .ty _, .base (.bl x), kBL, _, rfl, iteF ?_⟩⟩
      refine ⟨_, rfl, rfl, _, rfl, iteDF (by simp) ⟨_, rfl, _, _, _, _, _, rfl, .ty _, .base (.bl x), kBB, _, rfl, iteT ?_⟩⟩
      refine ⟨_, rfl, rfl, _, rfl, rfl, rfl, _, rfl, iteDT (by simp) ?_⟩
      refine ⟨_, rfl, rfl, _, rfl, iteDF (by simp) ?_⟩
      refine ⟨_, rfl, _, _, _, _, _, rfl, .ty _, .base (.bl x), kBB, ?_⟩
      refine ⟨_, rfl, iteT ⟨_, rfl, _, rfl, rfl, ?_⟩⟩
      rw [decide_eq_true rfl]; exact k
    · refine ⟨_, rfl, _, _, _, _, _, rfl, .ty _, .base .non, kNT, _, rfl, iteF ⟨_, rfl, _, _, _, _, _, rfl, .ty _, .base .non, kNL, _, rfl, iteF ?_⟩⟩
      refine ⟨_, rfl, rfl, _, rfl, iteDT (by simp) ?_⟩
      refine ⟨_, rfl, rfl, _, rfl, rfl, rfl, _, rfl, iteDT (by simp) ?_⟩
      refine ⟨_, rfl, rfl, _, rfl, iteDT (by simp) ?_⟩
      refine ⟨_, rfl, iteT ⟨_, rfl, _, rfl, rfl, ?_⟩⟩
      rw [decide_eq_true rfl]; exact k
    · obtain ⟨t, b1, b2, ty1, ty2, k1, k2, hb, sq⟩ : ∃ (t : Value) (b1 b2 : Bool), TyX K H (.ref p) t ∧ TyX K H (.ref q) t ∧ PySem.W.kitOne K t (.type "tuple") = some b1 ∧ PySem.W.kitOne K t (.type "list") = some b2 ∧ (b1 = true ∨ b2 = true) ∧
          ((SqL K H p xs ∧ SqL K H q ys) ∨ (SqT K H p xs ∧ SqT K H q ys)) := by
        rcases hh with ⟨h1, h2⟩ | ⟨h1, h2⟩
        · exact ⟨_, _, _, .base (.lst h1), .base (.lst h2), kLT, kLL, .inr rfl, .inl ⟨SqL.of h1, SqL.of h2⟩⟩
        · exact ⟨_, _, _, .base (.tup h1), .base (.tup h2), kTT, kTL, .inl rfl, .inr ⟨SqT.of h1, SqT.of h2⟩⟩
      have sqp : SqL K H p xs ∨ SqT K H p xs := sq.elim (fun z => .inl z.1) fun z => .inr z.1
      have sqq : SqL K H q ys ∨ SqT K H q ys := sq.elim (fun z => .inl z.2) fun z => .inr z.2
      have bz : (ys.length : Int) < 2 ^ 62 := by
        have e : sizeLine = 16777216 := sizeLine_eq
        have : ys.length ≤ 16777216 := by omega
        omega
      -- the part behind the first test
      have rest : ∀ {D : Ends} {t1 : TS}, t1 D [some (.ref p), some (.ref q), none] H → t1 D [some (.ref p), some (.ref q), none] H := fun z => z
      refine ⟨_, rfl, _, _, _, _, _, rfl, .ty _, ty2, k1, _, rfl, iteB (fun e1 => ?_) (fun e1 => ⟨_, rfl, _, _, _, _, _, rfl, .ty _, ty2, k2, _, rfl, iteB (fun e2 => ?_) (fun e2 => ?_)⟩)⟩
      rotate_left 2
      · rcases hb with z | z
        · rw [e1] at z; cases z
        · rw [e2] at z; cases z
      all_goals
        refine ⟨_, rfl, _, _, _, _, _, rfl, .ty _, ty2, k1, _, rfl, _, _, _, _, _, rfl, .ty _, ty1, k1, rfl, _, rfl, iteNF (by simp) ?_⟩
        refine ⟨_, rfl, _, _, _, _, _, rfl, .ty _, ty2, k2, _, rfl, _, _, _, _, _, rfl, .ty _, ty1, k2, rfl, _, rfl, iteNF (by simp) ?_⟩
        refine ⟨_, rfl, _, _, rfl, sqp, _, rfl, _, _, rfl, sqq, rfl, _, rfl, iteNF (by rw [hl]) ?_⟩
        refine ⟨_, rfl, _, _, rfl, sqq, _, rfl, by omega, bz, for_range (lo := 0) (n := ys.length) (fun i σ H' => ∃ kv, σ = [some (.ref p), some (.ref q), kv] ∧ H' = H) ⟨none, rfl, rfl⟩ ?_ ?_⟩
        · rintro i σ H' hi ⟨kv, rfl, rfl⟩
          have hx : xs[i]? = some (xs[i]'(by omega)) := List.getElem?_eq_getElem _
          have hy : ys[i]? = some ys[i] := List.getElem?_eq_getElem _
          have e0 : (0 : Int) + (i : Int) = (i : Int) := by omega
          rw [e0]
          rcases sq with ⟨s1, s2⟩ | ⟨s1, s2⟩
          · refine ⟨_, rfl, _, rfl, .inl ⟨_, _, _, _, rfl, rfl, s1, atI_nat hx, _, rfl, _, rfl, .inl ⟨_, _, _, _, rfl, rfl, s2, atI_nat hy, ?_⟩⟩⟩
            exact ⟨_, _, rfl, hall i _ _ hx hy, _, rfl, iteF ⟨_, rfl, rfl⟩⟩
          · refine ⟨_, rfl, _, rfl, .inr (.inl ⟨_, _, _, _, rfl, rfl, s1, atI_nat hx, _, rfl, _, rfl, .inr (.inl ⟨_, _, _, _, rfl, rfl, s2, atI_nat hy, ?_⟩)⟩)⟩
            exact ⟨_, _, rfl, hall i _ _ hx hy, _, rfl, iteF ⟨_, rfl, rfl⟩⟩
        · rintro σ H' ⟨kv, rfl, rfl⟩
          exact k
end

/-! what == says of two tables; the same data twice -/
theorem pl_fr (r : Fr) : PlD (dFr r) = true := rfl
theorem pl_cel (c : Cel) : PlD (dCel c) = true := rfl
theorem pl_map {α : Type} {f : α → PyData} (h : ∀ a, PlD (f a) = true) : ∀ l : List α, PlDs (l.map f) = true
  | [] => rfl
  | a :: l => by
    rw [List.map_cons]
    show (PlD (f a) && PlDs (l.map f)) = true
    rw [h a, pl_map h l]; rfl
theorem pl_tb (tb : Tab) : PlD (dTb tb) = true := pl_map (f := dRw) (fun r => pl_map (f := dCel) pl_cel r) tb
theorem map_inj {α : Type} {f : α → PyData} (h : ∀ a b, f a = f b → a = b) : ∀ {l m : List α}, l.map f = m.map f → l = m
  | [], [], _ => rfl
  | a :: l, b :: m, e => by
    simp only [List.map_cons, List.cons.injEq] at e
    rw [h a b e.1, map_inj h e.2]
  | [], _ :: _, e => by simp at e
  | _ :: _, [], e => by simp at e
theorem dFr_inj {a b : Fr} (h : dFr a = dFr b) : a = b := by
  simp only [dFr, PyData.tuple.injEq, List.cons.injEq, PyData.int.injEq] at h
  exact Prod.ext h.1 h.2.1
theorem dCel_inj (a b : Cel) (h : dCel a = dCel b) : a = b := by
  simp only [dCel, PyData.tuple.injEq, List.cons.injEq] at h
  exact Prod.ext (dFr_inj h.1) (dFr_inj h.2.1)
theorem dRw_inj (a b : List Cel) (h : dRw a = dRw b) : a = b := by
  simp only [dRw, PyData.tuple.injEq] at h
  exact map_inj dCel_inj h
theorem dTb_inj {a b : Tab} (h : dTb a = dTb b) : a = b := by
  simp only [dTb, PyData.tuple.injEq] at h
  exact map_inj dRw_inj h
theorem canLay_map {α : Type} {f : α → PyData} (h : ∀ a, (f a).canLay0 = true) : ∀ l : List α, PyData.canLayAll0 (l.map f) = true
  | [] => rfl
  | a :: l => by
    rw [List.map_cons]
    show ((f a).canLay0 && PyData.canLayAll0 (l.map f)) = true
    rw [h a, canLay_map h l]; rfl
theorem depth_map {α : Type} {f : α → PyData} {n : Nat} (h : ∀ a, (f a).depth ≤ n) : ∀ l : List α, PyData.depthAll (l.map f) ≤ n
  | [] => by simp [PyData.depthAll]
  | a :: l => by
    have h1 := h a
    have h2 := depth_map h l
    simp only [List.map_cons, PyData.depthAll]; omega
theorem depth_cel (c : Cel) : (dCel c).depth ≤ 10 := by
  simp only [dCel, dFr, PyData.depth, PyData.depthAll]; omega
theorem depth_rw (r : List Cel) : (dRw r).depth ≤ 11 := by
  have := depth_map depth_cel r
  simp only [dRw, PyData.depth]; omega
theorem shaped_tb (tb : Tab) : SeqAt.shaped (dTb tb) = true := by
  unfold SeqAt.shaped
  rw [Bool.and_eq_true]
  refine ⟨canLay_map (f := dRw) (fun r => canLay_map (f := dCel) (fun c => rfl) r) tb, decide_eq_true ?_⟩
  have := depth_map depth_rw tb
  simp only [dTb, PyData.depth]; omega
theorem eqv_tb (a b : Tab) : PyData.eqv (dTb a) (dTb b) = decide (a = b) := by
  by_cases h : a = b
  · subst h
    rw [decide_eq_true rfl]
    exact SeqAt.eqv_refl _ (SeqAt.canLay_of_shaped (shaped_tb a))
  · rw [decide_eq_false h]
    cases e : PyData.eqv (dTb a) (dTb b) with
    | false => rfl
    | true => exact absurd (dTb_inj (eqv_pl _ _ (pl_tb a) (pl_tb b) e)) h
/-- data of at most n levels -/
def Lv : Nat → PyData → Prop
  | 0, _ => False
  | n + 1, d => (∃ i, d = .int i) ∨ ∃ ds, d = .tuple ds ∧ ds.length ≤ 1000 ∧ ∀ e ∈ ds, Lv n e
theorem TDs.at {H : Hp} {vs : List V} {ds : List PyData} (h : TDs H vs ds) {i : Nat} {v : V} (e : vs[i]? = some v) : ∃ d, ds[i]? = some d ∧ TD H v d := by
  have hi := (List.getElem?_eq_some_iff.mp e).1
  have hl := h.length
  obtain ⟨v', h1, h2⟩ := h.get (i := i) (d := ds[i]'(by omega)) (List.getElem?_eq_getElem (by omega))
  rw [e] at h1
  cases h1
  exact ⟨_, List.getElem?_eq_getElem (by omega), h2⟩
theorem same_lv : ∀ {n : Nat} {H : Hp} {d : PyData} {a b : V}, Lv n d → TD H a d → TD H b d → SameV n H a b
  | 0, _, _, _, _, h, _, _ => h.elim
  | n + 1, H, d, a, b, h, ha, hb => by
    rcases h with ⟨i, rfl⟩ | ⟨ds, rfl, hl, hd⟩
    · cases ha
      cases hb
      exact .inl ⟨rfl, .inr (.inl ⟨i, rfl⟩)⟩
    · obtain ⟨p, xs, rfl, hp, hx⟩ := DT.of ha
      obtain ⟨q, ys, rfl, hq, hy⟩ := DT.of hb
      refine .inr ⟨p, q, xs, ys, rfl, rfl, .inr ⟨hp, hq⟩, by rw [hx.length, hy.length], by rw [hx.length]; exact smallM (by omega), fun i x y h1 h2 => ?_⟩
      obtain ⟨e, e1, e2⟩ := hx.at h1
      obtain ⟨e', e3, e4⟩ := hy.at h2
      rw [e1] at e3
      cases e3
      exact same_lv (hd e (List.mem_of_getElem? e1)) e2 e4
theorem lv_fr (r : Fr) : Lv 2 (dFr r) := .inr ⟨_, rfl, by simp, fun e he => by
  simp only [List.mem_cons, List.not_mem_nil, or_false] at he
  rcases he with rfl | rfl
  · exact .inl ⟨_, rfl⟩
  · exact .inl ⟨_, rfl⟩⟩
theorem lv_tb {tb : Tab} (ok : okT tb = true) : Lv 5 (dTb tb) := by
  obtain ⟨o1, o2, o3, o4, o5⟩ := okT_iff ok
  refine .inr ⟨_, rfl, by rw [List.length_map]; omega, fun e he => ?_⟩
  obtain ⟨r, hr, rfl⟩ := List.mem_map.mp he
  refine .inr ⟨_, rfl, by rw [List.length_map, o5 r hr]; omega, fun e he => ?_⟩
  obtain ⟨c, hc, rfl⟩ := List.mem_map.mp he
  refine .inr ⟨_, rfl, by simp, fun e he => ?_⟩
  simp only [List.mem_cons, List.not_mem_nil, or_false] at he
  rcases he with rfl | rfl
  · exact lv_fr _
  · exact lv_fr _
theorem SameV.up : ∀ {n : Nat} {H : Hp} {a b : V}, SameV n H a b → SameV (n + 1) H a b
  | 0, _, _, _, h => h.elim
  | n + 1, H, a, b, h => by
    rcases h with h | ⟨p, q, xs, ys, e1, e2, h1, h2, h3, h4⟩
    · exact .inl h
    · exact .inr ⟨p, q, xs, ys, e1, e2, h1, h2, h3, fun i x y a b => (h4 i x y a b).up⟩
theorem same_bools {n : Nat} {H : Hp} {p q : Addr} {bs : List Bool} (h1 : H p = some (.lst (bs.map V.bl))) (h2 : H q = some (.lst (bs.map V.bl))) (hl : bs.length ≤ 1000) : SameV (n + 2) H (.ref p) (.ref q) := by
  refine .inr ⟨p, q, _, _, rfl, rfl, .inl ⟨h1, h2⟩, rfl, by rw [List.length_map]; exact smallM (by omega), fun i x y hx hy => ?_⟩
  rw [hx] at hy; cases hy
  rw [List.getElem?_map] at hx
  obtain ⟨b, _, rfl⟩ := Option.map_eq_some_iff.mp hx
  exact .inl ⟨rfl, .inr (.inr (.inl ⟨b, rfl⟩))⟩
/-! what _law_plain makes of a table -/
def DenB (tb : Tab) : Prop := ∀ r ∈ tb, ∀ c ∈ r, c.1.2.natAbs < 2 ^ 8000 ∧ c.2.2.natAbs < 2 ^ 8000
theorem frB_den {a b : Nat} {r : Fr} (h : FrB a b r) (hb : b < 8000) : r.2.natAbs < 2 ^ 8000 := Nat.lt_of_le_of_lt h.2.2 (Nat.pow_lt_pow_right (by decide) hb)
theorem TbB.den {tb : Tab} (h : TbB tb) : DenB tb := fun r hr c hc => ⟨frB_den (h r hr c hc).1 (by decide), frB_den (h r hr c hc).2 (by decide)⟩
theorem plv_tb {C t : Addr} {H : Hp} {tb : Tab} (h : TbAt C H t tb) (ok : okT tb = true) (hr : RedTb tb) (hd : DenB tb) : PlV C 4 H (.ref t) (dTb tb) := by
  obtain ⟨vs, h1, h2⟩ := h
  obtain ⟨o1, o2, o3, o4, o5⟩ := okT_iff ok
  have hl := h2.1
  refine .inr ⟨t, vs, _, rfl, h1, rfl, by rw [List.length_map]; exact hl, by omega, fun i u e hu he => ?_⟩
  obtain ⟨r, hri, hrw⟩ := h2.get hu
  rw [List.getElem?_map, hri] at he
  cases he
  have hrm := List.mem_of_getElem? hri
  obtain ⟨rt, cs, rfl, h3, h4⟩ := hrw
  have hl2 := h4.1
  have := o5 r hrm
  refine .inr ⟨rt, cs, _, rfl, h3, rfl, by rw [List.length_map]; exact hl2, by omega, fun i u e hu he => ?_⟩
  obtain ⟨c, hci, hcel⟩ := h4.get hu
  rw [List.getElem?_map, hci] at he
  cases he
  have hcm := List.mem_of_getElem? hci
  obtain ⟨ct, p, q, rfl, h5, h6, h7⟩ := hcel
  obtain ⟨r1, r2⟩ := hr r hrm c hcm
  obtain ⟨d1, d2⟩ := hd r hrm c hcm
  refine .inr ⟨ct, _, _, rfl, h5, rfl, rfl, by simp, fun i u e hu he => ?_⟩
  cases i with
  | zero => simp at hu he; subst hu he; exact .inl ⟨p, c.1, rfl, h6, r1, d1, rfl⟩
  | succ i =>
    cases i with
    | zero => simp at hu he; subst hu he; exact .inl ⟨q, c.2, rfl, h7, r2, d2, rfl⟩
    | succ i => simp at hu
theorem redT_id {tb : Tab} (h : RedTb tb) : redT tb = tb := by
  unfold redT
  have : ∀ r ∈ tb, (r.map fun c => ((redN c.1.1 c.1.2, redD c.1.1 c.1.2), (redN c.2.1 c.2.2, redD c.2.1 c.2.2))) = id r := fun r hr => by
    have e : ∀ c ∈ r, ((redN c.1.1 c.1.2, redD c.1.1 c.1.2), (redN c.2.1 c.2.2, redD c.2.1 c.2.2)) = id c := fun c hc => by
      obtain ⟨⟨_, a1, a2⟩, ⟨_, b1, b2⟩⟩ := h r hr c hc
      rw [a1, a2, b1, b2]; rfl
    rw [List.map_congr_left e, List.map_id]; rfl
  rw [List.map_congr_left this, List.map_id]
theorem okT_red (tb : Tab) : okT (redT tb) = okT tb := by
  have hh : ((redT tb).headD []).length = (tb.headD []).length := by
    cases tb with
    | nil => rfl
    | cons r l => show (r.map _).length = r.length; rw [List.length_map]
  have hl : (redT tb).length = tb.length := by unfold redT; rw [List.length_map]
  have ha : ((redT tb).all fun r => decide (r.length = ((redT tb).headD []).length)) = tb.all fun r => decide (r.length = (tb.headD []).length) := by
    rw [hh]
    unfold redT
    rw [List.all_map]
    congr 1
    funext r
    show decide ((r.map _).length = _) = _
    rw [List.length_map]
  unfold okT
  rw [hl, hh] at *
  rw [ha]
theorem turn_turn {tb : Tab} (ok : okT tb = true) : turnT (turnT tb) = tb := by
  obtain ⟨o1, o2, o3, o4, o5⟩ := okT_iff ok
  refine List.ext_getElem? fun i => ?_
  by_cases hi : i < tb.length
  · have e1 : (turnT (turnT tb))[i]? = some ((turnT tb).map fun r => swC (r.getD i c0)) := by
      unfold turnT
      rw [List.getElem?_map, List.getElem?_range]
      · rfl
      · have := turn_head ok
        unfold turnT at this
        rw [this]; exact hi
    rw [e1, List.getElem?_eq_getElem hi]
    congr 1
    refine List.ext_getElem? fun j => ?_
    have hw := o5 tb[i] (List.getElem_mem hi)
    rw [List.getElem?_map]
    by_cases hj : j < (tb.headD []).length
    · have e2 : (turnT tb)[j]? = some (tb.map fun r => swC (r.getD j c0)) := by unfold turnT; rw [List.getElem?_map, List.getElem?_range hj]; rfl
      rw [e2, List.getElem?_eq_getElem (by omega)]
      show some (swC ((tb.map fun r => swC (r.getD j c0)).getD i c0)) = _
      rw [List.getD_eq_getElem?_getD, List.getElem?_map, List.getElem?_eq_getElem hi]
      show some (swC (swC (tb[i].getD j c0))) = _
      rw [List.getD_eq_getElem?_getD, List.getElem?_eq_getElem (by omega)]; rfl
    · rw [List.getElem?_eq_none (by rw [turnT_len]; omega), List.getElem?_eq_none (by omega)]; rfl
  · rw [List.getElem?_eq_none (by rw [turnT_len, turn_head ok]; omega), List.getElem?_eq_none (by omega)]
theorem RedTb.turn {tb : Tab} (h : RedTb tb) (ok : okT tb = true) : RedTb (turnT tb) := fun r hr c hc => by
  unfold turnT at hr
  obtain ⟨j, hj, rfl⟩ := List.mem_map.mp hr
  obtain ⟨q, hq, rfl⟩ := List.mem_map.mp hc
  have hl := (okT_iff ok).2.2.2.2 q hq
  have hj' := List.mem_range.mp hj
  have e : q.getD j c0 = q[j]'(by omega) := by rw [List.getD_eq_getElem?_getD, List.getElem?_eq_getElem (by omega)]; rfl
  rw [e]
  have := h q hq _ (List.getElem_mem (h := show j < q.length by omega))
  exact ⟨this.2, this.1⟩
/-! mixes -/
theorem mix_wri (ws : List Int) : mixR ws = wri ws ws.sum := rfl
theorem mix_wk {n : Nat} {ws : List Int} (h : SumOk n ws) (hn : n ≤ 8) : WK ws ws.sum := by
  obtain ⟨h1, h2, h3⟩ := h
  have hs := sum_nn h2
  have big : ∀ {m : Nat}, m ≤ 2 ^ 10 → m < 2 ^ 200 := fun h => Nat.lt_of_le_of_lt h (Nat.pow_lt_pow_right (by decide) (by decide))
  exact ⟨h3, by omega, fun x hx => big (by have := h2 x hx; omega), big (by omega)⟩
theorem mix_ok {n : Nat} {ws : List Int} (h : SumOk n ws) (hn : n ≤ 8) : (mixR ws).length = n ∧ ∀ r ∈ mixR ws, RedOk r ∧ FrB 10 10 r := by
  obtain ⟨h1, h2, h3⟩ := h
  have hs := sum_nn h2
  refine ⟨by unfold mixR; rw [List.length_map]; exact h1, fun r hr => ?_⟩
  obtain ⟨x, hx, rfl⟩ := List.mem_map.mp hr
  have hx2 := h2 x hx
  exact ⟨red_idem (by omega), FrB.red (r := (x, ws.sum)) ⟨by show 0 < ws.sum; omega, by show x.natAbs < 2 ^ 10; omega, by show ws.sum.natAbs ≤ 2 ^ 10; omega⟩⟩
theorem mix_lots {n : Nat} {ws : List Int} (h : SumOk n ws) : lotB ws ws.sum = true := by
  unfold lotB
  rw [decide_eq_true rfl, Bool.true_and, List.all_eq_true]
  exact fun x hx => decide_eq_true (h.2.1 x hx).1
theorem red_scale {k n d : Int} (hk : 0 < k) (hd : 0 < d) : redN (k * n) (k * d) = redN n d ∧ redD (k * n) (k * d) = redD n d := by
  have := red_eq (red_idem (n := k * n) (Int.mul_pos hk hd)) (red_idem (n := n) hd) (by
    unfold val
    rw [val_red (by have := Int.mul_pos hk hd; omega), val_red (by omega)]
    exact Rat.divInt_mul_left (by omega))
  exact ⟨congrArg Prod.fst this, congrArg Prod.snd this⟩
theorem more_wri {n : Nat} {ws : List Int} (h : SumOk n ws) : wri (ws.map (7 * ·) ++ [ws.sum]) (7 * ws.sum) = wri ws ws.sum ++ [(1, 7)] := by
  have hp : 0 < ws.sum := by have := h.2.2; omega
  unfold wri
  rw [List.map_append, List.map_map]
  congr 1
  · refine List.map_congr_left fun x _ => ?_
    obtain ⟨a, b⟩ := red_scale (k := 7) (n := x) (by decide) hp
    show (redN (7 * x) (7 * ws.sum), redD (7 * x) (7 * ws.sum)) = _
    rw [a, b]
  · obtain ⟨a, b⟩ := red_scale (k := ws.sum) (n := 1) (d := 7) hp (by decide)
    rw [Int.mul_one, Int.mul_comm ws.sum 7] at a b
    rw [List.map_cons, List.map_nil, a, b]
    rfl
theorem sum_scale7 : ∀ ws : List Int, (ws.map (7 * ·)).sum = 7 * ws.sum
  | [] => rfl
  | x :: ws => by rw [List.map_cons, List.sum_cons, List.sum_cons, sum_scale7 ws, Int.mul_add]
theorem more_not {n : Nat} {ws : List Int} (h : SumOk n ws) : lotB (ws.map (7 * ·) ++ [ws.sum]) (7 * ws.sum) = false := by
  have hp := h.2.2
  unfold lotB
  rw [decide_eq_false, Bool.false_and]
  rw [List.sum_append, sum_scale7]
  simp
  omega
theorem more_wk {n : Nat} {ws : List Int} (h : SumOk n ws) (hn : n ≤ 8) : WK (ws.map (7 * ·) ++ [ws.sum]) (7 * ws.sum) := by
  obtain ⟨h1, h2, h3⟩ := h
  have hs := sum_nn h2
  have big : ∀ {m : Nat}, m ≤ 2 ^ 10 → m < 2 ^ 200 := fun h => Nat.lt_of_le_of_lt h (Nat.pow_lt_pow_right (by decide) (by decide))
  refine ⟨by omega, by rw [List.length_append, List.length_map]; simp; omega, fun x hx => ?_, big (by omega)⟩
  rcases List.mem_append.mp hx with hx | hx
  · obtain ⟨y, hy, rfl⟩ := List.mem_map.mp hx
    have := h2 y hy
    exact big (by show (7 * y).natAbs ≤ _; omega)
  · rw [List.mem_singleton.mp hx]; exact big (by omega)
theorem redF_map {rs : List Fr} (h : ∀ r ∈ rs, RedOk r) : rs.map redF = rs := by
  have : ∀ r ∈ rs, redF r = id r := fun r hr => by
    obtain ⟨_, a, b⟩ := h r hr
    unfold redF
    rw [a, b]; rfl
  rw [List.map_congr_left this, List.map_id]
theorem frs_td {H : Hp} {us : List V} {rs : List Fr} (h : All2 (FrAt H) us rs) : TDs H us (rs.map dFr) := by
  induction rs generalizing us with
  | nil =>
    have := h.1
    cases us with
    | nil => exact .nil
    | cons _ _ => simp at this
  | cons r rs ih =>
    cases us with
    | nil => have := h.1; simp at this
    | cons v us =>
      refine .cons (h.2 0 v r rfl rfl).td (ih ⟨by have := h.1; simpa using this, fun i u x a b => h.2 (i + 1) u x (by simpa using a) (by simpa using b)⟩)

def sp_law (K : PySem.W.Frag) : Sp := fun vs H Q _ => ∃ (a : Addr) (ns : List Int), vs = [.ref a] ∧ SqL K H a (ns.map V.int) ∧ ∀ H', Q (.bl true) H'
theorem GnAt.ki {CG CR g : Addr} {H H' : Hp} {tb : Tab} (k : KI H H') (h : GnAt CG CR H g tb) : GnAt CG CR H' g tb := by
  obtain ⟨dx, t, h1, h2⟩ := h
  exact ⟨dx, t, k.2 _ _ _ _ h1, h2.ki k⟩
theorem Pool.ki {H H' : Hp} {p q : Addr} {is : List Int} (h : Pool H p q is) (k : Keep [p] H H') : KI H H' := by
  obtain ⟨_, _, _, _, _, h, _⟩ := h
  exact ⟨fun b xs hb => k _ _ hb (by simpa using ne_of hb h (by intro z; cases z)), fun b C dx fs hb => k _ _ hb (by simpa using ne_of hb h (by intro z; cases z))⟩
structure LW (CG CR : Addr) (H : Hp) (p q : Addr) (is : List Int) (t : Addr) (us : List V) (tb : Tab) (g : Addr) : Prop where
  P : Pool H p q is
  T : H t = some (.tup us)
  S : TDs H us (tb.map dRw)
  G : GnAt CG CR H g tb
theorem LW.keep {CG CR : Addr} {H H' : Hp} {p q : Addr} {is : List Int} {t : Addr} {us : List V} {tb : Tab} {g : Addr} (h : LW CG CR H p q is t us tb g) (k : Keep [] H H') : LW CG CR H' p q is t us tb g :=
  ⟨h.P.keep0 k, k _ _ h.T (by simp), h.S.tk k.tk, h.G.keep k⟩
theorem LW.draw {CG CR : Addr} {H H' : Hp} {p q : Addr} {is : List Int} {t : Addr} {us : List V} {tb : Tab} {g : Addr} (h : LW CG CR H p q is t us tb g) (P : Pool H' p q is) (k : Keep [p] H H') : LW CG CR H' p q is t us tb g :=
  ⟨P, h.P.tk k _ _ h.T, h.S.tk (h.P.tk k), h.G.ki (h.P.ki k)⟩
theorem LW.dt {CG CR : Addr} {H : Hp} {p q : Addr} {is : List Int} {t : Addr} {us : List V} {tb : Tab} {g : Addr} (h : LW CG CR H p q is t us tb g) : DT H (.ref t) (tb.map dRw) := ⟨t, us, rfl, h.T, h.S⟩
theorem geq_of {CG CR a b : Addr} {H : Hp} {tb tb' : Tab} {Q : VK} {r : Bool} (h : GnAt CG CR H a tb) (h' : GnAt CG CR H b tb') (e : decide (tb = tb') = r) (q : Q (.bl r) H) : rOwn CG (sp_geq CG CR) (.ref a) (.ref b) H Q := by
  obtain ⟨dx, t, h1, h2⟩ := id h
  obtain ⟨dy, t', g1, g2⟩ := id h'
  subst e
  exact ⟨a, b, dx, dy, _, _, rfl, rfl, h1, g1, a, b, tb, tb', rfl, h, h', q⟩
theorem okF_of {r : Fr} (h : RedOk r) (hd : r.2.natAbs < 2 ^ 8000) : okF r := ⟨by have := h.1; omega, hd⟩
/-- a row of cells is not the law's pool -/
theorem row_ne_p {C : Addr} {H : Hp} {p q rl : Addr} {is : List Int} {cs : List V} {r : List Cel} (P : Pool H p q is) (h : H rl = some (.lst cs)) (hc : All2 (CelIn C H) cs r) (h1 : 1 ≤ r.length) : rl ≠ p ∧ rl ≠ q := by
  obtain ⟨i1, i2, i3, i4, i5, hp, hq, _, _⟩ := P
  constructor
  · rintro rfl
    rw [hp] at h
    cases h
    obtain ⟨c, _, t, _, _, e, _⟩ := hc.get (i := 1) rfl
    cases e
  · rintro rfl
    rw [hq] at h
    cases h
    have hl := hc.1
    cases is with
    | nil => simp at hl; omega
    | cons z zs =>
      obtain ⟨c, _, t, _, _, e, _⟩ := hc.get (i := 0) rfl
      cases e
def spL (a p t cl g rl : Addr) (l : List (Option V)) : List (Option V) := [some (.ref a), some (.ref p), some (.ref t), some (.ref cl), some .non, some (.ref g), some (.ref rl)] ++ l
section
variable {P : Program} {w : World} {K : PySem.W.Frag} {mg : Str → Option Value} {base : Heap} {C_Ratio : Addr} {C_Gains : Addr} {C_GameError : Addr} {C_BadEdit : Addr} {C_BadPlan : Addr} {C_BadRatio : Addr} {C_BadText : Addr} {C_TooLarge : Addr} {C_BadGains : Addr} {f_BadGains___init : Addr}
theorem lists_rows {tb : Tab} (hr : ∀ r ∈ tb, r.length ≤ 100) (hc : RedTb tb) (hd : DenB tb) : ∀ r ∈ tb, r.length ≤ 100 ∧ ∀ c ∈ r, okF c.1 ∧ okF c.2 :=
  fun r hrm => ⟨hr r hrm, fun c hcm => ⟨okF_of (hc r hrm c hcm).1 (hd r hrm c hcm).1, okF_of (hc r hrm c hcm).2 (hd r hrm c hcm).2⟩⟩
theorem ok_law {f : Addr} {fd : FuncData} (F : C8.Fun K "law" "law" s_law f fd) (T : Txt K mg C_Ratio C_Gains C_GameError C_BadEdit C_BadPlan C_BadRatio C_BadText C_TooLarge C_BadGains) (c_law_pool : C8.Cal P w K mg base 1 "_law_pool" (sp_law_pool K) []) (c_law_draw : C8.Cal P w K mg base 1 "_law_draw" sp_law_draw []) (c_law_table : C8.Cal P w K mg base 4 "_law_table" sp_table []) (c_law_lists : C8.Cal P w K mg base 3 "_law_lists" (sp_lists C_Ratio) [])
    (c_law_told : C8.Cal P w K mg base 4 "_law_told" (sp_ltold C_Gains C_Ratio) []) (c_law_same : C8.Cal P w K mg base 6 "_law_same" (sp_law_same 6) []) (c_law_plain : C8.Cal P w K mg base 7 "_law_plain" (sp_plain C_Ratio 4) []) (c_law_wrong : C8.Cal P w K mg base 2 "_law_wrong" sp_wrong []) (c_law_unlike : C8.Cal P w K mg base 4 "_law_unlike" sp_unlike [])
    (c_Gains : C8.Mak P w K mg base 2 "Gains" C_Gains (fun vs H Q _ => sp_gains C_Gains C_Ratio C_BadGains vs H Q C8.E0) []) (c_turned : C8.Cal P w K mg base 4 "turned" (sp_turned C_Gains C_Ratio) []) (c_law_turned : C8.Cal P w K mg base 1 "_law_turned" sp_lturned []) (c_Gains_eq : Own P w K mg base 5 C_Gains "__eq__" (sp_geq C_Gains C_Ratio))
    (c_law_mix : C8.Cal P w K mg base 3 "_law_mix" sp_mix []) (c_law_row_made : C8.Cal P w K mg base 3 "_law_row_made" (sp_rmade C_Ratio) []) (c_are_lots : C8.Cal P w K mg base 2 "are_lots" (sp_alots C_Ratio) []) (c_Ratio2 : C8.Mak P w K mg base 1 "Ratio" C_Ratio (sp_rat C_Ratio) []) (c_gain : C8.Cal P w K mg base 7 "gain" (sp_gain C_Gains C_Ratio 2) [])
    (c_law_gain_due : C8.Cal P w K mg base 5 "_law_gain_due" sp_due []) (c_law_dot : C8.Cal P w K mg base 4 "_law_dot" sp_dot []) (c_law_row_gains : C8.Cal P w K mg base 5 "_law_row_gains" sp_rowg []) : FnOk P w K mg base C8.CX0 8 f fd ["script"] (sp_law K) := by
  refine fn0 F sc_law (fun vs H Q E h => ?_) (fun cdv A outer s H vs Q E hr h => ?_)
  · obtain ⟨a, ns, rfl, _⟩ := h
    rfl
  · obtain ⟨a, ns, rfl, hS, k⟩ := h
    refine ⟨_, (pss_cons (ps_set (i := 1) sc_law.nd rfl (by first | exact Or.inl rfl | exact Or.inr rfl) (pe_c c_law_pool hr (by first | exact Nat.le_refl _ | decide | omega) rfl (pa_cons (pv 0) (pa_cons pe_int pa_nil))))
(pss_cons (ps_set (i := 2) sc_law.nd rfl (by first | exact Or.inl rfl | exact Or.inr rfl) (pe_c c_law_table hr (by first | exact Nat.le_refl _ | decide | omega) rfl (pa_cons (pv 1) (pa_cons (pe_ix ix_tup (pe_tup (pa_cons pe_int (pa_cons pe_int pa_nil))) (pe_c c_law_draw hr (by first | exact Nat.le_refl _ | decide | omega) rfl (pa_cons (pv 1) (pa_cons pe_int pa_nil))) (fun _ _ => rfl)) pa_nil))))
(pss_cons (ps_set (i := 3) sc_law.nd rfl (by first | exact Or.inl rfl | exact Or.inr rfl) (pe_c c_law_lists hr (by first | exact Nat.le_refl _ | decide | omega) rfl (pa_cons (pv 2) pa_nil)))
(pss_cons (ps_asg (pe_c c_law_told hr (by first | exact Nat.le_refl _ | decide | omega) rfl (pa_cons (pv 3) pa_nil)) (pg_tup (by rfl) (pgs_cons (pg_name (i := 4) sc_law.nd rfl (by first | exact Or.inl rfl | exact Or.inr rfl)) (pgs_cons (pg_name (i := 5) sc_law.nd rfl (by first | exact Or.inl rfl | exact Or.inr rfl)) pgs_nil))))
(pss_cons (ps_if (pt_cmpR op_notN (pv 4) pe_non (nomark _))
  (pss_one (ps_ret pe_bl))
  pss_nil)
(pss_cons (ps_set (i := 6) sc_law.nd rfl (by first | exact Or.inl rfl | exact Or.inr rfl) (pe_ix ix_list (pv 3) pe_int (fun _ _ => rfl)))
(pss_cons (ps_expr (pe_bm PySem.F.plainAttrs_list PySem.F.slot_list_append PySem.F.type_list_append mt_append (pv 6) (pa_cons (pe_ix ix_list (pv 6) pe_int (fun _ _ => rfl)) pa_nil)))
(pss_cons (ps_expr (pe_bm PySem.F.plainAttrs_list PySem.F.slot_list_append PySem.F.type_list_append mt_append (pv 3) (pa_cons (pv 6) pa_nil)))
(pss_cons (ps_if (PW.pt (pw_or (pt_not (pt_val (pe_callB call_isi (by rfl) T.n_isinstance bo_isinstance (pa_cons (pv 5) (pa_cons (pe_glob (v := .ref _) rfl T.m_Gains rfl) pa_nil))))) (pw_or1 (pt_not (pt_val (pe_c c_law_same hr (by first | exact Nat.le_refl _ | decide | omega) rfl (pa_cons (pe_c c_law_plain hr (by first | exact Nat.le_refl _ | decide | omega) rfl (pa_cons (pe_fld (pv 5) rfl) pa_nil)) (pa_cons (pv 2) pa_nil))))))))
  (pss_one (ps_ret pe_bl))
  pss_nil)
(pss_cons (ps_for PassesOwn.never rfl (pi_list (pe_c c_law_wrong hr (by first | exact Nat.le_refl _ | decide | omega) rfl (pa_cons (pv 1) (pa_cons (pv 2) pa_nil)))) (pg_name (i := 7) sc_law.nd rfl (by first | exact Or.inl rfl | exact Or.inr rfl))
  (pss_one (ps_if (pt_cmpR op_ne (pe_ix ix_tup (pe_c c_law_told hr (by first | exact Nat.le_refl _ | decide | omega) rfl (pa_cons (pe_c c_law_lists hr (by first | exact Nat.le_refl _ | decide | omega) rfl (pa_cons (pv 7) pa_nil)) pa_nil)) pe_int (fun _ _ => rfl)) pe_str (nomark _))
    (pss_one (ps_ret pe_bl))
    pss_nil)))
(pss_cons (ps_set (i := 8) sc_law.nd rfl (by first | exact Or.inl rfl | exact Or.inr rfl) (pe_mk c_Gains hr (by first | exact Nat.le_refl _ | decide | omega) rfl (pa_cons (pe_c c_law_lists hr (by first | exact Nat.le_refl _ | decide | omega) rfl (pa_cons (pv 2) pa_nil)) pa_nil)))
(pss_cons (ps_set (i := 9) sc_law.nd rfl (by first | exact Or.inl rfl | exact Or.inr rfl) (pe_c c_turned hr (by first | exact Nat.le_refl _ | decide | omega) rfl (pa_cons (pv 5) pa_nil)))
(pss_cons (ps_if (pt_not (pt_val (pe_c c_law_same hr (by first | exact Nat.le_refl _ | decide | omega) rfl (pa_cons (pe_lst (pa_cons (pe_cmpR (op_own c_Gains_eq hr (by first | decide | omega)) (pv 5) (pv 8) (nomark _)) (pa_cons (pe_cmpR (op_own c_Gains_eq hr (by first | decide | omega)) (pv 8) (pv 5) (nomark _)) (pa_cons (pe_cmpR (op_own c_Gains_eq hr (by first | decide | omega)) (pv 9) (pe_mk c_Gains hr (by first | exact Nat.le_refl _ | decide | omega) rfl (pa_cons (pe_c c_law_lists hr (by first | exact Nat.le_refl _ | decide | omega) rfl (pa_cons (pe_c c_law_turned hr (by first | exact Nat.le_refl _ | decide | omega) rfl (pa_cons (pv 2) pa_nil)) pa_nil)) pa_nil)) (nomark _)) pa_nil)))) (pa_cons (pe_lst (pa_cons pe_bl (pa_cons pe_bl (pa_cons pe_bl pa_nil)))) pa_nil)))))
  (pss_one (ps_ret pe_bl))
  pss_nil)
(pss_cons (ps_for PassesOwn.never rfl (pi_list (pe_c c_law_unlike hr (by first | exact Nat.le_refl _ | decide | omega) rfl (pa_cons (pv 1) (pa_cons (pv 2) pa_nil)))) (pg_name (i := 10) sc_law.nd rfl (by first | exact Or.inl rfl | exact Or.inr rfl))
  (pss_cons (ps_set (i := 11) sc_law.nd rfl (by first | exact Or.inl rfl | exact Or.inr rfl) (pe_mk c_Gains hr (by first | exact Nat.le_refl _ | decide | omega) rfl (pa_cons (pe_c c_law_lists hr (by first | exact Nat.le_refl _ | decide | omega) rfl (pa_cons (pv 10) pa_nil)) pa_nil)))
  (pss_one (ps_if (pt_not (pt_val (pe_c c_law_same hr (by first | exact Nat.le_refl _ | decide | omega) rfl (pa_cons (pe_lst (pa_cons (pe_cmpR (op_own c_Gains_eq hr (by first | decide | omega)) (pv 5) (pv 11) (nomark _)) (pa_cons (pe_cmpR (op_own c_Gains_eq hr (by first | decide | omega)) (pv 11) (pv 5) (nomark _)) pa_nil))) (pa_cons (pe_lst (pa_cons (pe_cmpR (op_eqD hr.units) (pv 10) (pv 2) (nomark _)) (pa_cons (pe_cmpR (op_eqD hr.units) (pv 10) (pv 2) (nomark _)) pa_nil))) pa_nil)))))
    (pss_one (ps_ret pe_bl))
    pss_nil))))
(pss_cons (ps_set (i := 12) sc_law.nd rfl (by first | exact Or.inl rfl | exact Or.inr rfl) (pe_c c_law_mix hr (by first | exact Nat.le_refl _ | decide | omega) rfl (pa_cons (pv 1) (pa_cons (pe_callB call_len_seq (by rfl) T.n_len bo_len (pa_cons (pv 2) pa_nil)) pa_nil))))
(pss_cons (ps_set (i := 13) sc_law.nd rfl (by first | exact Or.inl rfl | exact Or.inr rfl) (pe_c c_law_mix hr (by first | exact Nat.le_refl _ | decide | omega) rfl (pa_cons (pv 1) (pa_cons (pe_callB call_len_seq (by rfl) T.n_len bo_len (pa_cons (pe_ix ix_tup (pv 2) pe_int (fun _ _ => rfl)) pa_nil)) pa_nil))))
(pss_cons (ps_set (i := 14) sc_law.nd rfl (by first | exact Or.inl rfl | exact Or.inr rfl) (pe_lst (pa_cons (pe_callTy call_list_of (by rfl) T.n_list bo_list (pa_cons (pe_c c_law_row_made hr (by first | exact Nat.le_refl _ | decide | omega) rfl (pa_cons (pv 12) pa_nil)) pa_nil)) (pa_cons (pe_c c_law_row_made hr (by first | exact Nat.le_refl _ | decide | omega) rfl (pa_cons (pv 13) pa_nil)) pa_nil))))
(pss_cons (ps_if (PW.pt (pw_or (pt_not (pt_val (pe_c c_are_lots hr (by first | exact Nat.le_refl _ | decide | omega) rfl (pa_cons (pe_ix ix_list (pv 14) pe_int (fun _ _ => rfl)) pa_nil)))) (pw_or (pt_val (pe_c c_are_lots hr (by first | exact Nat.le_refl _ | decide | omega) rfl (pa_cons (pe_op op_cat (pe_ix ix_list (pv 14) pe_int (fun _ _ => rfl)) (pe_lst (pa_cons (pe_mk c_Ratio2 hr (by first | exact Nat.le_refl _ | decide | omega) rfl (pa_cons pe_int (pa_cons pe_int pa_nil))) pa_nil))) pa_nil))) (pw_or1 (pt_val (pe_c c_are_lots hr (by first | exact Nat.le_refl _ | decide | omega) rfl (pa_cons (pe_lst (pa_cons (pe_mk c_Ratio2 hr (by first | exact Nat.le_refl _ | decide | omega) rfl (pa_cons pe_int (pa_cons pe_int pa_nil))) (pa_cons (pe_mk c_Ratio2 hr (by first | exact Nat.le_refl _ | decide | omega) rfl (pa_cons (pe_op op_sub pe_int pe_int) (pa_cons pe_int pa_nil))) pa_nil))) pa_nil)))))))
  (pss_one (ps_ret pe_bl))
  pss_nil)
(pss_cons (ps_for PassesOwn.never rfl (pi_tup (pe_tup (pa_cons pe_int (pa_cons pe_int pa_nil)))) (pg_name (i := 15) sc_law.nd rfl (by first | exact Or.inl rfl | exact Or.inr rfl))
  (pss_one (ps_if (pt_not (pt_val (pe_c c_law_same hr (by first | exact Nat.le_refl _ | decide | omega) rfl (pa_cons (pe_c c_law_plain hr (by first | exact Nat.le_refl _ | decide | omega) rfl (pa_cons (pe_c c_gain hr (by first | exact Nat.le_refl _ | decide | omega) rfl (pa_cons (pv 5) (pa_cons (pv 15) (pa_cons (pe_ix ix_list (pv 14) pe_int (fun _ _ => rfl)) (pa_cons (pe_ix ix_list (pv 14) pe_int (fun _ _ => rfl)) pa_nil))))) pa_nil)) (pa_cons (pe_c c_law_gain_due hr (by first | exact Nat.le_refl _ | decide | omega) rfl (pa_cons (pv 2) (pa_cons (pv 15) (pa_cons (pv 12) (pa_cons (pv 13) pa_nil))))) pa_nil)))))
    (pss_one (ps_ret pe_bl))
    pss_nil)))
(pss_cons (ps_setLc (i := 16) (own := [("own", 18)]) (g := gName 18) (tt := tYes) rfl sc_law.nd rfl rfl (sw_true rfl rfl rfl (by decide +kernel)) (pi_list (pe_c c_law_row_gains hr (by first | exact Nat.le_refl _ | decide | omega) rfl (pa_cons (pv 2) (pa_cons (pv 13) pa_nil)))) (blkOk_by (N := ["script", "pool", "table", "cells", "word", "made", "row", "wrong", "same", "other", "unlike", "strange", "first", "second", "handed", "player", "rows", "pure", "own", "i", "k"]) (sc := fnScope s_law) (by decide +kernel)) (fun _ _ _ _ _ => pg_name (i := 18) sc_law.nd rfl (by first | exact Or.inl rfl | exact Or.inr rfl)) (fun _ _ _ _ _ => pts_nil) (fun _ _ _ _ _ => (pe_c c_law_dot hr (by first | exact Nat.le_refl _ | decide | omega) rfl (pa_cons (pe_tup (pa_cons (pv 18) pa_nil)) (pa_cons (pe_tup (pa_cons (pe_tup (pa_cons pe_int (pa_cons pe_int pa_nil))) pa_nil)) pa_nil)))))
(pss_cons (ps_setLc (i := 17) (own := [("i", 19)]) (g := gName 19) (tt := tYes) rfl sc_law.nd rfl rfl (sw_true rfl rfl rfl (by decide +kernel)) (pi_range1 (by rfl) T.n_range (pa_cons (pe_callB call_len_seq (by rfl) T.n_len bo_len (pa_cons (pv 2) pa_nil)) pa_nil)) (blkOk_by (N := ["script", "pool", "table", "cells", "word", "made", "row", "wrong", "same", "other", "unlike", "strange", "first", "second", "handed", "player", "rows", "pure", "own", "i", "k"]) (sc := fnScope s_law) (by decide +kernel)) (fun _ _ _ _ _ => pg_name (i := 19) sc_law.nd rfl (by first | exact Or.inl rfl | exact Or.inr rfl)) (fun _ _ _ _ _ => pts_nil) (fun _ _ _ _ _ => (pe_callTy (call_tuple_ofK (K := K)) (by rfl) T.n_tuple bo_tuple (pa_cons (pe_lc (own := [("k", 20)]) (g := gName 20) (tt := tYes) rfl sc_law.nd (pi_range1 (by rfl) T.n_range (pa_cons (pe_callB (call_len_seqK (K := K)) (by rfl) T.n_len bo_len (pa_cons (pv 2) pa_nil)) pa_nil)) (blkOk_by (N := ["script", "pool", "table", "cells", "word", "made", "row", "wrong", "same", "other", "unlike", "strange", "first", "second", "handed", "player", "rows", "pure", "own", "i", "k"]) (sc := _) (by rfl)) (fun _ _ _ _ _ => pg_name (i := 20) sc_law.nd rfl (by first | exact Or.inl rfl | exact Or.inr rfl)) (fun _ _ _ _ _ => pts_nil) (fun _ _ _ _ _ => (pe_tup (pa_cons (pe_callTy call_int1 (by rfl) T.n_int bo_int (pa_cons (pe_cmpR op_eq (pv 20) (pv 19) (nomark _)) pa_nil)) (pa_cons pe_int pa_nil))))) pa_nil))))
(pss_cons (ps_if (pt_not (pt_val (pe_c c_law_same hr (by first | exact Nat.le_refl _ | decide | omega) rfl (pa_cons (pe_lc (own := [("own", 18)]) (g := gName 18) (tt := tYes) rfl sc_law.nd (pi_list (pv 17)) (blkOk_by (N := ["script", "pool", "table", "cells", "word", "made", "row", "wrong", "same", "other", "unlike", "strange", "first", "second", "handed", "player", "rows", "pure", "own", "i", "k"]) (sc := fnScope s_law) (by decide +kernel)) (fun _ _ _ _ _ => pg_name (i := 18) sc_law.nd rfl (by first | exact Or.inl rfl | exact Or.inr rfl)) (fun _ _ _ _ _ => pts_nil) (fun _ _ _ _ _ => (pe_c c_law_plain hr (by first | exact Nat.le_refl _ | decide | omega) rfl (pa_cons (pe_c c_gain hr (by first | exact Nat.le_refl _ | decide | omega) rfl (pa_cons (pv 5) (pa_cons pe_int (pa_cons (pe_c c_law_row_made hr (by first | exact Nat.le_refl _ | decide | omega) rfl (pa_cons (pv 18) pa_nil)) (pa_cons (pe_ix (ix_listK (K := K)) (pv 14) pe_int (fun _ _ => rfl)) pa_nil))))) pa_nil)))) (pa_cons (pv 16) pa_nil)))))
  (pss_one (ps_ret pe_bl))
  pss_nil)
(pss_one (ps_ret (pe_and (pe_c c_law_same hr (by first | exact Nat.le_refl _ | decide | omega) rfl (pa_cons (pe_c c_law_plain hr (by first | exact Nat.le_refl _ | decide | omega) rfl (pa_cons (pe_fld (pv 5) rfl) pa_nil)) (pa_cons (pv 2) pa_nil))) (pe_one (pe_c c_law_same hr (by first | exact Nat.le_refl _ | decide | omega) rfl (pa_cons (pe_c c_law_plain hr (by first | exact Nat.le_refl _ | decide | omega) rfl (pa_cons (pe_fld (pe_c c_turned hr (by first | exact Nat.le_refl _ | decide | omega) rfl (pa_cons (pv 9) pa_nil)) rfl) pa_nil)) (pa_cons (pv 2) pa_nil))))))))))))))))))))))))))))), ?_⟩
    refine ⟨_, rfl, a, ns, 0, rfl, hS, fun p q H1 np hP k1 => ?_⟩
    refine ⟨_, rfl, by show 2 ≤ sizeLine; decide, fun td ntd => ?_⟩
    have hP2 := hP.new (o := .tup [.int 3, .int 8]) ntd
    have htd : upd H1 td (.tup [.int 3, .int 8]) td = some (.tup [.int 3, .int 8]) := upd_same
    generalize upd H1 td (.tup [.int 3, .int 8]) = H2 at *
    refine ⟨_, rfl, p, q, ns, 2, rfl, by decide, by decide, hP2, fun z H3 z0 z1 P3 k3 => ?_⟩
    obtain ⟨most, hmost, hm1, hm8⟩ : ∃ m : Int, atI [V.int 3, V.int 8] z = some (.int m) ∧ 1 ≤ m ∧ m ≤ 8 := by
      have : z = 0 ∨ z = 1 := by omega
      rcases this with rfl | rfl
      · exact ⟨3, rfl, by decide, by decide⟩
      · exact ⟨8, rfl, by decide, by decide⟩
    refine ⟨td, _, _, _, rfl, rfl, SqT.of (hP2.tk k3 _ _ htd), hmost, ?_⟩
    refine ⟨p, q, ns, most, rfl, hm1, hm8, P3, fun t us tb H4 ht hus hok hB hR P4 k4 => ?_⟩
    obtain ⟨o1, o2, o3, o4, o5⟩ := okT_iff hok
    have hden := hB.den
    have hul := hus.length
    rw [List.length_map] at hul
    refine ⟨_, rfl, t, us, tb, rfl, ht, hus, by omega, lists_rows (fun r hr => by rw [o5 r hr]; omega) hR hden, fun cl H5 ncl hin k5 => ?_⟩
    rw [redT_id hR] at hin
    have P5 := P4.keep0 k5
    refine ⟨_, rfl, cl, tb, rfl, hin, by omega, fun r hr => by rw [o5 r hr]; omega, fun _ tt g H6 htt hG k6 => ?_, fun hbad => by rw [hok] at hbad; cases hbad⟩
    refine ⟨tt, _, rfl, SqT.of htt, rfl, _, _, rfl, _, _, rfl, rfl, ?_⟩
    refine ⟨_, rfl, rfl, _, rfl, iteNF rfl ?_⟩
    obtain ⟨rvs, hcl, hrv⟩ := hin.keep k6
    have hrl := hrv.1
    obtain ⟨r0, hr0⟩ : ∃ r, tb[0]? = some r := ⟨_, List.getElem?_eq_getElem (by omega)⟩
    have hv0 : rvs[0]? = some (rvs[0]'(by omega)) := List.getElem?_eq_getElem (by omega)
    obtain ⟨r0', hr0', rl, cs, erl, hrow, hcs⟩ := hrv.get hv0
    rw [hr0] at hr0'
    cases hr0'
    rw [erl] at hv0
    have hw := o5 r0 (List.mem_of_getElem? hr0)
    have hcl0 := hcs.1
    have hc0 : cs[0]? = some (cs[0]'(by omega)) := List.getElem?_eq_getElem (by omega)
    have P6 := P5.keep0 k6
    obtain ⟨rp, rq⟩ := row_ne_p P6 hrow hcs (by omega)
    have clp := P4.nep ncl
    have clq := P4.neq ncl
    refine ⟨_, rfl, _, _, _, _, rfl, rfl, SqL.of hcl, atI_nat (j := 0) hv0, ?_⟩
    refine ⟨_, rfl, .inl ⟨rfl, _, SqL.of hrow⟩, _, rfl, _, _, _, _, rfl, rfl, SqL.of hrow, atI_nat (j := 0) hc0, rl, _, _, rfl, rfl, hrow, smallL (by omega), ?_⟩
    have W6 : LW C_Gains C_Ratio H6 p q ns t us tb g := ⟨P6, (k5.trans k6) _ _ ht (by simp), hus.tk (k5.trans k6).tk, hG⟩
    have ki7 := KI.lst (o := .lst (cs ++ [cs[0]])) hrow
    have tk7 := TK.lst (o := .lst (cs ++ [cs[0]])) hrow
    have P7 := P6.own (a := rl) (o := .lst (cs ++ [cs[0]])) rp rq
    obtain ⟨xs7, hcl7, hx7⟩ : ∃ xs, upd H6 rl (.lst (cs ++ [cs[0]])) cl = some (.lst xs) ∧ xs.length ≤ 100 := by
      by_cases e : cl = rl
      · exact ⟨_, by rw [e]; exact upd_same, by rw [List.length_append, List.length_singleton]; omega⟩
      · exact ⟨_, by rw [upd_ne e]; exact hcl, by omega⟩
    have W7 : LW C_Gains C_Ratio _ p q ns t us tb g := ⟨P7, tk7 _ _ W6.T, W6.S.tk tk7, W6.G.ki ki7⟩
    generalize upd H6 rl (.lst (cs ++ [cs[0]])) = H7 at *
    refine ⟨_, rfl, .inl ⟨rfl, _, SqL.of hcl7⟩, _, rfl, cl, _, _, rfl, rfl, hcl7, smallL (by omega), ?_⟩
    have ki8 := KI.lst (o := .lst (xs7 ++ [.ref rl])) hcl7
    have tk8 := TK.lst (o := .lst (xs7 ++ [.ref rl])) hcl7
    have W8 : LW C_Gains C_Ratio (upd H7 cl (.lst (xs7 ++ [.ref rl]))) p q ns t us tb g := ⟨P7.own clp clq, tk8 _ _ W7.T, W7.S.tk tk8, W7.G.ki ki8⟩
    generalize upd H7 cl (.lst (xs7 ++ [.ref rl])) = H8 at *
    clear hin hcl hrow hcs W6 W7 P5 P6 P7 P4 hP2 P3 ki7 tk7 ki8 tk8 hrv hG hus ht
    -- the cells that the table has
    have look : ∀ {H : Hp} {x : Addr} {tb' : Tab}, GnAt C_Gains C_Ratio H x tb' → ∃ dx c, H x = some (.ins C_Gains dx [("cells", .ref c)]) ∧ TbAt C_Ratio H c tb' := fun h => h
    obtain ⟨dg, tg, hg, htg⟩ := look W8.G
    refine ⟨_, rfl, _, _, _, _, _, rfl, .own _, tyI T.i_Gains hg, kitSelf, _, rfl, iteF ?_⟩
    refine ⟨_, rfl, g, C_Gains, dg, _, _, rfl, hg, T.cl_Gains, T.a_Gains_cells, rfl, _, _, rfl, plv_tb htg hok hR hden, fun z1 H9 hz1 k9 => ?_⟩
    have W9 := W8.keep k9
    refine ⟨_, rfl, _, _, rfl, (same_lv (lv_tb hok) hz1 W9.dt.td).up, _, rfl, iteF ?_⟩
    -- tables of wrong sizes
    have hcels : CelsOk tb := fun r hr c hc => ⟨hB r hr c hc, hR r hr c hc⟩
    refine ⟨_, rfl, _, rfl, p, q, ns, _, tb, rfl, W9.P, W9.dt, hok, hcels, fun lw ws tbs H10 nlw hlw hws hwr P10 k10 => ?_⟩
    have W10 := W9.draw P10 k10
    have hwl := hws.length
    rw [List.length_map] at hwl
    refine ⟨lw, rfl, ⟨_, SqL.of hlw⟩, for_list (K := K) (a := lw) (xs := ws) (fun i σ H' => ∃ o7, σ = spL a p t cl g rl [o7, none, none, none, none, none, none, none, none, none, none, none, none, none] ∧ Keep [] H10 H') ⟨none, rfl, Keep.refl _ _⟩ (fun i σ H' _ ⟨_, _, kk⟩ => SqL.of (kk _ _ hlw (by simp))) ?_ ?_⟩
    · rintro i v σ H' hv ⟨o7, rfl, kk⟩
      obtain ⟨d, hd, hvd⟩ := (hws.tk kk.tk).at hv
      rw [List.getElem?_map] at hd
      obtain ⟨b, hb, rfl⟩ := Option.map_eq_some_iff.mp hd
      obtain ⟨wb1, wb2, wb3⟩ := hwr b (List.mem_of_getElem? hb)
      obtain ⟨tv, uv, rfl, htv, huv⟩ := DT.of hvd
      have hRb : RedTb b := fun r hr c hc => ((wb3 r hr).2 c hc).2
      refine ⟨_, rfl, tv, uv, b, rfl, htv, huv, by omega, lists_rows (fun r hr => by have := (wb3 r hr).1; omega) hRb (fun r hr c hc => ⟨frB_den ((wb3 r hr).2 c hc).1.1 (by decide), frB_den ((wb3 r hr).2 c hc).1.2 (by decide)⟩), fun l H11 nl hin k11 => ?_⟩
      rw [redT_id hRb] at hin
      refine ⟨l, b, rfl, hin, by omega, fun r hr => by have := (wb3 r hr).1; omega, ?_, fun _ t4 H12 ht4 k12 => ?_⟩
      · intro hgood
        rw [wb1] at hgood
        cases hgood
      exact ⟨_, _, _, _, rfl, rfl, SqT.of ht4, rfl, rfl, _, rfl, iteNF rfl ⟨_, rfl, kk.trans (k11.trans k12)⟩⟩
    rintro σ H11 ⟨o7, rfl, k11⟩
    have W11 := W10.keep k11
    clear hws hlw hwr
    -- the same table, the turned table
    refine ⟨_, rfl, t, us, tb, rfl, W11.T, W11.S, by omega, lists_rows (fun r hr => by rw [o5 r hr]; omega) hR hden, fun l1 H12 nl1 hin1 k12 => ?_⟩
    rw [redT_id hR] at hin1
    refine fun sm dsm nsm ndsm nesm => ⟨sm, dsm, l1, tb, rfl, upd_same, hin1.keep (Keep.made nsm ndsm), by omega, fun r hr => by rw [o5 r hr]; omega, fun _ H13 hsm km13 => ⟨rfl, ?_⟩, fun hb => by rw [hok] at hb; cases hb⟩
    have k13 := keep_made nsm ndsm km13
    have W13 := (W11.keep k12).keep k13
    refine ⟨_, rfl, g, tb, rfl, W13.G, hok, fun ot H14 not hot k14 => ?_⟩
    have W14 := W13.keep k14
    have hsm14 := hsm.keep k14
    have okt := okT_turn hok
    have hRt := hR.turn hok
    have hBt := hB.turn hok
    obtain ⟨p1, p2, p3, p4, p5⟩ := okT_iff okt
    refine ⟨_, rfl, _, rfl, geq_of W14.G hsm14 (decide_eq_true rfl) ?_⟩
    refine ⟨_, rfl, _, rfl, geq_of hsm14 W14.G (decide_eq_true rfl) ?_⟩
    refine ⟨_, rfl, _, rfl, t, us, tb, rfl, W14.T, W14.S, hok, fun tr trs H15 ntr htr htrs k15 => ?_⟩
    refine ⟨tr, trs, turnT tb, rfl, htr, htrs, by omega, lists_rows (fun r hr => by rw [p5 r hr]; omega) hRt hBt.den, fun l2 H16 nl2 hin2 k16 => ?_⟩
    rw [redT_id hRt] at hin2
    refine fun ot2 dot2 not2 ndot2 neot2 => ⟨ot2, dot2, l2, turnT tb, rfl, upd_same, hin2.keep (Keep.made not2 ndot2), by omega, fun r hr => by rw [p5 r hr]; omega, fun _ H17 hot2 km17 => ⟨rfl, ?_⟩, fun hb => by rw [okt] at hb; cases hb⟩
    have k17 := keep_made not2 ndot2 km17
    have k14_17 := (k15.trans k16).trans k17
    refine geq_of (hot.keep k14_17) hot2 (decide_eq_true rfl) ?_
    refine And.intro (by show 3 ≤ sizeLine; decide) <| fun b1 nb1 => ?_
    have kb1 := Keep.new (W := []) (o := .lst [.bl true, .bl true, .bl true]) nb1
    have hb1 : upd H17 b1 (.lst [.bl true, .bl true, .bl true]) b1 = some (.lst [.bl true, .bl true, .bl true]) := upd_same
    generalize upd H17 b1 (.lst [.bl true, .bl true, .bl true]) = H18 at *
    refine And.intro (by show 3 ≤ sizeLine; decide) <| fun b2 nb2 => ?_
    have kb2 := Keep.new (W := []) (o := .lst [.bl true, .bl true, .bl true]) nb2
    have hb2 : upd H18 b2 (.lst [.bl true, .bl true, .bl true]) b2 = some (.lst [.bl true, .bl true, .bl true]) := upd_same
    have kAll := (k14_17.trans kb1).trans kb2
    have hb1' := kb2 _ _ hb1 (by simp)
    generalize upd H18 b2 (.lst [.bl true, .bl true, .bl true]) = H19 at *
    refine ⟨_, _, rfl, same_bools (bs := [true, true, true]) hb1' hb2 (by decide), _, rfl, iteF ?_⟩
    have W19 := W14.keep kAll
    have hot19 := hot.keep kAll
    -- tables that differ
    refine ⟨_, rfl, _, rfl, p, q, ns, _, tb, rfl, W19.P, W19.dt, hok, hcels, fun lu vs tbs2 H20 nlu hlu hvs hlk hl20 P20 k20 => ?_⟩
    have W20 := W19.draw P20 k20
    have hot20 := hot19.ki (W19.P.ki k20)
    refine ⟨lu, rfl, ⟨_, SqL.of hlu⟩, for_list (K := K) (a := lu) (xs := vs) (fun i σ H' => ∃ o10 o11, σ = spL a p t cl g rl [o7, some (.ref sm), some (.ref ot), o10, o11, none, none, none, none, none, none, none, none, none] ∧ Keep [] H20 H') ⟨none, none, rfl, Keep.refl _ _⟩ (fun i σ H' _ ⟨_, _, _, kk⟩ => SqL.of (kk _ _ hlu (by simp))) ?_ ?_⟩
    · rintro i v σ H' hv ⟨o10, o11, rfl, kk⟩
      obtain ⟨d, hd, hvd⟩ := (hvs.tk kk.tk).at hv
      rw [List.getElem?_map] at hd
      obtain ⟨b, hb, rfl⟩ := Option.map_eq_some_iff.mp hd
      obtain ⟨lb1, lb2⟩ := hlk b (List.mem_of_getElem? hb)
      obtain ⟨q1, q2, q3, q4, q5⟩ := okT_iff lb1
      obtain ⟨tv, uv, rfl, htv, huv⟩ := DT.of hvd
      have hRb : RedTb b := fun r hr c hc => (lb2 r hr c hc).2
      refine ⟨_, rfl, tv, uv, b, rfl, htv, huv, by omega, lists_rows (fun r hr => by rw [q5 r hr]; omega) hRb (fun r hr c hc => ⟨frB_den (lb2 r hr c hc).1.1 (by decide), frB_den (lb2 r hr c hc).1.2 (by decide)⟩), fun l H21 nl hin k21 => ?_⟩
      rw [redT_id hRb] at hin
      refine fun st dst nst ndst nest => ⟨st, dst, l, b, rfl, upd_same, hin.keep (Keep.made nst ndst), by omega, fun r hr => by rw [q5 r hr]; omega, fun _ H22 hst km22 => ⟨rfl, ?_⟩, fun hb => by rw [lb1] at hb; cases hb⟩
      have k22 := keep_made nst ndst km22
      have k2022 := kk.trans (k21.trans k22)
      have W22 := W20.keep k2022
      refine ⟨_, rfl, _, rfl, geq_of W22.G hst (r := decide (tb = b)) rfl ?_⟩
      refine ⟨_, rfl, _, rfl, geq_of hst W22.G (r := decide (tb = b)) (by rw [Bool.eq_iff_iff, decide_eq_true_iff, decide_eq_true_iff]; exact eq_comm) ?_⟩
      refine And.intro (by show 2 ≤ sizeLine; decide) <| fun c1 nc1 => ?_
      have kc1 := Keep.new (W := []) (o := .lst [.bl (decide (tb = b)), .bl (decide (tb = b))]) nc1
      have hc1 : upd H22 c1 (.lst [.bl (decide (tb = b)), .bl (decide (tb = b))]) c1 = some (.lst [.bl (decide (tb = b)), .bl (decide (tb = b))]) := upd_same
      generalize upd H22 c1 (.lst [.bl (decide (tb = b)), .bl (decide (tb = b))]) = H23 at *
      have hvd23 := hvd.tk ((k21.trans k22).trans kc1).tk
      have W23 := W22.keep kc1
      have esym : PyData.eqv (dTb b) (dTb tb) = decide (tb = b) := by rw [eqv_tb, Bool.eq_iff_iff, decide_eq_true_iff, decide_eq_true_iff]; exact eq_comm
      refine ⟨_, rfl, _, rfl, dTb b, dTb tb, hvd23.dp, W23.dt.td.dp, shaped_tb b, shaped_tb tb, ?_⟩
      rw [esym]
      refine ⟨_, rfl, _, rfl, dTb b, dTb tb, hvd23.dp, W23.dt.td.dp, shaped_tb b, shaped_tb tb, ?_⟩
      rw [esym]
      refine And.intro (by show 2 ≤ sizeLine; decide) <| fun c2 nc2 => ?_
      have kc2 := Keep.new (W := []) (o := .lst [.bl (decide (tb = b)), .bl (decide (tb = b))]) nc2
      have hc2 : upd H23 c2 (.lst [.bl (decide (tb = b)), .bl (decide (tb = b))]) c2 = some (.lst [.bl (decide (tb = b)), .bl (decide (tb = b))]) := upd_same
      have hc1' := kc2 _ _ hc1 (by simp)
      generalize upd H23 c2 (.lst [.bl (decide (tb = b)), .bl (decide (tb = b))]) = H24 at *
      exact ⟨_, _, rfl, same_bools (bs := [decide (tb = b), decide (tb = b)]) hc1' hc2 (by simp), _, rfl, iteF ⟨_, _, rfl, (k2022.trans kc1).trans kc2⟩⟩
    rintro σ H21 ⟨o10, o11, rfl, k21⟩
    have W21 := W20.keep k21
    have hot21 := hot20.keep k21
    clear hvs hlu hlk
    -- mixes
    refine ⟨_, rfl, _, rfl, t, us, rfl, .inr (SqT.of W21.T), p, q, ns, us.length, rfl, by omega, by omega, W21.P, fun f1 w1 H22 hf1 hs1 P22 k22 => ?_⟩
    have W22 := W21.draw P22 k22
    have hot22 := hot21.ki (W21.P.ki k22)
    obtain ⟨v0, hv0, hd0⟩ := W22.S.get (i := 0) (d := dRw r0) (by rw [List.getElem?_map, hr0]; rfl)
    obtain ⟨t0, cs0, rfl, ht0, hcs0⟩ := td_rw hd0
    have hcl0' := hcs0.length
    rw [List.length_map] at hcl0'
    refine ⟨_, rfl, _, rfl, _, _, _, _, rfl, rfl, SqT.of W22.T, atI_nat (j := 0) hv0, t0, cs0, rfl, .inr (SqT.of ht0), p, q, ns, cs0.length, rfl, by omega, by omega, W22.P, fun f2 w2 H23 hf2 hs2 P23 k23 => ?_⟩
    have W23 := W22.draw P23 k23
    have hot23 := hot22.ki (W22.P.ki k23)
    have hf1' : FrsAt H23 f1 (mixR w1) := by
      obtain ⟨u, h1, h2⟩ := hf1
      exact ⟨u, W22.P.tk k23 _ _ h1, h2.mono fun _ _ z => z.tk (W22.P.tk k23)⟩
    obtain ⟨ml1, mo1⟩ := mix_ok hs1 (by omega)
    obtain ⟨ml2, mo2⟩ := mix_ok hs2 (by omega)
    clear hf1
    obtain ⟨u1, hu1, hv1⟩ := id hf1'
    obtain ⟨u2, hu2, hv2⟩ := id hf2
    refine ⟨_, rfl, f1, u1, mixR w1, rfl, hu1, frs_td hv1, by omega, fun r hr => okF_of (mo1 r hr).1 (frB_den (mo1 r hr).2 (by decide)), fun tA va H24 ntA htA hva k24 => ?_⟩
    rw [redF_map fun r hr => (mo1 r hr).1] at hva
    refine ⟨tA, va, rfl, .inr (SqT.of htA), fun la nla => ?_⟩
    have k25 := Keep.new (W := []) (o := .lst va) nla
    have hla : upd H24 la (.lst va) la = some (.lst va) := upd_same
    have hva5 := hva.mono fun _ _ z => z.keep k25
    generalize upd H24 la (.lst va) = H25 at *
    have k23_25 := k24.trans k25
    refine ⟨_, rfl, f2, u2, mixR w2, rfl, k23_25 _ _ hu2 (by simp), (frs_td hv2).tk k23_25.tk, by omega, fun r hr => okF_of (mo2 r hr).1 (frB_den (mo2 r hr).2 (by decide)), fun tB vb H26 ntB htB hvb k26 => ?_⟩
    rw [redF_map fun r hr => (mo2 r hr).1] at hvb
    refine And.intro (by show 2 ≤ sizeLine; decide) <| fun lh nlh => ?_
    have k27 := Keep.new (W := []) (o := .lst [.ref la, .ref tB]) nlh
    have hlh : upd H26 lh (.lst [.ref la, .ref tB]) lh = some (.lst [.ref la, .ref tB]) := upd_same
    generalize upd H26 lh (.lst [.ref la, .ref tB]) = H27 at *
    have k25_27 := k26.trans k27
    have k23_27 := k23_25.trans k25_27
    have W27 := W23.keep k23_27
    have hot27 := hot23.keep k23_27
    have hf1_27 : FrsAt H27 f1 (mixR w1) := ⟨u1, k23_27 _ _ hu1 (by simp), hv1.mono fun _ _ z => z.keep k23_27⟩
    have hf2_27 : FrsAt H27 f2 (mixR w2) := ⟨u2, k23_27 _ _ hu2 (by simp), hv2.mono fun _ _ z => z.keep k23_27⟩
    have hla27 := k25_27 _ _ hla (by simp)
    have hva27 := hva5.mono fun _ _ z => z.keep k25_27
    have M1 : MixAt C_Ratio H27 (.ref la) (mixR w1) := ⟨la, va, rfl, .inl hla27, hva27⟩
    have M2 : MixAt C_Ratio H27 (.ref tB) (mixR w2) := ⟨tB, vb, rfl, .inr (k27 _ _ htB (by simp)), hvb.mono fun _ _ z => z.keep k27⟩
    have hval := hva.1
    clear hva hva5 hvb hf1' hf2
    -- lots
    refine ⟨_, rfl, _, _, _, _, rfl, rfl, SqL.of hlh, rfl, la, va, w1, w1.sum, rfl, hla27, hva27, mix_wk hs1 (by omega), fun H28 k28 => ?_⟩
    rw [mix_lots hs1]
    refine ⟨_, rfl, iteF ?_⟩
    refine ⟨_, rfl, _, _, _, _, rfl, rfl, SqL.of (k28 _ _ hlh (by simp)), rfl, ?_⟩
    have e17 : redN 1 7 = 1 ∧ redD 1 7 = 7 := by decide
    have e32 : redN 3 2 = 3 ∧ redD 3 2 = 2 := by decide
    have em12 : redN (0 - 1) 2 = -1 ∧ redD (0 - 1) 2 = 2 := by decide
    refine fun x1 dx1 nx1 ndx1 ne1 => ⟨x1, dx1, 1, 7, rfl, by decide, Nat.lt_of_le_of_lt (show (7 : Int).natAbs ≤ 2 ^ 3 by decide) (Nat.pow_lt_pow_right (by decide) (by decide)), upd_same, fun H29 K29 hx29 => ⟨rfl, ?_⟩⟩
    have k29 := keep_made nx1 ndx1 K29
    rw [e17.1, e17.2] at hx29
    refine And.intro (by show 1 ≤ sizeLine; decide) <| fun lx nlx => ?_
    have k30 := Keep.new (W := []) (o := .lst [.ref x1]) nlx
    have hlx : upd H29 lx (.lst [.ref x1]) lx = some (.lst [.ref x1]) := upd_same
    have hx30 := k30 _ _ hx29 (by simp)
    generalize upd H29 lx (.lst [.ref x1]) = H30 at *
    have k27_30 := (k28.trans k29).trans k30
    refine ⟨la, lx, va, _, rfl, rfl, k27_30 _ _ hla27 (by simp), hlx, smallM (by simp; omega), fun ly nly => ?_⟩
    have k31 := Keep.new (W := []) (o := .lst (va ++ [.ref x1])) nly
    have hly : upd H30 ly (.lst (va ++ [.ref x1])) ly = some (.lst (va ++ [.ref x1])) := upd_same
    have hx31 := k31 _ _ hx30 (by simp)
    generalize upd H30 ly (.lst (va ++ [.ref x1])) = H31 at *
    have k27_31 := k27_30.trans k31
    refine ⟨ly, _, w1.map (7 * ·) ++ [w1.sum], 7 * w1.sum, rfl, hly, ?_, more_wk hs1 (by omega), fun H32 k32 => ?_⟩
    · rw [more_wri hs1]
      exact (hva27.mono fun _ _ z => z.keep k27_31).snoc ⟨x1, rfl, dx1, hx31⟩
    rw [more_not hs1]
    refine ⟨_, rfl, iteF ?_⟩
    refine fun x2 dx2 nx2 ndx2 ne2 => ⟨x2, dx2, 3, 2, rfl, by decide, Nat.lt_of_le_of_lt (show (2 : Int).natAbs ≤ 2 ^ 3 by decide) (Nat.pow_lt_pow_right (by decide) (by decide)), upd_same, fun H33 K33 hx33 => ⟨rfl, ?_⟩⟩
    have k33 := keep_made nx2 ndx2 K33
    rw [e32.1, e32.2] at hx33
    refine ⟨_, _, rfl, rfl, fun x3 dx3 nx3 ndx3 ne3 => ⟨x3, dx3, 0 - 1, 2, rfl, by decide, Nat.lt_of_le_of_lt (show (2 : Int).natAbs ≤ 2 ^ 3 by decide) (Nat.pow_lt_pow_right (by decide) (by decide)), upd_same, fun H34 K34 hx34 => ⟨rfl, ?_⟩⟩⟩
    have k34 := keep_made nx3 ndx3 K34
    rw [em12.1, em12.2] at hx34
    have hx33' := k34 _ _ hx33 (by simp)
    refine And.intro (by show 2 ≤ sizeLine; decide) <| fun lz nlz => ?_
    have k35 := Keep.new (W := []) (o := .lst [.ref x2, .ref x3]) nlz
    have hlz : upd H34 lz (.lst [.ref x2, .ref x3]) lz = some (.lst [.ref x2, .ref x3]) := upd_same
    have g2 := k35 _ _ hx33' (by simp)
    have g3 := k35 _ _ hx34 (by simp)
    generalize upd H34 lz (.lst [.ref x2, .ref x3]) = H35 at *
    have ewr : wri [3, -1] 2 = [(3, 2), (-1, 2)] := by decide
    refine ⟨lz, _, [3, -1], 2, rfl, hlz, ?_, ⟨by decide, by decide, fun x hx => ?_, ?_⟩, fun H36 k36 => ?_⟩
    · rw [ewr]
      exact (All2.nil.snoc ⟨x2, rfl, dx2, g2⟩).snoc ⟨x3, rfl, dx3, g3⟩
    · simp only [List.mem_cons, List.not_mem_nil, or_false] at hx
      rcases hx with rfl | rfl
      · exact Nat.lt_of_le_of_lt (show (3 : Int).natAbs ≤ 2 ^ 3 by decide) (Nat.pow_lt_pow_right (by decide) (by decide))
      · exact Nat.lt_of_le_of_lt (show (-1 : Int).natAbs ≤ 2 ^ 3 by decide) (Nat.pow_lt_pow_right (by decide) (by decide))
    · exact Nat.lt_of_le_of_lt (show (2 : Int).natAbs ≤ 2 ^ 3 by decide) (Nat.pow_lt_pow_right (by decide) (by decide))
    rw [show lotB [3, -1] 2 = false by decide]
    refine ⟨_, rfl, iteF ?_⟩
    have k27_36 := (((k27_31.trans k32).trans k33).trans k34).trans (k35.trans k36)
    have W36 := W27.keep k27_36
    have hot36 := hot27.keep k27_36
    have M1' := M1.keep k27_36
    have M2' := M2.keep k27_36
    have hlh36 := k27_36 _ _ hlh (by simp)
    have hf1_36 : FrsAt H36 f1 (mixR w1) := by
      obtain ⟨u, h1, h2⟩ := hf1_27
      exact ⟨u, k27_36 _ _ h1 (by simp), h2.mono fun _ _ z => z.keep k27_36⟩
    have hf2_36 : FrsAt H36 f2 (mixR w2) := by
      obtain ⟨u, h1, h2⟩ := hf2_27
      exact ⟨u, k27_36 _ _ h1 (by simp), h2.mono fun _ _ z => z.keep k27_36⟩
    have hb1 : ∀ r ∈ mixR w1, FrB 10 10 r := fun r hr => (mo1 r hr).2
    have hb2 : ∀ r ∈ mixR w2, FrB 10 10 r := fun r hr => (mo2 r hr).2
    have hth : (tb.headD []).length = r0.length := hw.symm
    clear M1 M2 hf1_27 hf2_27 hla27 hva27 hlh W27 hot27 hx29 hx30 hx31 hx33 hx33' hx34 g2 g3 hly hlx hlz hla
    have gainB : ∀ pl : Int, pl = 1 ∨ pl = 2 → (if pl = 1 then gnR tb (mixR w1) (mixR w2) else gnR (turnT tb) (mixR w2) (mixR w1)) = dueP tb pl (mixR w1) (mixR w2) ∧ FrB 3900 3000 (dueP tb pl (mixR w1) (mixR w2)) := by
      intro pl hpl
      have hq1 := Pos.of hb1
      have hq2 := Pos.of hb2
      refine ⟨?_, ?_⟩
      · rcases hpl with rfl | rfl
        · rw [if_pos rfl]; exact gain_one hB hq1 hq2
        · rw [if_neg (by decide)]; exact gain_two hok hB hq1 hq2
      · have selB : ∀ r ∈ tb, ∀ x ∈ r.map (selC pl), FrB 100 25 x := fun r hr x hx => by
          obtain ⟨c, hc, rfl⟩ := List.mem_map.mp hx
          unfold selC
          split
          · exact (hB r hr c hc).1
          · exact (hB r hr c hc).2
        have rowB : ∀ x ∈ tb.map (fun r => dotP (mixR w2) (r.map (selC pl))), FrB 398 280 x := fun x hx => by
          obtain ⟨r, hr, rfl⟩ := List.mem_map.mp hx
          exact dotB hb2 (selB r hr) (by omega)
        exact (dotB hb1 rowB (by omega)).mono (by decide) (by decide)
    refine And.intro (by show 2 ≤ sizeLine; decide) <| fun tp ntp => ?_
    have k37 := Keep.new (W := []) (o := .tup [.int 1, .int 2]) ntp
    have htp : upd H36 tp (.tup [.int 1, .int 2]) tp = some (.tup [.int 1, .int 2]) := upd_same
    generalize upd H36 tp (.tup [.int 1, .int 2]) = H37 at *
    refine ⟨tp, rfl, ⟨_, SqT.of htp⟩, for_tup (K := K) (a := tp) (xs := [.int 1, .int 2]) (fun i σ H' => ∃ o15, σ = spL a p t cl g rl [o7, some (.ref sm), some (.ref ot), o10, o11, some (.ref f1), some (.ref f2), some (.ref lh), o15, none, none, none, none, none] ∧ Keep [] H37 H') ⟨none, rfl, Keep.refl _ _⟩ (fun i σ H' _ ⟨_, _, kk⟩ => SqT.of (kk _ _ htp (by simp))) ?_ ?_⟩
    · rintro i v σ H' hv ⟨o15, rfl, kk⟩
      obtain ⟨pl, rfl, hpl⟩ : ∃ pl : Int, v = .int pl ∧ (pl = 1 ∨ pl = 2) := by
        cases i with
        | zero => simp at hv; exact ⟨1, hv.symm, .inl rfl⟩
        | succ i =>
          cases i with
          | zero => simp at hv; exact ⟨2, hv.symm, .inr rfl⟩
          | succ i => simp at hv
      have k36' := k37.trans kk
      have W' := W36.keep k36'
      have hlh' := k36' _ _ hlh36 (by simp)
      obtain ⟨ge, gb⟩ := gainB pl hpl
      refine ⟨_, rfl, _, rfl, _, rfl, _, _, _, _, rfl, rfl, SqL.of hlh', rfl, _, rfl, _, _, _, _, rfl, rfl, SqL.of hlh', rfl, g, _, _, pl, tb, mixR w1, mixR w2, rfl, W'.G, hok, hB, M1'.keep k36', M2'.keep k36', by omega, by omega, hb1, hb2, hpl.imp id fun h => ⟨h, by decide⟩, fun x H38 hx k38 => ?_⟩
      rw [ge] at hx
      have hred : RedOk (dueP tb pl (mixR w1) (mixR w2)) := (due_val hB pl (Pos.of hb1) (Pos.of hb2)).1
      refine ⟨_, _, rfl, .inl ⟨x, dueP tb pl (mixR w1) (mixR w2), rfl, hx, hred, frB_den gb (by decide), rfl⟩, fun z2 H39 hz2 k39 => ?_⟩
      have k3639 := k36'.trans (k38.trans k39)
      have W39 := W36.keep k3639
      have fr : ∀ {y : Addr} {ms : List Fr}, FrsAt H36 y ms → FrsAt H39 y ms := fun ⟨u, h1, h2⟩ => ⟨u, k3639 _ _ h1 (by simp), h2.mono fun _ _ z => z.keep k3639⟩
      refine ⟨_, rfl, _, rfl, _, rfl, _, rfl, t, f1, f2, pl, us, tb, mixR w1, mixR w2, rfl, W39.T, W39.S, hok, hB, fr hf1_36, fr hf2_36, by omega, by omega, hb1, hb2, hpl, fun z3 H40 hz3 k40 => ?_⟩
      have hs := same_lv (lv_fr _) (hz2.tk k40.tk) hz3.td
      exact ⟨_, _, rfl, hs.up.up.up.up, _, rfl, iteF ⟨_, rfl, kk.trans ((k38.trans k39).trans k40)⟩⟩
    rintro σ H38 ⟨o15, rfl, kk38⟩
    have k38 := k37.trans kk38
    have W38 := W36.keep k38
    have hot38 := hot36.keep k38
    have hf2_38 : FrsAt H38 f2 (mixR w2) := by
      obtain ⟨u, h1, h2⟩ := hf2_36
      exact ⟨u, k38 _ _ h1 (by simp), h2.mono fun _ _ z => z.keep k38⟩
    have M2_38 := M2'.keep k38
    have hlh38 := k38 _ _ hlh36 (by simp)
    have hq2 := Pos.of hb2
    -- the rows against the mix
    refine ⟨_, rfl, _, rfl, t, f2, us, tb, mixR w2, rfl, W38.T, W38.S, hok, hB, hf2_38, by omega, hb2, fun lr vr H39 nlr hlr hvr k39 => ⟨lr, rfl, ⟨_, SqL.of hlr⟩, fun D nD => ?_⟩⟩
    have hrgl : (rgP tb (mixR w2)).length = tb.length := by unfold rgP; rw [List.length_map]
    have hvrl := hvr.1
    have rgB : ∀ x ∈ rgP tb (mixR w2), FrB 398 280 x := fun x hx => by
      obtain ⟨r, hr, rfl⟩ := List.mem_map.mp hx
      have hy2 : ∀ y ∈ r.map (·.1), FrB 100 25 y := fun y hy => by
        obtain ⟨c, hc, rfl⟩ := List.mem_map.mp hy
        exact (hB r hr c hc).1
      exact dotB hb2 hy2 (by omega)
    have q11 : FrB 1 0 ((1, 1) : Fr) := ⟨by decide, by decide, by decide⟩
    refine lc_list (K := K) (a := lr) (xs := vr) (fun i H' => ∃ ws, H' D = some (.lst ws) ∧ All2 (FrAt H') ws (((rgP tb (mixR w2)).map fun x => dotP [x] [(1, 1)]).take i) ∧ Keep [] H39 H') ⟨[], upd_same, by rw [List.take_zero]; exact .nil, Keep.new nD⟩ (fun i H' _ ⟨_, _, _, kk⟩ => SqL.of (kk _ _ hlr (by simp))) ?_ ?_
    · rintro i v H40 hv ⟨ws, hD, hws, k40⟩
      obtain ⟨x, hxi, hxv⟩ := hvr.get hv
      have hil := (List.getElem?_eq_some_iff.mp hxi).1
      have hwl := hws.1
      rw [List.length_take, List.length_map] at hwl
      refine ⟨rfl, yes_then ⟨_, rfl, by show 1 ≤ sizeLine; decide, fun ta nta => ?_⟩⟩
      have ka := Keep.new (W := []) (o := .tup [v]) nta
      have hta : upd H40 ta (.tup [v]) ta = some (.tup [v]) := upd_same
      generalize upd H40 ta (.tup [v]) = H41 at *
      refine And.intro (by show 2 ≤ sizeLine; decide) <| fun tb1 ntb1 => ?_
      have kb := Keep.new (W := []) (o := .tup [.int 1, .int 1]) ntb1
      have htb1 : upd H41 tb1 (.tup [.int 1, .int 1]) tb1 = some (.tup [.int 1, .int 1]) := upd_same
      generalize upd H41 tb1 (.tup [.int 1, .int 1]) = H42 at *
      refine And.intro (by show 1 ≤ sizeLine; decide) <| fun tc ntc => ?_
      have kc := Keep.new (W := []) (o := .tup [.ref tb1]) ntc
      have htc : upd H42 tc (.tup [.ref tb1]) tc = some (.tup [.ref tb1]) := upd_same
      generalize upd H42 tc (.tup [.ref tb1]) = H43 at *
      have k4043 := (ka.trans kb).trans kc
      refine ⟨ta, tc, _, _, [x], [(1, 1)], 398, 280, 1, 0, rfl, (kb.trans kc) _ _ hta (by simp), .inr htc, All2.nil.snoc (hxv.keep (k40.trans k4043)), All2.nil.snoc ⟨tb1, rfl, kc _ _ htb1 (by simp)⟩, rfl, by simp, fun r hr => by rw [List.mem_singleton.mp hr]; exact rgB x (List.mem_of_getElem? hxi), fun r hr => by rw [List.mem_singleton.mp hr]; exact q11, by decide, by decide, fun z H44 hz k44 => ?_⟩
      have k4044 := k4043.trans k44
      have hD44 := k4044 _ _ hD (by simp)
      have tl := TK.lst (o := .lst (ws ++ [z])) hD44
      refine ⟨ws, hD44, smallL (by omega), ws ++ [z], upd_same, ?_, (k40.trans k4044).then_own nD⟩
      rw [snoc_take (show ((rgP tb (mixR w2)).map fun x => dotP [x] [(1, 1)])[i]? = some (dotP [x] [(1, 1)]) by rw [List.getElem?_map, hxi]; rfl)]
      exact (hws.mono fun _ _ z => (z.keep k4044).tk tl).snoc (hz.tk tl)
    rintro H40 ⟨ws, hD, hws, k40⟩
    rw [show vr.length = ((rgP tb (mixR w2)).map fun x => dotP [x] [(1, 1)]).length by rw [List.length_map]; exact hvrl, List.take_length] at hws
    have k3840 := k39.trans k40
    have W40 := W38.keep k3840
    -- moves alone
    refine ⟨_, rfl, t, us, rfl, .inr (SqT.of W40.T), _, rfl, by omega, by omega, fun D2 nD2 => ?_⟩
    refine lc_range (lo := 0) (n := us.length) (fun i H' => ∃ vs, H' D2 = some (.lst vs) ∧ TDs H' vs (((List.range us.length).take i).map fun j => PyData.tuple ((unitV tb.length j).map dFr)) ∧ Keep [] H40 H') ⟨[], upd_same, by rw [List.take_zero]; exact .nil, Keep.new nD2⟩ ?_ ?_
    · rintro i H41 hi ⟨vs', hD2, hvs, k41⟩
      have e0 : (0 : Int) + (i : Int) = (i : Int) := by omega
      rw [e0]
      have hvl := hvs.length
      rw [List.length_map, List.length_take, List.length_range] at hvl
      refine ⟨rfl, yes_then ⟨_, rfl, t, us, rfl, .inr (SqT.of (k41 _ _ W40.T (by simp))), _, rfl, by omega, by omega, fun D3 nD3 => ?_⟩⟩
      refine lc_range (lo := 0) (n := us.length) (fun j H' => ∃ ws, H' D3 = some (.lst ws) ∧ All2 (FrAt H') ws ((unitV tb.length i).take j) ∧ Keep [] H41 H') ⟨[], upd_same, by rw [List.take_zero]; exact .nil, Keep.new nD3⟩ ?_ ?_
      · rintro j H42 hj ⟨ys, hD3, hys, k42⟩
        have e0 : (0 : Int) + (j : Int) = (j : Int) := by omega
        rw [e0]
        have hyl := hys.1
        rw [List.length_take, show (unitV tb.length i).length = tb.length by unfold unitV; rw [List.length_map, List.length_range]] at hyl
        refine ⟨rfl, yes_then ⟨_, rfl, _, rfl, rfl, .inr ⟨_, rfl, And.intro (by show 2 ≤ sizeLine; decide) <| fun tq ntq => ?_⟩⟩⟩
        have eb : (if decide (V.int (j : Int) = V.int (i : Int)) = true then (1 : Int) else 0) = if j = i then 1 else 0 := by
          by_cases e : j = i
          · rw [if_pos e, if_pos (by rw [e]; exact decide_eq_true rfl)]
          · rw [if_neg e, if_neg (fun z => e (by have := V.int.inj (of_decide_eq_true z); omega))]
        rw [eb]
        have kq := Keep.new (W := []) (o := .tup [.int (if j = i then 1 else 0), .int 1]) ntq
        have htq : upd H42 tq (.tup [.int (if j = i then 1 else 0), .int 1]) tq = some (.tup [.int (if j = i then 1 else 0), .int 1]) := upd_same
        generalize upd H42 tq (.tup [.int (if j = i then 1 else 0), .int 1]) = H43 at *
        have hD3' := kq _ _ hD3 (by simp)
        have tl := TK.lst (o := .lst (ys ++ [.ref tq])) hD3'
        refine ⟨ys, hD3', smallL (by omega), ys ++ [.ref tq], upd_same, ?_, (k42.trans kq).then_own nD3⟩
        rw [snoc_take (show (unitV tb.length i)[j]? = some (if j = i then 1 else 0, 1) by unfold unitV; rw [List.getElem?_map, List.getElem?_range (by omega)]; rfl)]
        exact (hys.mono fun _ _ z => (z.keep kq).tk tl).snoc ⟨tq, rfl, tl _ _ htq⟩
      · rintro H42 ⟨ys, hD3, hys, k42⟩
        rw [show us.length = (unitV tb.length i).length by unfold unitV; rw [List.length_map, List.length_range]; exact hul, List.take_length] at hys
        refine ⟨D3, ys, rfl, .inl ⟨SqL.of hD3, fun ty nty => ?_⟩⟩
        have ky := Keep.new (W := []) (o := .tup ys) nty
        have hty := td_new (frs_td hys) nty
        generalize upd H42 ty (.tup ys) = H43 at *
        have k4143 := k42.trans ky
        have hD2' := k4143 _ _ hD2 (by simp)
        have tl := TK.lst (o := .lst (vs' ++ [.ref ty])) hD2'
        refine ⟨vs', hD2', smallL (by omega), vs' ++ [.ref ty], upd_same, ?_, (k41.trans k4143).then_own nD2⟩
        rw [snoc_take (List.getElem?_range hi), List.map_append]
        exact ((hvs.tk k4143.tk).tk tl).append (.cons (hty.tk tl).td .nil)
    rintro H41 ⟨vp, hD2, hvp, k41⟩
    rw [show (List.range us.length).take us.length = List.range us.length by rw [List.take_of_length_le (by rw [List.length_range]; exact Nat.le_refl _)]] at hvp
    have hvpl := hvp.length
    rw [List.length_map, List.length_range] at hvpl
    have k3841 := k3840.trans k41
    have W41 := W38.keep k3841
    -- the gains of moves alone
    refine ⟨_, rfl, D2, rfl, ⟨_, SqL.of hD2⟩, fun D4 nD4 => ?_⟩
    refine lc_list (K := K) (a := D2) (xs := vp) (fun i H' => ∃ ys, H' D4 = some (.lst ys) ∧ TDs H' ys ((((rgP tb (mixR w2)).map fun x => dotP [x] [(1, 1)]).take i).map dFr) ∧ Keep [] H41 H') ⟨[], upd_same, by rw [List.take_zero]; exact .nil, Keep.new nD4⟩ (fun i H' _ ⟨_, _, _, kk⟩ => SqL.of (kk _ _ hD2 (by simp))) ?_ ?_
    · rintro i v H42 hv ⟨ys, hD4, hys, k42⟩
      have hil := (List.getElem?_eq_some_iff.mp hv).1
      obtain ⟨d, hd, hvd⟩ := (hvp.tk k42.tk).at hv
      rw [List.getElem?_map, List.getElem?_range (by omega)] at hd
      cases hd
      obtain ⟨tv, uv, rfl, htv, huv⟩ := DT.of hvd
      obtain ⟨x, hxi⟩ : ∃ x, (rgP tb (mixR w2))[i]? = some x := ⟨_, List.getElem?_eq_getElem (by omega)⟩
      have hul2 : (unitV tb.length i).length = tb.length := by unfold unitV; rw [List.length_map, List.length_range]
      have hyl := hys.length
      rw [List.length_map, List.length_take, List.length_map] at hyl
      have hur := unit_red tb.length i
      have k3842 := k3841.trans k42
      refine ⟨rfl, yes_then ⟨_, rfl, _, rfl, tv, uv, unitV tb.length i, rfl, htv, huv, by omega, fun r hr => okF_of (hur r hr).1 (frB_den (hur r hr).2 (by decide)), fun tm vm H43 ntm htm hvm k43 => ?_⟩⟩
      rw [redF_map fun r hr => (hur r hr).1] at hvm
      have k3843 := k3842.trans k43
      have W43 := W38.keep k3843
      have hlh43 := k3843 _ _ hlh38 (by simp)
      refine ⟨_, rfl, _, _, _, _, rfl, rfl, SqL.of hlh43, rfl, g, _, _, 1, tb, unitV tb.length i, mixR w2, rfl, W43.G, hok, hB, ⟨tm, vm, rfl, .inr htm, hvm⟩, M2_38.keep k3843, by omega, by omega, fun r hr => (hur r hr).2, hb2, .inl rfl, fun y H44 hy k44 => ?_⟩
      rw [if_pos rfl, pure_row hB hq2 hxi] at hy
      have hx1 : FrB 2647 2240 (dotP [x] [(1, 1)]) := dotB (a := 398) (b := 280) (a' := 1) (b' := 0) (fun r hr => by rw [List.mem_singleton.mp hr]; exact rgB x (List.mem_of_getElem? hxi)) (fun r hr => by rw [List.mem_singleton.mp hr]; exact q11) (by simp)
      have hrx : RedOk (dotP [x] [(1, 1)]) := (dotP_val (xs := [x]) (ys := [(1, 1)]) (fun r hr => by rw [List.mem_singleton.mp hr]; exact (rgB x (List.mem_of_getElem? hxi)).1) (fun r hr => by rw [List.mem_singleton.mp hr]; decide)).1
      refine ⟨_, _, rfl, .inl ⟨y, _, rfl, hy, hrx, frB_den hx1 (by decide), rfl⟩, fun z H45 hz k45 => ?_⟩
      have k4245 := (k43.trans k44).trans k45
      have hD45 := k4245 _ _ hD4 (by simp)
      have tl := TK.lst (o := .lst (ys ++ [z])) hD45
      refine ⟨ys, hD45, smallL (by omega), ys ++ [z], upd_same, ?_, (k42.trans k4245).then_own nD4⟩
      rw [snoc_take (show ((rgP tb (mixR w2)).map fun x => dotP [x] [(1, 1)])[i]? = some (dotP [x] [(1, 1)]) by rw [List.getElem?_map, hxi]; rfl), List.map_append]
      exact ((hys.tk k4245.tk).tk tl).append (.cons (hz.tk tl) .nil)
    rintro H42 ⟨ys, hD4, hys, k42⟩
    rw [show vp.length = ((rgP tb (mixR w2)).map fun x => dotP [x] [(1, 1)]).length by rw [List.length_map]; omega, List.take_length] at hys
    have k4042 := k41.trans k42
    have hD42 := k4042 _ _ hD (by simp)
    have hwt := (frs_td hws).tk k4042.tk
    have hyl := hys.length
    have hwl := hwt.length
    refine ⟨_, rfl, _, _, rfl, .inr ⟨D4, D, ys, ws, rfl, rfl, .inl ⟨hD4, hD42⟩, by omega, smallM (by rw [hyl, List.length_map, List.length_map]; omega), fun i x y hx hy => ?_⟩, _, rfl, iteF ?_⟩
    · obtain ⟨d1, e1, e2⟩ := hys.at hx
      obtain ⟨d2, e3, e4⟩ := hwt.at hy
      rw [e1] at e3
      cases e3
      rw [List.getElem?_map] at e1
      obtain ⟨r, _, rfl⟩ := Option.map_eq_some_iff.mp e1
      exact (same_lv (lv_fr r) e2 e4).up.up.up
    -- the table is as it was
    have k3842 := k3841.trans k42
    have W42 := W38.keep k3842
    obtain ⟨dg2, tg2, hg2, htg2⟩ := look W42.G
    refine ⟨_, rfl, g, C_Gains, dg2, _, _, rfl, hg2, T.cl_Gains, T.a_Gains_cells, rfl, _, _, rfl, plv_tb htg2 hok hR hden, fun z4 H43 hz4 k43 => ?_⟩
    have W43 := W42.keep k43
    refine ⟨_, rfl, _, _, rfl, (same_lv (lv_tb hok) hz4 W43.dt.td).up, _, rfl, iteT ?_⟩
    have hot43 := (hot38.keep k3842).keep k43
    refine ⟨_, rfl, ot, turnT tb, rfl, hot43, okt, fun o2 H44 no2 ho2 k44 => ?_⟩
    rw [turn_turn hok] at ho2
    obtain ⟨do2, to2, ho3, hto3⟩ := look ho2
    refine ⟨o2, C_Gains, do2, _, _, rfl, ho3, T.cl_Gains, T.a_Gains_cells, rfl, _, _, rfl, plv_tb hto3 hok hR hden, fun z5 H45 hz5 k45 => ?_⟩
    have W45 := (W43.keep k44).keep k45
    exact ⟨_, rfl, _, _, rfl, (same_lv (lv_tb hok) hz5 W45.dt.td).up, k _⟩
end

theorem all_mk {l : PySem.W.OpenLaw} {w : World} {K : PySem.W.Frag} {h : Heap} {mg : Str → Option Value} {fa : Addr} (X : K.In h) (G : h.Ns mainGlobals mg) (hfa : mg "law" = some (.ref fa))
    {f_law_same : Addr} {od_law_same an_law_same : Option Addr} {sl_law_same : Array (Option Value)} {oc_law_same kV_law_same dc_law_same pm_law_same cd_law_same ct_law_same : Value}
    {f_against : Addr} {od_against an_against : Option Addr} {sl_against : Array (Option Value)} {oc_against kV_against dc_against pm_against cd_against ct_against : Value}
    {f_gain : Addr} {od_gain an_gain : Option Addr} {sl_gain : Array (Option Value)} {oc_gain kV_gain dc_gain pm_gain cd_gain ct_gain : Value}
    {f_law_told : Addr} {od_law_told an_law_told : Option Addr} {sl_law_told : Array (Option Value)} {oc_law_told kV_law_told dc_law_told pm_law_told cd_law_told ct_law_told : Value}
    {f_law_dot : Addr} {od_law_dot an_law_dot : Option Addr} {sl_law_dot : Array (Option Value)} {oc_law_dot kV_law_dot dc_law_dot pm_law_dot cd_law_dot ct_law_dot : Value}
    {f_law_row_gains : Addr} {od_law_row_gains an_law_row_gains : Option Addr} {sl_law_row_gains : Array (Option Value)} {oc_law_row_gains kV_law_row_gains dc_law_row_gains pm_law_row_gains cd_law_row_gains ct_law_row_gains : Value}
    {f_law_gain_due : Addr} {od_law_gain_due an_law_gain_due : Option Addr} {sl_law_gain_due : Array (Option Value)} {oc_law_gain_due kV_law_gain_due dc_law_gain_due pm_law_gain_due cd_law_gain_due ct_law_gain_due : Value}
    {f_law_number : Addr} {od_law_number an_law_number : Option Addr} {sl_law_number : Array (Option Value)} {oc_law_number kV_law_number dc_law_number pm_law_number cd_law_number ct_law_number : Value}
    {f_law_plain : Addr} {od_law_plain an_law_plain : Option Addr} {sl_law_plain : Array (Option Value)} {oc_law_plain kV_law_plain dc_law_plain pm_law_plain cd_law_plain ct_law_plain : Value}
    {f_law_gain : Addr} {od_law_gain an_law_gain : Option Addr} {sl_law_gain : Array (Option Value)} {oc_law_gain kV_law_gain dc_law_gain pm_law_gain cd_law_gain ct_law_gain : Value}
    {f_law_table : Addr} {od_law_table an_law_table : Option Addr} {sl_law_table : Array (Option Value)} {oc_law_table kV_law_table dc_law_table pm_law_table cd_law_table ct_law_table : Value}
    {f_law_mix : Addr} {od_law_mix an_law_mix : Option Addr} {sl_law_mix : Array (Option Value)} {oc_law_mix kV_law_mix dc_law_mix pm_law_mix cd_law_mix ct_law_mix : Value}
    {f_law_wrong : Addr} {od_law_wrong an_law_wrong : Option Addr} {sl_law_wrong : Array (Option Value)} {oc_law_wrong kV_law_wrong dc_law_wrong pm_law_wrong cd_law_wrong ct_law_wrong : Value}
    {f_law_unlike : Addr} {od_law_unlike an_law_unlike : Option Addr} {sl_law_unlike : Array (Option Value)} {oc_law_unlike kV_law_unlike dc_law_unlike pm_law_unlike cd_law_unlike ct_law_unlike : Value}
    {f_law : Addr} {od_law an_law : Option Addr} {sl_law : Array (Option Value)} {oc_law kV_law dc_law pm_law cd_law ct_law : Value}
    {f_common : Addr} {od_common an_common : Option Addr} {sl_common : Array (Option Value)} {oc_common kV_common dc_common pm_common cd_common ct_common : Value}
    {f_are_lots : Addr} {od_are_lots an_are_lots : Option Addr} {sl_are_lots : Array (Option Value)} {oc_are_lots kV_are_lots dc_are_lots pm_are_lots cd_are_lots ct_are_lots : Value}
    {f_total : Addr} {od_total an_total : Option Addr} {sl_total : Array (Option Value)} {oc_total kV_total dc_total pm_total cd_total ct_total : Value}
    {f_turned : Addr} {od_turned an_turned : Option Addr} {sl_turned : Array (Option Value)} {oc_turned kV_turned dc_turned pm_turned cd_turned ct_turned : Value}
    {f_law_pool : Addr} {od_law_pool an_law_pool : Option Addr} {sl_law_pool : Array (Option Value)} {oc_law_pool kV_law_pool dc_law_pool pm_law_pool cd_law_pool ct_law_pool : Value}
    {f_law_draw : Addr} {od_law_draw an_law_draw : Option Addr} {sl_law_draw : Array (Option Value)} {oc_law_draw kV_law_draw dc_law_draw pm_law_draw cd_law_draw ct_law_draw : Value}
    {f_law_lists : Addr} {od_law_lists an_law_lists : Option Addr} {sl_law_lists : Array (Option Value)} {oc_law_lists kV_law_lists dc_law_lists pm_law_lists cd_law_lists ct_law_lists : Value}
    {f_law_row_made : Addr} {od_law_row_made an_law_row_made : Option Addr} {sl_law_row_made : Array (Option Value)} {oc_law_row_made kV_law_row_made dc_law_row_made pm_law_row_made cd_law_row_made ct_law_row_made : Value}
    {f_law_turned : Addr} {od_law_turned an_law_turned : Option Addr} {sl_law_turned : Array (Option Value)} {oc_law_turned kV_law_turned dc_law_turned pm_law_turned cd_law_turned ct_law_turned : Value}
    {f_law_gcd : Addr} {od_law_gcd an_law_gcd : Option Addr} {sl_law_gcd : Array (Option Value)} {oc_law_gcd kV_law_gcd dc_law_gcd pm_law_gcd cd_law_gcd ct_law_gcd : Value}
    {f_law_less : Addr} {od_law_less an_law_less : Option Addr} {sl_law_less : Array (Option Value)} {oc_law_less kV_law_less dc_law_less pm_law_less cd_law_less ct_law_less : Value}
    {f_law_plus : Addr} {od_law_plus an_law_plus : Option Addr} {sl_law_plus : Array (Option Value)} {oc_law_plus kV_law_plus dc_law_plus pm_law_plus cd_law_plus ct_law_plus : Value}
    {f_law_times : Addr} {od_law_times an_law_times : Option Addr} {sl_law_times : Array (Option Value)} {oc_law_times kV_law_times dc_law_times pm_law_times cd_law_times ct_law_times : Value}
    {C_Ratio : Addr}
    {C_Gains : Addr}
    {f_Ratio___init : Addr} {od_Ratio___init an_Ratio___init : Option Addr} {sl_Ratio___init : Array (Option Value)} {oc_Ratio___init kV_Ratio___init dc_Ratio___init pm_Ratio___init cd_Ratio___init ct_Ratio___init : Value}
    {T_Ratio___init : Addr} {oT_Ratio___init : Value} {dT_Ratio___init : Option Addr} {nT_Ratio___init : Nat} {slT_Ratio___init : Array (Option Value)} {t_Ratio___init : Tok}
    {f_Ratio___eq : Addr} {od_Ratio___eq an_Ratio___eq : Option Addr} {sl_Ratio___eq : Array (Option Value)} {oc_Ratio___eq kV_Ratio___eq dc_Ratio___eq pm_Ratio___eq cd_Ratio___eq ct_Ratio___eq : Value}
    {f_Gains___init : Addr} {od_Gains___init an_Gains___init : Option Addr} {sl_Gains___init : Array (Option Value)} {oc_Gains___init kV_Gains___init dc_Gains___init pm_Gains___init cd_Gains___init ct_Gains___init : Value}
    {f_Gains___eq : Addr} {od_Gains___eq an_Gains___eq : Option Addr} {sl_Gains___eq : Array (Option Value)} {oc_Gains___eq kV_Gains___eq dc_Gains___eq pm_Gains___eq cd_Gains___eq ct_Gains___eq : Value}
    {f_Gains_width : Addr} {od_Gains_width an_Gains_width : Option Addr} {sl_Gains_width : Array (Option Value)} {oc_Gains_width kV_Gains_width dc_Gains_width pm_Gains_width cd_Gains_width ct_Gains_width : Value}
    {f_Gains_own : Addr} {od_Gains_own an_Gains_own : Option Addr} {sl_Gains_own : Array (Option Value)} {oc_Gains_own kV_Gains_own dc_Gains_own pm_Gains_own cd_Gains_own ct_Gains_own : Value}
    {f_Ratio___add : Addr} {od_Ratio___add an_Ratio___add : Option Addr} {sl_Ratio___add : Array (Option Value)} {oc_Ratio___add kV_Ratio___add dc_Ratio___add pm_Ratio___add cd_Ratio___add ct_Ratio___add : Value}
    {f_Ratio___mul : Addr} {od_Ratio___mul an_Ratio___mul : Option Addr} {sl_Ratio___mul : Array (Option Value)} {oc_Ratio___mul kV_Ratio___mul dc_Ratio___mul pm_Ratio___mul cd_Ratio___mul ct_Ratio___mul : Value}
    {C_GameError : Addr}
    {C_BadEdit : Addr}
    {C_BadPlan : Addr}
    {C_BadRatio : Addr}
    {C_BadText : Addr}
    {C_TooLarge : Addr}
    {C_BadGains : Addr}
    {nm_BadGains q_BadGains : Str} {N_BadGains : Addr} {bs_BadGains : List Value} {sn_BadGains : List Str} {sub_BadGains : List Value} {ab_BadGains : Bool} {col_BadGains : Option Bool} {dd_BadGains : Option Addr} {m0_BadGains m1_BadGains m2_BadGains m3_BadGains m5_BadGains : Option Value}
    {f_BadGains___init cda_BadGains___init cc_BadGains___init : Addr} {od_BadGains___init an_BadGains___init cld_BadGains___init cdd_BadGains___init : Option Addr} {sl_BadGains___init csl_BadGains___init ccs_BadGains___init : Array (Option Value)} {vs_BadGains___init : Array Value} {oc_BadGains___init dc_BadGains___init pm_BadGains___init ct_BadGains___init cl_BadGains___init ccl_BadGains___init : Value} {file_BadGains___init : Str} {tf_BadGains___init : Tok}
    {t_MOST_MOVES : Tok}
    (a_law_same : PySem.W.nsIn K mainGlobals "_law_same" = some (some (.ref f_law_same))) (l_law_same : K.lookup f_law_same = some ⟨oc_law_same, od_law_same, .func (PySem.W.fnOf "_law_same" "_law_same" (fnArgs s_law_same) (fnBody s_law_same) (fnScope s_law_same) .none kV_law_same dc_law_same pm_law_same an_law_same cd_law_same ct_law_same), sl_law_same⟩) (c_law_same : PySem.W.codeIn K cd_law_same "_law_same" = true) (k_law_same : PySem.W.keepIn K (.ref f_law_same) = true)
    (a_against : PySem.W.nsIn K mainGlobals "against" = some (some (.ref f_against))) (l_against : K.lookup f_against = some ⟨oc_against, od_against, .func (PySem.W.fnOf "against" "against" (fnArgs s_against) (fnBody s_against) (fnScope s_against) .none kV_against dc_against pm_against an_against cd_against ct_against), sl_against⟩) (c_against : PySem.W.codeIn K cd_against "against" = true) (k_against : PySem.W.keepIn K (.ref f_against) = true)
    (a_gain : PySem.W.nsIn K mainGlobals "gain" = some (some (.ref f_gain))) (l_gain : K.lookup f_gain = some ⟨oc_gain, od_gain, .func (PySem.W.fnOf "gain" "gain" (fnArgs s_gain) (fnBody s_gain) (fnScope s_gain) .none kV_gain dc_gain pm_gain an_gain cd_gain ct_gain), sl_gain⟩) (c_gain : PySem.W.codeIn K cd_gain "gain" = true) (k_gain : PySem.W.keepIn K (.ref f_gain) = true)
    (a_law_told : PySem.W.nsIn K mainGlobals "_law_told" = some (some (.ref f_law_told))) (l_law_told : K.lookup f_law_told = some ⟨oc_law_told, od_law_told, .func (PySem.W.fnOf "_law_told" "_law_told" (fnArgs s_law_told) (fnBody s_law_told) (fnScope s_law_told) .none kV_law_told dc_law_told pm_law_told an_law_told cd_law_told ct_law_told), sl_law_told⟩) (c_law_told : PySem.W.codeIn K cd_law_told "_law_told" = true) (k_law_told : PySem.W.keepIn K (.ref f_law_told) = true)
    (a_law_dot : PySem.W.nsIn K mainGlobals "_law_dot" = some (some (.ref f_law_dot))) (l_law_dot : K.lookup f_law_dot = some ⟨oc_law_dot, od_law_dot, .func (PySem.W.fnOf "_law_dot" "_law_dot" (fnArgs s_law_dot) (fnBody s_law_dot) (fnScope s_law_dot) .none kV_law_dot dc_law_dot pm_law_dot an_law_dot cd_law_dot ct_law_dot), sl_law_dot⟩) (c_law_dot : PySem.W.codeIn K cd_law_dot "_law_dot" = true) (k_law_dot : PySem.W.keepIn K (.ref f_law_dot) = true)
    (a_law_row_gains : PySem.W.nsIn K mainGlobals "_law_row_gains" = some (some (.ref f_law_row_gains))) (l_law_row_gains : K.lookup f_law_row_gains = some ⟨oc_law_row_gains, od_law_row_gains, .func (PySem.W.fnOf "_law_row_gains" "_law_row_gains" (fnArgs s_law_row_gains) (fnBody s_law_row_gains) (fnScope s_law_row_gains) .none kV_law_row_gains dc_law_row_gains pm_law_row_gains an_law_row_gains cd_law_row_gains ct_law_row_gains), sl_law_row_gains⟩) (c_law_row_gains : PySem.W.codeIn K cd_law_row_gains "_law_row_gains" = true) (k_law_row_gains : PySem.W.keepIn K (.ref f_law_row_gains) = true)
    (a_law_gain_due : PySem.W.nsIn K mainGlobals "_law_gain_due" = some (some (.ref f_law_gain_due))) (l_law_gain_due : K.lookup f_law_gain_due = some ⟨oc_law_gain_due, od_law_gain_due, .func (PySem.W.fnOf "_law_gain_due" "_law_gain_due" (fnArgs s_law_gain_due) (fnBody s_law_gain_due) (fnScope s_law_gain_due) .none kV_law_gain_due dc_law_gain_due pm_law_gain_due an_law_gain_due cd_law_gain_due ct_law_gain_due), sl_law_gain_due⟩) (c_law_gain_due : PySem.W.codeIn K cd_law_gain_due "_law_gain_due" = true) (k_law_gain_due : PySem.W.keepIn K (.ref f_law_gain_due) = true)
    (a_law_number : PySem.W.nsIn K mainGlobals "_law_number" = some (some (.ref f_law_number))) (l_law_number : K.lookup f_law_number = some ⟨oc_law_number, od_law_number, .func (PySem.W.fnOf "_law_number" "_law_number" (fnArgs s_law_number) (fnBody s_law_number) (fnScope s_law_number) .none kV_law_number dc_law_number pm_law_number an_law_number cd_law_number ct_law_number), sl_law_number⟩) (c_law_number : PySem.W.codeIn K cd_law_number "_law_number" = true) (k_law_number : PySem.W.keepIn K (.ref f_law_number) = true)
    (a_law_plain : PySem.W.nsIn K mainGlobals "_law_plain" = some (some (.ref f_law_plain))) (l_law_plain : K.lookup f_law_plain = some ⟨oc_law_plain, od_law_plain, .func (PySem.W.fnOf "_law_plain" "_law_plain" (fnArgs s_law_plain) (fnBody s_law_plain) (fnScope s_law_plain) .none kV_law_plain dc_law_plain pm_law_plain an_law_plain cd_law_plain ct_law_plain), sl_law_plain⟩) (c_law_plain : PySem.W.codeIn K cd_law_plain "_law_plain" = true) (k_law_plain : PySem.W.keepIn K (.ref f_law_plain) = true)
    (a_law_gain : PySem.W.nsIn K mainGlobals "_law_gain" = some (some (.ref f_law_gain))) (l_law_gain : K.lookup f_law_gain = some ⟨oc_law_gain, od_law_gain, .func (PySem.W.fnOf "_law_gain" "_law_gain" (fnArgs s_law_gain) (fnBody s_law_gain) (fnScope s_law_gain) .none kV_law_gain dc_law_gain pm_law_gain an_law_gain cd_law_gain ct_law_gain), sl_law_gain⟩) (c_law_gain : PySem.W.codeIn K cd_law_gain "_law_gain" = true) (k_law_gain : PySem.W.keepIn K (.ref f_law_gain) = true)
    (a_law_table : PySem.W.nsIn K mainGlobals "_law_table" = some (some (.ref f_law_table))) (l_law_table : K.lookup f_law_table = some ⟨oc_law_table, od_law_table, .func (PySem.W.fnOf "_law_table" "_law_table" (fnArgs s_law_table) (fnBody s_law_table) (fnScope s_law_table) .none kV_law_table dc_law_table pm_law_table an_law_table cd_law_table ct_law_table), sl_law_table⟩) (c_law_table : PySem.W.codeIn K cd_law_table "_law_table" = true) (k_law_table : PySem.W.keepIn K (.ref f_law_table) = true)
    (a_law_mix : PySem.W.nsIn K mainGlobals "_law_mix" = some (some (.ref f_law_mix))) (l_law_mix : K.lookup f_law_mix = some ⟨oc_law_mix, od_law_mix, .func (PySem.W.fnOf "_law_mix" "_law_mix" (fnArgs s_law_mix) (fnBody s_law_mix) (fnScope s_law_mix) .none kV_law_mix dc_law_mix pm_law_mix an_law_mix cd_law_mix ct_law_mix), sl_law_mix⟩) (c_law_mix : PySem.W.codeIn K cd_law_mix "_law_mix" = true) (k_law_mix : PySem.W.keepIn K (.ref f_law_mix) = true)
    (a_law_wrong : PySem.W.nsIn K mainGlobals "_law_wrong" = some (some (.ref f_law_wrong))) (l_law_wrong : K.lookup f_law_wrong = some ⟨oc_law_wrong, od_law_wrong, .func (PySem.W.fnOf "_law_wrong" "_law_wrong" (fnArgs s_law_wrong) (fnBody s_law_wrong) (fnScope s_law_wrong) .none kV_law_wrong dc_law_wrong pm_law_wrong an_law_wrong cd_law_wrong ct_law_wrong), sl_law_wrong⟩) (c_law_wrong : PySem.W.codeIn K cd_law_wrong "_law_wrong" = true) (k_law_wrong : PySem.W.keepIn K (.ref f_law_wrong) = true)
    (a_law_unlike : PySem.W.nsIn K mainGlobals "_law_unlike" = some (some (.ref f_law_unlike))) (l_law_unlike : K.lookup f_law_unlike = some ⟨oc_law_unlike, od_law_unlike, .func (PySem.W.fnOf "_law_unlike" "_law_unlike" (fnArgs s_law_unlike) (fnBody s_law_unlike) (fnScope s_law_unlike) .none kV_law_unlike dc_law_unlike pm_law_unlike an_law_unlike cd_law_unlike ct_law_unlike), sl_law_unlike⟩) (c_law_unlike : PySem.W.codeIn K cd_law_unlike "_law_unlike" = true) (k_law_unlike : PySem.W.keepIn K (.ref f_law_unlike) = true)
    (a_law : PySem.W.nsIn K mainGlobals "law" = some (some (.ref f_law))) (l_law : K.lookup f_law = some ⟨oc_law, od_law, .func (PySem.W.fnOf "law" "law" (fnArgs s_law) (fnBody s_law) (fnScope s_law) .none kV_law dc_law pm_law an_law cd_law ct_law), sl_law⟩) (c_law : PySem.W.codeIn K cd_law "law" = true) (k_law : PySem.W.keepIn K (.ref f_law) = true)
    (a_common : PySem.W.nsIn K mainGlobals "common" = some (some (.ref f_common))) (l_common : K.lookup f_common = some ⟨oc_common, od_common, .func (PySem.W.fnOf "common" "common" (fnArgs s_common) (fnBody s_common) (fnScope s_common) .none kV_common dc_common pm_common an_common cd_common ct_common), sl_common⟩) (c_common : PySem.W.codeIn K cd_common "common" = true) (k_common : PySem.W.keepIn K (.ref f_common) = true)
    (a_are_lots : PySem.W.nsIn K mainGlobals "are_lots" = some (some (.ref f_are_lots))) (l_are_lots : K.lookup f_are_lots = some ⟨oc_are_lots, od_are_lots, .func (PySem.W.fnOf "are_lots" "are_lots" (fnArgs s_are_lots) (fnBody s_are_lots) (fnScope s_are_lots) .none kV_are_lots dc_are_lots pm_are_lots an_are_lots cd_are_lots ct_are_lots), sl_are_lots⟩) (c_are_lots : PySem.W.codeIn K cd_are_lots "are_lots" = true) (k_are_lots : PySem.W.keepIn K (.ref f_are_lots) = true)
    (a_total : PySem.W.nsIn K mainGlobals "total" = some (some (.ref f_total))) (l_total : K.lookup f_total = some ⟨oc_total, od_total, .func (PySem.W.fnOf "total" "total" (fnArgs s_total) (fnBody s_total) (fnScope s_total) .none kV_total dc_total pm_total an_total cd_total ct_total), sl_total⟩) (c_total : PySem.W.codeIn K cd_total "total" = true) (k_total : PySem.W.keepIn K (.ref f_total) = true)
    (a_turned : PySem.W.nsIn K mainGlobals "turned" = some (some (.ref f_turned))) (l_turned : K.lookup f_turned = some ⟨oc_turned, od_turned, .func (PySem.W.fnOf "turned" "turned" (fnArgs s_turned) (fnBody s_turned) (fnScope s_turned) .none kV_turned dc_turned pm_turned an_turned cd_turned ct_turned), sl_turned⟩) (c_turned : PySem.W.codeIn K cd_turned "turned" = true) (k_turned : PySem.W.keepIn K (.ref f_turned) = true)
    (a_law_pool : PySem.W.nsIn K mainGlobals "_law_pool" = some (some (.ref f_law_pool))) (l_law_pool : K.lookup f_law_pool = some ⟨oc_law_pool, od_law_pool, .func (PySem.W.fnOf "_law_pool" "_law_pool" (fnArgs s_law_pool) (fnBody s_law_pool) (fnScope s_law_pool) .none kV_law_pool dc_law_pool pm_law_pool an_law_pool cd_law_pool ct_law_pool), sl_law_pool⟩) (c_law_pool : PySem.W.codeIn K cd_law_pool "_law_pool" = true) (k_law_pool : PySem.W.keepIn K (.ref f_law_pool) = true)
    (a_law_draw : PySem.W.nsIn K mainGlobals "_law_draw" = some (some (.ref f_law_draw))) (l_law_draw : K.lookup f_law_draw = some ⟨oc_law_draw, od_law_draw, .func (PySem.W.fnOf "_law_draw" "_law_draw" (fnArgs s_law_draw) (fnBody s_law_draw) (fnScope s_law_draw) .none kV_law_draw dc_law_draw pm_law_draw an_law_draw cd_law_draw ct_law_draw), sl_law_draw⟩) (c_law_draw : PySem.W.codeIn K cd_law_draw "_law_draw" = true) (k_law_draw : PySem.W.keepIn K (.ref f_law_draw) = true)
    (a_law_lists : PySem.W.nsIn K mainGlobals "_law_lists" = some (some (.ref f_law_lists))) (l_law_lists : K.lookup f_law_lists = some ⟨oc_law_lists, od_law_lists, .func (PySem.W.fnOf "_law_lists" "_law_lists" (fnArgs s_law_lists) (fnBody s_law_lists) (fnScope s_law_lists) .none kV_law_lists dc_law_lists pm_law_lists an_law_lists cd_law_lists ct_law_lists), sl_law_lists⟩) (c_law_lists : PySem.W.codeIn K cd_law_lists "_law_lists" = true) (k_law_lists : PySem.W.keepIn K (.ref f_law_lists) = true)
    (a_law_row_made : PySem.W.nsIn K mainGlobals "_law_row_made" = some (some (.ref f_law_row_made))) (l_law_row_made : K.lookup f_law_row_made = some ⟨oc_law_row_made, od_law_row_made, .func (PySem.W.fnOf "_law_row_made" "_law_row_made" (fnArgs s_law_row_made) (fnBody s_law_row_made) (fnScope s_law_row_made) .none kV_law_row_made dc_law_row_made pm_law_row_made an_law_row_made cd_law_row_made ct_law_row_made), sl_law_row_made⟩) (c_law_row_made : PySem.W.codeIn K cd_law_row_made "_law_row_made" = true) (k_law_row_made : PySem.W.keepIn K (.ref f_law_row_made) = true)
    (a_law_turned : PySem.W.nsIn K mainGlobals "_law_turned" = some (some (.ref f_law_turned))) (l_law_turned : K.lookup f_law_turned = some ⟨oc_law_turned, od_law_turned, .func (PySem.W.fnOf "_law_turned" "_law_turned" (fnArgs s_law_turned) (fnBody s_law_turned) (fnScope s_law_turned) .none kV_law_turned dc_law_turned pm_law_turned an_law_turned cd_law_turned ct_law_turned), sl_law_turned⟩) (c_law_turned : PySem.W.codeIn K cd_law_turned "_law_turned" = true) (k_law_turned : PySem.W.keepIn K (.ref f_law_turned) = true)
    (a_law_gcd : PySem.W.nsIn K mainGlobals "_law_gcd" = some (some (.ref f_law_gcd))) (l_law_gcd : K.lookup f_law_gcd = some ⟨oc_law_gcd, od_law_gcd, .func (PySem.W.fnOf "_law_gcd" "_law_gcd" (fnArgs s_law_gcd) (fnBody s_law_gcd) (fnScope s_law_gcd) .none kV_law_gcd dc_law_gcd pm_law_gcd an_law_gcd cd_law_gcd ct_law_gcd), sl_law_gcd⟩) (c_law_gcd : PySem.W.codeIn K cd_law_gcd "_law_gcd" = true) (k_law_gcd : PySem.W.keepIn K (.ref f_law_gcd) = true)
    (a_law_less : PySem.W.nsIn K mainGlobals "_law_less" = some (some (.ref f_law_less))) (l_law_less : K.lookup f_law_less = some ⟨oc_law_less, od_law_less, .func (PySem.W.fnOf "_law_less" "_law_less" (fnArgs s_law_less) (fnBody s_law_less) (fnScope s_law_less) .none kV_law_less dc_law_less pm_law_less an_law_less cd_law_less ct_law_less), sl_law_less⟩) (c_law_less : PySem.W.codeIn K cd_law_less "_law_less" = true) (k_law_less : PySem.W.keepIn K (.ref f_law_less) = true)
    (a_law_plus : PySem.W.nsIn K mainGlobals "_law_plus" = some (some (.ref f_law_plus))) (l_law_plus : K.lookup f_law_plus = some ⟨oc_law_plus, od_law_plus, .func (PySem.W.fnOf "_law_plus" "_law_plus" (fnArgs s_law_plus) (fnBody s_law_plus) (fnScope s_law_plus) .none kV_law_plus dc_law_plus pm_law_plus an_law_plus cd_law_plus ct_law_plus), sl_law_plus⟩) (c_law_plus : PySem.W.codeIn K cd_law_plus "_law_plus" = true) (k_law_plus : PySem.W.keepIn K (.ref f_law_plus) = true)
    (a_law_times : PySem.W.nsIn K mainGlobals "_law_times" = some (some (.ref f_law_times))) (l_law_times : K.lookup f_law_times = some ⟨oc_law_times, od_law_times, .func (PySem.W.fnOf "_law_times" "_law_times" (fnArgs s_law_times) (fnBody s_law_times) (fnScope s_law_times) .none kV_law_times dc_law_times pm_law_times an_law_times cd_law_times ct_law_times), sl_law_times⟩) (c_law_times : PySem.W.codeIn K cd_law_times "_law_times" = true) (k_law_times : PySem.W.keepIn K (.ref f_law_times) = true)
    (mc_Ratio : PySem.W.nsIn K mainGlobals "Ratio" = some (some (.ref C_Ratio)))
    (pg_Ratio : PySem.W.plainGet K C_Ratio Str.empty = true)
    (hd_Ratio : PySem.W.hasDictIn K C_Ratio = true)
    (po_Ratio : PySem.W.plainOver K C_Ratio = true)
    (sa_Ratio : PySem.W.findIn K (.ref C_Ratio) "__setattr__" = some (some (.builtin "object.__setattr__")))
    (mk_Ratio : PySem.W.makesIn K C_Ratio = true)
    (kc_Ratio : PySem.W.keepIn K (.ref C_Ratio) = true)
    (ha_Ratio : PySem.W.findIn K (.ref C_Ratio) "__class__" = some (some (.builtin "object.__class__")))
    (hn_Ratio : PySem.W.specialIn K (.builtin "object.__class__") "__get__" = some (some (.builtin "getset_descriptor.__get__")))
    (ht_Ratio : PySem.W.takesIn K (.builtin "object.__class__") = some true)
    (hm_Ratio : PySem.W.mroIn K C_Ratio (.type "object") = some true)
    (nnum_Ratio : PySem.W.findIn K (.ref C_Ratio) "num" = some none)
    (nden_Ratio : PySem.W.findIn K (.ref C_Ratio) "den" = some none)
    (mc_Gains : PySem.W.nsIn K mainGlobals "Gains" = some (some (.ref C_Gains)))
    (pg_Gains : PySem.W.plainGet K C_Gains Str.empty = true)
    (hd_Gains : PySem.W.hasDictIn K C_Gains = true)
    (po_Gains : PySem.W.plainOver K C_Gains = true)
    (sa_Gains : PySem.W.findIn K (.ref C_Gains) "__setattr__" = some (some (.builtin "object.__setattr__")))
    (mk_Gains : PySem.W.makesIn K C_Gains = true)
    (kc_Gains : PySem.W.keepIn K (.ref C_Gains) = true)
    (ha_Gains : PySem.W.findIn K (.ref C_Gains) "__class__" = some (some (.builtin "object.__class__")))
    (hn_Gains : PySem.W.specialIn K (.builtin "object.__class__") "__get__" = some (some (.builtin "getset_descriptor.__get__")))
    (ht_Gains : PySem.W.takesIn K (.builtin "object.__class__") = some true)
    (hm_Gains : PySem.W.mroIn K C_Gains (.type "object") = some true)
    (ncells_Gains : PySem.W.findIn K (.ref C_Gains) "cells" = some none)
    (a_Ratio___init : PySem.W.findIn K (.ref C_Ratio) "__init__" = some (some (.ref f_Ratio___init))) (i_Ratio___init : PySem.W.isFn K (.ref f_Ratio___init) = true) (l_Ratio___init : K.lookup f_Ratio___init = some ⟨oc_Ratio___init, od_Ratio___init, .func (PySem.W.fnOf "__init__" "Ratio.__init__" (fnArgs s_Ratio___init) (fnBody s_Ratio___init) (fnScope s_Ratio___init) (.ref T_Ratio___init) kV_Ratio___init dc_Ratio___init pm_Ratio___init an_Ratio___init cd_Ratio___init ct_Ratio___init), sl_Ratio___init⟩) (c_Ratio___init : PySem.W.codeIn K cd_Ratio___init "Ratio.__init__" = true) (k_Ratio___init : PySem.W.keepIn K (.ref f_Ratio___init) = true)
    (lT_Ratio___init : K.lookup T_Ratio___init = some ⟨oT_Ratio___init, dT_Ratio___init, .seq #[.int 1 t_Ratio___init] nT_Ratio___init, slT_Ratio___init⟩)
    (a_Ratio___eq : PySem.W.findIn K (.ref C_Ratio) "__eq__" = some (some (.ref f_Ratio___eq))) (i_Ratio___eq : PySem.W.isFn K (.ref f_Ratio___eq) = true) (l_Ratio___eq : K.lookup f_Ratio___eq = some ⟨oc_Ratio___eq, od_Ratio___eq, .func (PySem.W.fnOf "__eq__" "Ratio.__eq__" (fnArgs s_Ratio___eq) (fnBody s_Ratio___eq) (fnScope s_Ratio___eq) .none kV_Ratio___eq dc_Ratio___eq pm_Ratio___eq an_Ratio___eq cd_Ratio___eq ct_Ratio___eq), sl_Ratio___eq⟩) (c_Ratio___eq : PySem.W.codeIn K cd_Ratio___eq "Ratio.__eq__" = true) (k_Ratio___eq : PySem.W.keepIn K (.ref f_Ratio___eq) = true)
    (a_Gains___init : PySem.W.findIn K (.ref C_Gains) "__init__" = some (some (.ref f_Gains___init))) (i_Gains___init : PySem.W.isFn K (.ref f_Gains___init) = true) (l_Gains___init : K.lookup f_Gains___init = some ⟨oc_Gains___init, od_Gains___init, .func (PySem.W.fnOf "__init__" "Gains.__init__" (fnArgs s_Gains___init) (fnBody s_Gains___init) (fnScope s_Gains___init) .none kV_Gains___init dc_Gains___init pm_Gains___init an_Gains___init cd_Gains___init ct_Gains___init), sl_Gains___init⟩) (c_Gains___init : PySem.W.codeIn K cd_Gains___init "Gains.__init__" = true) (k_Gains___init : PySem.W.keepIn K (.ref f_Gains___init) = true)
    (a_Gains___eq : PySem.W.findIn K (.ref C_Gains) "__eq__" = some (some (.ref f_Gains___eq))) (i_Gains___eq : PySem.W.isFn K (.ref f_Gains___eq) = true) (l_Gains___eq : K.lookup f_Gains___eq = some ⟨oc_Gains___eq, od_Gains___eq, .func (PySem.W.fnOf "__eq__" "Gains.__eq__" (fnArgs s_Gains___eq) (fnBody s_Gains___eq) (fnScope s_Gains___eq) .none kV_Gains___eq dc_Gains___eq pm_Gains___eq an_Gains___eq cd_Gains___eq ct_Gains___eq), sl_Gains___eq⟩) (c_Gains___eq : PySem.W.codeIn K cd_Gains___eq "Gains.__eq__" = true) (k_Gains___eq : PySem.W.keepIn K (.ref f_Gains___eq) = true)
    (a_Gains_width : PySem.W.findIn K (.ref C_Gains) "width" = some (some (.ref f_Gains_width))) (i_Gains_width : PySem.W.isFn K (.ref f_Gains_width) = true) (l_Gains_width : K.lookup f_Gains_width = some ⟨oc_Gains_width, od_Gains_width, .func (PySem.W.fnOf "width" "Gains.width" (fnArgs s_Gains_width) (fnBody s_Gains_width) (fnScope s_Gains_width) .none kV_Gains_width dc_Gains_width pm_Gains_width an_Gains_width cd_Gains_width ct_Gains_width), sl_Gains_width⟩) (c_Gains_width : PySem.W.codeIn K cd_Gains_width "Gains.width" = true) (k_Gains_width : PySem.W.keepIn K (.ref f_Gains_width) = true)
    (a_Gains_own : PySem.W.findIn K (.ref C_Gains) "own" = some (some (.ref f_Gains_own))) (i_Gains_own : PySem.W.isFn K (.ref f_Gains_own) = true) (l_Gains_own : K.lookup f_Gains_own = some ⟨oc_Gains_own, od_Gains_own, .func (PySem.W.fnOf "own" "Gains.own" (fnArgs s_Gains_own) (fnBody s_Gains_own) (fnScope s_Gains_own) .none kV_Gains_own dc_Gains_own pm_Gains_own an_Gains_own cd_Gains_own ct_Gains_own), sl_Gains_own⟩) (c_Gains_own : PySem.W.codeIn K cd_Gains_own "Gains.own" = true) (k_Gains_own : PySem.W.keepIn K (.ref f_Gains_own) = true)
    (a_Ratio___add : PySem.W.findIn K (.ref C_Ratio) "__add__" = some (some (.ref f_Ratio___add))) (i_Ratio___add : PySem.W.isFn K (.ref f_Ratio___add) = true) (l_Ratio___add : K.lookup f_Ratio___add = some ⟨oc_Ratio___add, od_Ratio___add, .func (PySem.W.fnOf "__add__" "Ratio.__add__" (fnArgs s_Ratio___add) (fnBody s_Ratio___add) (fnScope s_Ratio___add) .none kV_Ratio___add dc_Ratio___add pm_Ratio___add an_Ratio___add cd_Ratio___add ct_Ratio___add), sl_Ratio___add⟩) (c_Ratio___add : PySem.W.codeIn K cd_Ratio___add "Ratio.__add__" = true) (k_Ratio___add : PySem.W.keepIn K (.ref f_Ratio___add) = true)
    (a_Ratio___mul : PySem.W.findIn K (.ref C_Ratio) "__mul__" = some (some (.ref f_Ratio___mul))) (i_Ratio___mul : PySem.W.isFn K (.ref f_Ratio___mul) = true) (l_Ratio___mul : K.lookup f_Ratio___mul = some ⟨oc_Ratio___mul, od_Ratio___mul, .func (PySem.W.fnOf "__mul__" "Ratio.__mul__" (fnArgs s_Ratio___mul) (fnBody s_Ratio___mul) (fnScope s_Ratio___mul) .none kV_Ratio___mul dc_Ratio___mul pm_Ratio___mul an_Ratio___mul cd_Ratio___mul ct_Ratio___mul), sl_Ratio___mul⟩) (c_Ratio___mul : PySem.W.codeIn K cd_Ratio___mul "Ratio.__mul__" = true) (k_Ratio___mul : PySem.W.keepIn K (.ref f_Ratio___mul) = true)
    (mc_GameError : PySem.W.nsIn K mainGlobals "GameError" = some (some (.ref C_GameError)))
    (mc_BadEdit : PySem.W.nsIn K mainGlobals "BadEdit" = some (some (.ref C_BadEdit)))
    (mc_BadPlan : PySem.W.nsIn K mainGlobals "BadPlan" = some (some (.ref C_BadPlan)))
    (mc_BadRatio : PySem.W.nsIn K mainGlobals "BadRatio" = some (some (.ref C_BadRatio)))
    (mc_BadText : PySem.W.nsIn K mainGlobals "BadText" = some (some (.ref C_BadText)))
    (mc_TooLarge : PySem.W.nsIn K mainGlobals "TooLarge" = some (some (.ref C_TooLarge)))
    (mc_BadGains : PySem.W.nsIn K mainGlobals "BadGains" = some (some (.ref C_BadGains)))
    (opq : PySem.W.nsIn K PySem.cStatics "thirdparty.any" = some none)
    (zsup : PySem.W.nsIn K mainGlobals "super" = some none)
    (ptop : (l.prog.main.scope.names.lookup ("super" : Str)).isSome = false)
    (xsp : PySem.W.specialIn K (.builtin "object.__class__") "__get__" = some (some (.builtin "getset_descriptor.__get__")))
    (xtk : PySem.W.takesIn K (.builtin "object.__class__") = some true)
    (xL_BadGains : K.lookup C_BadGains = some (excClassObj nm_BadGains q_BadGains C_BadGains N_BadGains bs_BadGains [.ref C_GameError, .type "ValueError", .type "Exception", .type "BaseException", .type "object"] true sn_BadGains sub_BadGains ab_BadGains col_BadGains dd_BadGains m0_BadGains m1_BadGains m2_BadGains m3_BadGains m5_BadGains "ValueError.__new__"))
    (al_BadGains : PySem.W.ks_superIn K C_BadGains C_BadGains "__init__" = some (some (.builtin "ValueError.__init__")))
    (ve_BadGains : PySem.W.subIn K (.ref C_BadGains) (.type "ValueError") = some true)
    (sa_BadGains : PySem.W.findIn K (.ref C_BadGains) "__setattr__" = some (some (.builtin "object.__setattr__")))
    (ga_BadGains : PySem.W.findIn K (.ref C_BadGains) "__getattribute__" = some (some (.builtin "BaseException.__getattribute__")))
    (gg_BadGains : PySem.W.findIn K (.ref C_BadGains) "__getattr__" = some none)
    (nb_BadGains : PySem.W.findIn K (.ref C_BadGains) "what" = some none)
    (iC_BadGains : PySem.W.findIn K (.ref C_BadGains) "__init__" = some (some (.ref f_BadGains___init)))
    (tf_BadGains : PySem.W.typeIn K (.ref f_BadGains___init) = some (.type "function"))
    (kC_BadGains : PySem.W.keepIn K (.ref C_BadGains) = true)
    (eC_BadGains : PySem.W.subIn K (.ref C_BadGains) (.type "BaseException") = some true)
    (tC_BadGains : PySem.W.typeIn K (.ref C_BadGains) = some (.type "type"))
    (hC_BadGains : PySem.W.hasDictIn K C_BadGains = true)
    (mo_BadGains : PySem.W.mroIn K C_BadGains (.ref C_BadGains) = some true)
    (ma_BadGains : PySem.W.mroIn K C_BadGains (.type "object") = some true)
    (ca_BadGains : PySem.W.findIn K (.ref C_BadGains) "__class__" = some (some (.builtin "object.__class__")))
    (ss_BadGains : PySem.W.subIn K (.ref C_BadGains) (.ref C_BadGains) = some true)
    (lf_BadGains : K.lookup f_BadGains___init = some ⟨oc_BadGains___init, od_BadGains___init, .func (PySem.W.fnX "__init__" "BadGains.__init__" (fnArgs s_BadGains___init) (fnBody s_BadGains___init) (fnScope s_BadGains___init) [("__class__", cc_BadGains___init)] .none .none dc_BadGains___init pm_BadGains___init an_BadGains___init (.ref cda_BadGains___init) ct_BadGains___init), sl_BadGains___init⟩)
    (cf_BadGains : PySem.W.codeIn K (.ref cda_BadGains___init) "BadGains.__init__" = true)
    (lc_BadGains : K.lookup cc_BadGains___init = some ⟨cl_BadGains___init, cld_BadGains___init, .cell (some (.ref C_BadGains)), csl_BadGains___init⟩)
    (ld_BadGains : K.lookup cda_BadGains___init = some ⟨ccl_BadGains___init, cdd_BadGains___init, .fields vs_BadGains___init, ccs_BadGains___init⟩)
    (vf_BadGains : vs_BadGains___init[2]? = some (.str file_BadGains___init tf_BadGains___init))
    (fe_BadGains : ((l.prog.main.file : Str) == file_BadGains___init) = true)
    (hsfR : PySem.W.selfFirst K C_Ratio = true)
    (hgE : PySem.W.subIn K (.ref C_GameError) (.type "BaseException") = some true)
    (hgH : PySem.W.hasDictIn K C_GameError = true)
    (hgT : PySem.W.typeIn K (.ref C_GameError) = some (.type "type"))
    (hgS : PySem.W.subIn K (.ref C_BadGains) (.ref C_GameError) = some true)
    (hkX : PySem.W.kitAny K (.ref C_BadGains) [.ref C_BadEdit, .ref C_BadPlan, .ref C_BadRatio, .ref C_BadText, .ref C_TooLarge] = some false)
    (hkTR : PySem.W.kitOne K (.type "tuple") (.ref C_Ratio) = some false)
    (hnR : PySem.W.findIn K (.ref C_Ratio) "__ne__" = some (some (.builtin "object.__ne__")))
    (z_MOST_MOVES : PySem.W.nsIn K mainGlobals "MOST_MOVES" = some (some (.int 8 t_MOST_MOVES)))
    (z_gcd : PySem.W.nsIn K mainGlobals "gcd" = some (some (.builtin "math.gcd")))
    (z_lcm : PySem.W.nsIn K mainGlobals "lcm" = some (some (.builtin "math.lcm")))
    (z_abs : PySem.W.nsIn K mainGlobals "abs" = some none)
    (z_all : PySem.W.nsIn K mainGlobals "all" = some none)
    (z_any : PySem.W.nsIn K mainGlobals "any" = some none)
    (z_bool : PySem.W.nsIn K mainGlobals "bool" = some none)
    (z_int : PySem.W.nsIn K mainGlobals "int" = some none)
    (z_isinstance : PySem.W.nsIn K mainGlobals "isinstance" = some none)
    (z_len : PySem.W.nsIn K mainGlobals "len" = some none)
    (z_list : PySem.W.nsIn K mainGlobals "list" = some none)
    (z_range : PySem.W.nsIn K mainGlobals "range" = some none)
    (z_str : PySem.W.nsIn K mainGlobals "str" = some none)
    (z_sum : PySem.W.nsIn K mainGlobals "sum" = some none)
    (z_tuple : PySem.W.nsIn K mainGlobals "tuple" = some none)
    (z_zip : PySem.W.nsIn K mainGlobals "zip" = some none)
    : ∃ fd : FuncData, (∀ (s : Shared) (v : Value), BindsTo s fd ⟨[v], []⟩ [("script", v)]) ∧ ∀ base : Heap, K.In base → base.Ns mainGlobals mg → FnOk l.prog w K mg base C8.CX0 8 fa fd ["script"] (sp_law K) := by
  have e := hfa.symm.trans (PySem.W.mg_of X G a_law)
  cases e
  have T : Txt K mg C_Ratio C_Gains C_GameError C_BadEdit C_BadPlan C_BadRatio C_BadText C_TooLarge C_BadGains := ⟨PySem.W.mg_none_of X G z_abs, PySem.W.mg_none_of X G z_all, PySem.W.mg_none_of X G z_any, PySem.W.mg_none_of X G z_bool, PySem.W.mg_none_of X G z_int, PySem.W.mg_none_of X G z_isinstance, PySem.W.mg_none_of X G z_len, PySem.W.mg_none_of X G z_list, PySem.W.mg_none_of X G z_range, PySem.W.mg_none_of X G z_str, PySem.W.mg_none_of X G z_sum, PySem.W.mg_none_of X G z_tuple, PySem.W.mg_none_of X G z_zip, PySem.W.mg_of X G z_gcd, PySem.W.mg_of X G z_lcm, ⟨pg_Ratio, hd_Ratio, po_Ratio, sa_Ratio⟩, PySem.W.mg_of X G mc_Ratio, ⟨⟨pg_Ratio, hd_Ratio, po_Ratio, sa_Ratio⟩, ha_Ratio, hn_Ratio, ht_Ratio, hm_Ratio, kitSelf⟩, nnum_Ratio, nden_Ratio, ⟨pg_Gains, hd_Gains, po_Gains, sa_Gains⟩, PySem.W.mg_of X G mc_Gains, ⟨⟨pg_Gains, hd_Gains, po_Gains, sa_Gains⟩, ha_Gains, hn_Gains, ht_Gains, hm_Gains, kitSelf⟩, ncells_Gains, ⟨_, PySem.W.mg_of X G z_MOST_MOVES, ⟨_, rfl⟩⟩, PySem.W.mg_of X G mc_GameError, PySem.W.mg_of X G mc_BadEdit, PySem.W.mg_of X G mc_BadPlan, PySem.W.mg_of X G mc_BadRatio, PySem.W.mg_of X G mc_BadText, PySem.W.mg_of X G mc_TooLarge, PySem.W.mg_of X G mc_BadGains, ⟨ga_BadGains, gg_BadGains, eC_BadGains, hC_BadGains, ca_BadGains, xsp, xtk, ma_BadGains⟩, ⟨ga_BadGains, gg_BadGains, eC_BadGains, hC_BadGains⟩, nb_BadGains, PySem.W.exm_ref eC_BadGains hC_BadGains tC_BadGains ss_BadGains, hsfR, hgE, hgH, hgT, hgS, hkX, hkTR, hnR, True.intro⟩
  have X_BadGains : SupX_BadGains.Txt l.prog K mg "BadGains" C_BadGains f_BadGains___init := { gC := PySem.W.mg_of X G mc_BadGains, cls := ⟨_, _, _, _, _, _, _, _, _, _, _, _, _, _, _, xL_BadGains, rfl⟩, along := al_BadGains, veC := ve_BadGains, sa := sa_BadGains, ga := ga_BadGains, gg := gg_BadGains, noN := nb_BadGains, iC := iC_BadGains, tC := tf_BadGains, kC := kC_BadGains, exC := eC_BadGains, tyC := tC_BadGains, hdC := hC_BadGains, opq := opq, noS := PySem.W.mg_none_of X G zsup, mroC := mo_BadGains, top := ptop, fn := ⟨_, _, _, _, _, _, _, _, _, _, _, _, _, _, _, _, _, _, lf_BadGains, cf_BadGains, lc_BadGains, ld_BadGains, vf_BadGains, fe_BadGains⟩ }
  have F_Ratio___init : C8.Fun K "__init__" "Ratio.__init__" s_Ratio___init _ _ := ⟨⟨_, _, _, _, _, _, _, _, _, _, rfl, l_Ratio___init, c_Ratio___init⟩⟩
  have M_Ratio : Mk K C_Ratio f_Ratio___init := ⟨mk_Ratio, a_Ratio___init, i_Ratio___init, kc_Ratio⟩
  have FD_Ratio___init : FunD K "__init__" "Ratio.__init__" (fnArgs s_Ratio___init) (fnBody s_Ratio___init) (fnScope s_Ratio___init) [.int 1] [] f_Ratio___init _ := ⟨⟨_, _, _, _, _, _, _, _, _, _, rfl, l_Ratio___init, c_Ratio___init, .inr ⟨by simp, _, _, [_], _, rfl, lT_Ratio___init, rfl, .cons ⟨_, rfl⟩ .nil⟩, .inl rfl⟩, k_Ratio___init⟩
  obtain ⟨ds2_Ratio___init, v2_Ratio___init, b2_Ratio___init⟩ := FD_Ratio___init.binds1 (ps := ["self", "num", "den"]) 3 1 (by simp) rfl (fun _ _ _ _ _ _ _ us its hu hi => match us, hu, its, hi with | [_, _, _], _, [_], _ => ⟨_, rfl, rfl⟩)
  obtain ⟨ds1_Ratio___init, v1_Ratio___init, b1_Ratio___init⟩ := FD_Ratio___init.binds1 (ps := ["self", "num", "den"]) 2 0 (by simp) rfl (fun _ _ _ _ _ _ _ us its hu hi => match us, hu, its, hi with | [_, _], _, [_], _ => ⟨_, rfl, rfl⟩)
  have F_Ratio___eq : C8.Fun K "__eq__" "Ratio.__eq__" s_Ratio___eq _ _ := ⟨⟨_, _, _, _, _, _, _, _, _, _, rfl, l_Ratio___eq, c_Ratio___eq⟩⟩
  have M_Ratio___eq : Meth K C_Ratio "__eq__" f_Ratio___eq := ⟨a_Ratio___eq, i_Ratio___eq, k_Ratio___eq⟩
  have b_Ratio___eq : Binds K _ ["self", "other"] [] := C8.Fun.binds F_Ratio___eq rfl fun _ _ _ _ _ _ us hl => match us, hl with | [_, _], _ => rfl
  have F_Gains___init : C8.Fun K "__init__" "Gains.__init__" s_Gains___init _ _ := ⟨⟨_, _, _, _, _, _, _, _, _, _, rfl, l_Gains___init, c_Gains___init⟩⟩
  have M_Gains : Mk K C_Gains f_Gains___init := ⟨mk_Gains, a_Gains___init, i_Gains___init, kc_Gains⟩
  have b_Gains___init : Binds K _ ["self", "cells"] [] := C8.Fun.binds F_Gains___init rfl fun _ _ _ _ _ _ us hl => match us, hl with | [_, _], _ => rfl
  have F_Gains___eq : C8.Fun K "__eq__" "Gains.__eq__" s_Gains___eq _ _ := ⟨⟨_, _, _, _, _, _, _, _, _, _, rfl, l_Gains___eq, c_Gains___eq⟩⟩
  have M_Gains___eq : Meth K C_Gains "__eq__" f_Gains___eq := ⟨a_Gains___eq, i_Gains___eq, k_Gains___eq⟩
  have b_Gains___eq : Binds K _ ["self", "other"] [] := C8.Fun.binds F_Gains___eq rfl fun _ _ _ _ _ _ us hl => match us, hl with | [_, _], _ => rfl
  have F_Gains_width : C8.Fun K "width" "Gains.width" s_Gains_width _ _ := ⟨⟨_, _, _, _, _, _, _, _, _, _, rfl, l_Gains_width, c_Gains_width⟩⟩
  have M_Gains_width : Meth K C_Gains "width" f_Gains_width := ⟨a_Gains_width, i_Gains_width, k_Gains_width⟩
  have b_Gains_width : Binds K _ ["self"] [] := C8.Fun.binds F_Gains_width rfl fun _ _ _ _ _ _ us hl => match us, hl with | [_], _ => rfl
  have F_Gains_own : C8.Fun K "own" "Gains.own" s_Gains_own _ _ := ⟨⟨_, _, _, _, _, _, _, _, _, _, rfl, l_Gains_own, c_Gains_own⟩⟩
  have M_Gains_own : Meth K C_Gains "own" f_Gains_own := ⟨a_Gains_own, i_Gains_own, k_Gains_own⟩
  have b_Gains_own : Binds K _ ["self"] [] := C8.Fun.binds F_Gains_own rfl fun _ _ _ _ _ _ us hl => match us, hl with | [_], _ => rfl
  have F_Ratio___add : C8.Fun K "__add__" "Ratio.__add__" s_Ratio___add _ _ := ⟨⟨_, _, _, _, _, _, _, _, _, _, rfl, l_Ratio___add, c_Ratio___add⟩⟩
  have M_Ratio___add : Meth K C_Ratio "__add__" f_Ratio___add := ⟨a_Ratio___add, i_Ratio___add, k_Ratio___add⟩
  have b_Ratio___add : Binds K _ ["self", "other"] [] := C8.Fun.binds F_Ratio___add rfl fun _ _ _ _ _ _ us hl => match us, hl with | [_, _], _ => rfl
  have F_Ratio___mul : C8.Fun K "__mul__" "Ratio.__mul__" s_Ratio___mul _ _ := ⟨⟨_, _, _, _, _, _, _, _, _, _, rfl, l_Ratio___mul, c_Ratio___mul⟩⟩
  have M_Ratio___mul : Meth K C_Ratio "__mul__" f_Ratio___mul := ⟨a_Ratio___mul, i_Ratio___mul, k_Ratio___mul⟩
  have b_Ratio___mul : Binds K _ ["self", "other"] [] := C8.Fun.binds F_Ratio___mul rfl fun _ _ _ _ _ _ us hl => match us, hl with | [_, _], _ => rfl
  have D_law_same : C8.Def K mg "_law_same" s_law_same _ _ := ⟨⟨⟨_, _, _, _, _, _, _, _, _, _, rfl, l_law_same, c_law_same⟩⟩, PySem.W.mg_of X G a_law_same, k_law_same⟩
  have b_law_same : Binds K _ ["actual", "due"] [] := C8.Fun.binds D_law_same.fn rfl fun _ _ _ _ _ _ us hl => match us, hl with | [_, _], _ => rfl
  have D_against : C8.Def K mg "against" s_against _ _ := ⟨⟨⟨_, _, _, _, _, _, _, _, _, _, rfl, l_against, c_against⟩⟩, PySem.W.mg_of X G a_against, k_against⟩
  have b_against : Binds K _ ["gains", "mix"] [] := C8.Fun.binds D_against.fn rfl fun _ _ _ _ _ _ us hl => match us, hl with | [_, _], _ => rfl
  have D_gain : C8.Def K mg "gain" s_gain _ _ := ⟨⟨⟨_, _, _, _, _, _, _, _, _, _, rfl, l_gain, c_gain⟩⟩, PySem.W.mg_of X G a_gain, k_gain⟩
  have b_gain : Binds K _ ["gains", "player", "first", "second"] [] := C8.Fun.binds D_gain.fn rfl fun _ _ _ _ _ _ us hl => match us, hl with | [_, _, _, _], _ => rfl
  have D_law_told : C8.Def K mg "_law_told" s_law_told _ _ := ⟨⟨⟨_, _, _, _, _, _, _, _, _, _, rfl, l_law_told, c_law_told⟩⟩, PySem.W.mg_of X G a_law_told, k_law_told⟩
  have b_law_told : Binds K _ ["cells"] [] := C8.Fun.binds D_law_told.fn rfl fun _ _ _ _ _ _ us hl => match us, hl with | [_], _ => rfl
  have D_law_dot : C8.Def K mg "_law_dot" s_law_dot _ _ := ⟨⟨⟨_, _, _, _, _, _, _, _, _, _, rfl, l_law_dot, c_law_dot⟩⟩, PySem.W.mg_of X G a_law_dot, k_law_dot⟩
  have b_law_dot : Binds K _ ["one", "other"] [] := C8.Fun.binds D_law_dot.fn rfl fun _ _ _ _ _ _ us hl => match us, hl with | [_, _], _ => rfl
  have D_law_row_gains : C8.Def K mg "_law_row_gains" s_law_row_gains _ _ := ⟨⟨⟨_, _, _, _, _, _, _, _, _, _, rfl, l_law_row_gains, c_law_row_gains⟩⟩, PySem.W.mg_of X G a_law_row_gains, k_law_row_gains⟩
  have b_law_row_gains : Binds K _ ["table", "mix"] [] := C8.Fun.binds D_law_row_gains.fn rfl fun _ _ _ _ _ _ us hl => match us, hl with | [_, _], _ => rfl
  have D_law_gain_due : C8.Def K mg "_law_gain_due" s_law_gain_due _ _ := ⟨⟨⟨_, _, _, _, _, _, _, _, _, _, rfl, l_law_gain_due, c_law_gain_due⟩⟩, PySem.W.mg_of X G a_law_gain_due, k_law_gain_due⟩
  have b_law_gain_due : Binds K _ ["table", "player", "first", "second"] [] := C8.Fun.binds D_law_gain_due.fn rfl fun _ _ _ _ _ _ us hl => match us, hl with | [_, _, _, _], _ => rfl
  have D_law_number : C8.Def K mg "_law_number" s_law_number _ _ := ⟨⟨⟨_, _, _, _, _, _, _, _, _, _, rfl, l_law_number, c_law_number⟩⟩, PySem.W.mg_of X G a_law_number, k_law_number⟩
  have b_law_number : Binds K _ ["ratio"] [] := C8.Fun.binds D_law_number.fn rfl fun _ _ _ _ _ _ us hl => match us, hl with | [_], _ => rfl
  have D_law_plain : C8.Def K mg "_law_plain" s_law_plain _ _ := ⟨⟨⟨_, _, _, _, _, _, _, _, _, _, rfl, l_law_plain, c_law_plain⟩⟩, PySem.W.mg_of X G a_law_plain, k_law_plain⟩
  have b_law_plain : Binds K _ ["part"] [] := C8.Fun.binds D_law_plain.fn rfl fun _ _ _ _ _ _ us hl => match us, hl with | [_], _ => rfl
  have D_law_gain : C8.Def K mg "_law_gain" s_law_gain _ _ := ⟨⟨⟨_, _, _, _, _, _, _, _, _, _, rfl, l_law_gain, c_law_gain⟩⟩, PySem.W.mg_of X G a_law_gain, k_law_gain⟩
  have b_law_gain : Binds K _ ["pool", "way"] [] := C8.Fun.binds D_law_gain.fn rfl fun _ _ _ _ _ _ us hl => match us, hl with | [_, _], _ => rfl
  have D_law_table : C8.Def K mg "_law_table" s_law_table _ _ := ⟨⟨⟨_, _, _, _, _, _, _, _, _, _, rfl, l_law_table, c_law_table⟩⟩, PySem.W.mg_of X G a_law_table, k_law_table⟩
  have b_law_table : Binds K _ ["pool", "most"] [] := C8.Fun.binds D_law_table.fn rfl fun _ _ _ _ _ _ us hl => match us, hl with | [_, _], _ => rfl
  have D_law_mix : C8.Def K mg "_law_mix" s_law_mix _ _ := ⟨⟨⟨_, _, _, _, _, _, _, _, _, _, rfl, l_law_mix, c_law_mix⟩⟩, PySem.W.mg_of X G a_law_mix, k_law_mix⟩
  have b_law_mix : Binds K _ ["pool", "count"] [] := C8.Fun.binds D_law_mix.fn rfl fun _ _ _ _ _ _ us hl => match us, hl with | [_, _], _ => rfl
  have D_law_wrong : C8.Def K mg "_law_wrong" s_law_wrong _ _ := ⟨⟨⟨_, _, _, _, _, _, _, _, _, _, rfl, l_law_wrong, c_law_wrong⟩⟩, PySem.W.mg_of X G a_law_wrong, k_law_wrong⟩
  have b_law_wrong : Binds K _ ["pool", "table"] [] := C8.Fun.binds D_law_wrong.fn rfl fun _ _ _ _ _ _ us hl => match us, hl with | [_, _], _ => rfl
  have D_law_unlike : C8.Def K mg "_law_unlike" s_law_unlike _ _ := ⟨⟨⟨_, _, _, _, _, _, _, _, _, _, rfl, l_law_unlike, c_law_unlike⟩⟩, PySem.W.mg_of X G a_law_unlike, k_law_unlike⟩
  have b_law_unlike : Binds K _ ["pool", "table"] [] := C8.Fun.binds D_law_unlike.fn rfl fun _ _ _ _ _ _ us hl => match us, hl with | [_, _], _ => rfl
  have F_law : C8.Fun K "law" "law" s_law _ _ := ⟨⟨_, _, _, _, _, _, _, _, _, _, rfl, l_law, c_law⟩⟩
  have D_common : C8.Def K mg "common" s_common _ _ := ⟨⟨⟨_, _, _, _, _, _, _, _, _, _, rfl, l_common, c_common⟩⟩, PySem.W.mg_of X G a_common, k_common⟩
  have b_common : Binds K _ ["ratios"] [] := C8.Fun.binds D_common.fn rfl fun _ _ _ _ _ _ us hl => match us, hl with | [_], _ => rfl
  have D_are_lots : C8.Def K mg "are_lots" s_are_lots _ _ := ⟨⟨⟨_, _, _, _, _, _, _, _, _, _, rfl, l_are_lots, c_are_lots⟩⟩, PySem.W.mg_of X G a_are_lots, k_are_lots⟩
  have b_are_lots : Binds K _ ["ratios"] [] := C8.Fun.binds D_are_lots.fn rfl fun _ _ _ _ _ _ us hl => match us, hl with | [_], _ => rfl
  have D_total : C8.Def K mg "total" s_total _ _ := ⟨⟨⟨_, _, _, _, _, _, _, _, _, _, rfl, l_total, c_total⟩⟩, PySem.W.mg_of X G a_total, k_total⟩
  have b_total : Binds K _ ["ratios"] [] := C8.Fun.binds D_total.fn rfl fun _ _ _ _ _ _ us hl => match us, hl with | [_], _ => rfl
  have D_turned : C8.Def K mg "turned" s_turned _ _ := ⟨⟨⟨_, _, _, _, _, _, _, _, _, _, rfl, l_turned, c_turned⟩⟩, PySem.W.mg_of X G a_turned, k_turned⟩
  have b_turned : Binds K _ ["gains"] [] := C8.Fun.binds D_turned.fn rfl fun _ _ _ _ _ _ us hl => match us, hl with | [_], _ => rfl
  have D_law_pool : C8.Def K mg "_law_pool" s_law_pool _ _ := ⟨⟨⟨_, _, _, _, _, _, _, _, _, _, rfl, l_law_pool, c_law_pool⟩⟩, PySem.W.mg_of X G a_law_pool, k_law_pool⟩
  have b_law_pool : Binds K _ ["script", "budget"] [] := C8.Fun.binds D_law_pool.fn rfl fun _ _ _ _ _ _ us hl => match us, hl with | [_, _], _ => rfl
  have D_law_draw : C8.Def K mg "_law_draw" s_law_draw _ _ := ⟨⟨⟨_, _, _, _, _, _, _, _, _, _, rfl, l_law_draw, c_law_draw⟩⟩, PySem.W.mg_of X G a_law_draw, k_law_draw⟩
  have b_law_draw : Binds K _ ["pool", "size"] [] := C8.Fun.binds D_law_draw.fn rfl fun _ _ _ _ _ _ us hl => match us, hl with | [_, _], _ => rfl
  have D_law_lists : C8.Def K mg "_law_lists" s_law_lists _ _ := ⟨⟨⟨_, _, _, _, _, _, _, _, _, _, rfl, l_law_lists, c_law_lists⟩⟩, PySem.W.mg_of X G a_law_lists, k_law_lists⟩
  have b_law_lists : Binds K _ ["table"] [] := C8.Fun.binds D_law_lists.fn rfl fun _ _ _ _ _ _ us hl => match us, hl with | [_], _ => rfl
  have D_law_row_made : C8.Def K mg "_law_row_made" s_law_row_made _ _ := ⟨⟨⟨_, _, _, _, _, _, _, _, _, _, rfl, l_law_row_made, c_law_row_made⟩⟩, PySem.W.mg_of X G a_law_row_made, k_law_row_made⟩
  have b_law_row_made : Binds K _ ["numbers"] [] := C8.Fun.binds D_law_row_made.fn rfl fun _ _ _ _ _ _ us hl => match us, hl with | [_], _ => rfl
  have D_law_turned : C8.Def K mg "_law_turned" s_law_turned _ _ := ⟨⟨⟨_, _, _, _, _, _, _, _, _, _, rfl, l_law_turned, c_law_turned⟩⟩, PySem.W.mg_of X G a_law_turned, k_law_turned⟩
  have b_law_turned : Binds K _ ["table"] [] := C8.Fun.binds D_law_turned.fn rfl fun _ _ _ _ _ _ us hl => match us, hl with | [_], _ => rfl
  have D_law_gcd : C8.Def K mg "_law_gcd" s_law_gcd _ _ := ⟨⟨⟨_, _, _, _, _, _, _, _, _, _, rfl, l_law_gcd, c_law_gcd⟩⟩, PySem.W.mg_of X G a_law_gcd, k_law_gcd⟩
  have b_law_gcd : Binds K _ ["one", "two"] [] := C8.Fun.binds D_law_gcd.fn rfl fun _ _ _ _ _ _ us hl => match us, hl with | [_, _], _ => rfl
  have D_law_less : C8.Def K mg "_law_less" s_law_less _ _ := ⟨⟨⟨_, _, _, _, _, _, _, _, _, _, rfl, l_law_less, c_law_less⟩⟩, PySem.W.mg_of X G a_law_less, k_law_less⟩
  have b_law_less : Binds K _ ["num", "den"] [] := C8.Fun.binds D_law_less.fn rfl fun _ _ _ _ _ _ us hl => match us, hl with | [_, _], _ => rfl
  have D_law_plus : C8.Def K mg "_law_plus" s_law_plus _ _ := ⟨⟨⟨_, _, _, _, _, _, _, _, _, _, rfl, l_law_plus, c_law_plus⟩⟩, PySem.W.mg_of X G a_law_plus, k_law_plus⟩
  have b_law_plus : Binds K _ ["one", "other"] [] := C8.Fun.binds D_law_plus.fn rfl fun _ _ _ _ _ _ us hl => match us, hl with | [_, _], _ => rfl
  have D_law_times : C8.Def K mg "_law_times" s_law_times _ _ := ⟨⟨⟨_, _, _, _, _, _, _, _, _, _, rfl, l_law_times, c_law_times⟩⟩, PySem.W.mg_of X G a_law_times, k_law_times⟩
  have b_law_times : Binds K _ ["one", "other"] [] := C8.Fun.binds D_law_times.fn rfl fun _ _ _ _ _ _ us hl => match us, hl with | [_, _], _ => rfl
  refine ⟨PySem.W.fnOf "law" "law" (fnArgs s_law) (fnBody s_law) (fnScope s_law) .none kV_law dc_law pm_law an_law cd_law ct_law, fun s v => .of_eq rfl, fun base _ _ => ?_⟩
  have c_Ratio := ok_rat_init (P := l.prog) (w := w) (base := base) M_Ratio F_Ratio___init b1_Ratio___init v1_Ratio___init T
  have c_Ratio2 := ok_rat_init (P := l.prog) (w := w) (base := base) M_Ratio F_Ratio___init b2_Ratio___init v2_Ratio___init T
  have c_Ratio_eq := ok_req (P := l.prog) (w := w) (base := base) M_Ratio___eq F_Ratio___eq b_Ratio___eq T
  have c_Ratio_add := ok_radd M_Ratio___add F_Ratio___add b_Ratio___add T c_Ratio2
  have c_Ratio_mul := ok_rmul M_Ratio___mul F_Ratio___mul b_Ratio___mul T c_Ratio2
  have c_total := ok_total D_total b_total T c_Ratio c_Ratio_add
  have c_common := ok_common (P := l.prog) (w := w) (base := base) D_common b_common T
  have c_are_lots := ok_are_lots D_are_lots b_are_lots T c_common
  have cX_Gains := ok_gains (P := l.prog) (w := w) (base := base) M_Gains F_Gains___init b_Gains___init T X_BadGains
  have c_Gains := makNr cX_Gains
  have c_Gains_eq := ok_geq M_Gains___eq F_Gains___eq b_Gains___eq T c_Ratio_eq
  have c_Gains_width := ok_width (P := l.prog) (w := w) (base := base) M_Gains_width F_Gains_width b_Gains_width T
  have c_Gains_own := ok_own (P := l.prog) (w := w) (base := base) M_Gains_own F_Gains_own b_Gains_own T
  have c_turned := ok_turned D_turned b_turned T c_Gains c_Gains_width
  have c_against := ok_against D_against b_against T c_Gains_own c_Ratio_mul c_total
  have c_gain0 := ok_gain0 (C_Gains := C_Gains) (C_Ratio := C_Ratio) (P := l.prog) (w := w) (base := base) D_gain b_gain
  have c_gain1 := ok_gain D_gain b_gain T (by decide) c_gain0 c_turned c_against c_Ratio_mul c_total
  have c_gain := ok_gain D_gain b_gain T (by decide) c_gain1 c_turned c_against c_Ratio_mul c_total
  have c_law_pool := ok_law_pool (P := l.prog) (w := w) (base := base) D_law_pool b_law_pool T
  have c_law_draw := ok_law_draw (P := l.prog) (w := w) (base := base) D_law_draw b_law_draw T
  have c_law_gcd := ok_gcd (P := l.prog) (w := w) (base := base) D_law_gcd b_law_gcd T
  have c_law_less := ok_less D_law_less b_law_less T c_law_gcd
  have c_law_plus := ok_plus D_law_plus b_law_plus T c_law_less
  have c_law_times := ok_times D_law_times b_law_times T c_law_less
  have c_law_number := ok_number D_law_number b_law_number T c_law_less
  have c_plain0 := ok_plain0 (C_Ratio := C_Ratio) (P := l.prog) (w := w) (base := base) D_law_plain b_law_plain
  have c_plain1 := ok_plain D_law_plain b_law_plain T (by decide) c_plain0 c_law_number
  have c_plain2 := ok_plain D_law_plain b_law_plain T (by decide) c_plain1 c_law_number
  have c_plain3 := ok_plain D_law_plain b_law_plain T (by decide) c_plain2 c_law_number
  have c_law_plain := ok_plain D_law_plain b_law_plain T (by decide) c_plain3 c_law_number
  have c_law_gain := ok_lgain D_law_gain b_law_gain T c_law_draw c_law_less
  have c_law_table := ok_table D_law_table b_law_table T c_law_draw c_law_gain
  have c_law_turned := ok_lturned (P := l.prog) (w := w) (base := base) D_law_turned b_law_turned T
  have c_law_dot := ok_dot D_law_dot b_law_dot T c_law_plus c_law_times
  have c_law_row_gains := ok_rowg D_law_row_gains b_law_row_gains T c_law_dot
  have c_law_gain_due := ok_due D_law_gain_due b_law_gain_due T c_law_dot c_law_plus c_law_times
  have c_law_mix := ok_mix D_law_mix b_law_mix T c_law_draw c_law_less
  have c_law_row_made := ok_rmade D_law_row_made b_law_row_made T c_Ratio2
  have c_law_lists := ok_lists D_law_lists b_law_lists T c_Ratio2
  have c_law_told := ok_ltold D_law_told b_law_told T cX_Gains
  have c_law_wrong := ok_wrong D_law_wrong b_law_wrong T c_law_draw
  have c_law_unlike := ok_unlike D_law_unlike b_law_unlike T c_law_draw c_law_plus c_law_turned
  have s0 := ok_law_same0 (P := l.prog) (w := w) (base := base) D_law_same b_law_same
  have s1 := ok_law_same D_law_same b_law_same T s0
  have s2 := ok_law_same D_law_same b_law_same T s1
  have s3 := ok_law_same D_law_same b_law_same T s2
  have s4 := ok_law_same D_law_same b_law_same T s3
  have s5 := ok_law_same D_law_same b_law_same T s4
  have c_law_same := ok_law_same D_law_same b_law_same T s5
  exact ok_law F_law T c_law_pool c_law_draw c_law_table c_law_lists c_law_told c_law_same c_law_plain c_law_wrong c_law_unlike c_Gains c_turned c_law_turned c_Gains_eq c_law_mix c_law_row_made c_are_lots c_Ratio2 c_gain c_law_gain_due c_law_dot c_law_row_gains
theorem walk {l : PySem.W.OpenLaw} {q : Program} {loose : List Str} {XP : (Str → Option Value) → Heap → Prop} {YP : World → Heap → Prop} {d : DefRec} {K : Params → PySem.W.Frag} (hn : l.most = some 63) (hdf : d.params.defaults = [])
    (hY : ∀ (w : World) (h : Heap), YP w h → (K w.params).In h)
    (F : ∀ (w : World) (mg : Str → Option Value) (fa : Addr) (h : Heap), (K w.params).In h → h.Ns mainGlobals mg → mg d.name = some (.ref fa) →
      ∃ fd : FuncData, (∀ (s : Shared) (u : Value), BindsTo s fd ⟨[u], []⟩ [("script", u)]) ∧ ∀ base : Heap, (K w.params).In base → base.Ns mainGlobals mg → FnOk l.prog w (K w.params) mg base C8.CX0 8 fa fd ["script"] (sp_law (K w.params))) :
    PySem.W.WalkO q loose XP YP l.row.toRowW d [] (fun f vs => PySem.call f vs) :=
  L2.walk_ofB (n := 63) (k := 8) (x := "script") (CX := fun _ => C8.CX0) (sp := fun w => sp_law (K w.params)) hn (by decide) hdf ⟨rfl, by decide, by decide⟩ hY F (fun _ _ a ns hl hb _ hS => ⟨a, ns, rfl, hS, fun _ => rfl⟩) fun _ _ _ _ _ z => z
end My
open PySem PySem.W PyProof.Rows
set_option maxRecDepth 100000 in
set_option maxHeartbeats 0 in
theorem PySem.Challenge.cw_bothgain_k47_tables_of_two_gains_holds : PySem.Challenge.rw_bothgain_k47_tables_of_two_gains.Holds := by
  w_on; o_law; k_head; (case hw => w_witness2)
  k_fill
  refine My.walk (l := PySem.Challenge.rw_bothgain_k47_tables_of_two_gains) rfl rfl (fun w h Y => PySem.W.kIn_of Y) ?F
  case F =>
    intro w mg fa h KX G hmg
    refine' My.all_mk KX G hmg ?a_law_same ?l_law_same ?c_law_same ?k_law_same ?a_against ?l_against ?c_against ?k_against ?a_gain ?l_gain ?c_gain ?k_gain ?a_law_told ?l_law_told ?c_law_told ?k_law_told ?a_law_dot ?l_law_dot ?c_law_dot ?k_law_dot ?a_law_row_gains ?l_law_row_gains ?c_law_row_gains ?k_law_row_gains ?a_law_gain_due ?l_law_gain_due ?c_law_gain_due ?k_law_gain_due ?a_law_number ?l_law_number ?c_law_number ?k_law_number ?a_law_plain ?l_law_plain ?c_law_plain ?k_law_plain ?a_law_gain ?l_law_gain ?c_law_gain ?k_law_gain ?a_law_table ?l_law_table ?c_law_table ?k_law_table ?a_law_mix ?l_law_mix ?c_law_mix ?k_law_mix ?a_law_wrong ?l_law_wrong ?c_law_wrong ?k_law_wrong ?a_law_unlike ?l_law_unlike ?c_law_unlike ?k_law_unlike ?a_law ?l_law ?c_law ?k_law ?a_common ?l_common ?c_common ?k_common ?a_are_lots ?l_are_lots ?c_are_lots ?k_are_lots ?a_total ?l_total ?c_total ?k_total ?a_turned ?l_turned ?c_turned ?k_turned ?a_law_pool ?l_law_pool ?c_law_pool ?k_law_pool ?a_law_draw ?l_law_draw ?c_law_draw ?k_law_draw ?a_law_lists ?l_law_lists ?c_law_lists ?k_law_lists ?a_law_row_made ?l_law_row_made ?c_law_row_made ?k_law_row_made ?a_law_turned ?l_law_turned ?c_law_turned ?k_law_turned ?a_law_gcd ?l_law_gcd ?c_law_gcd ?k_law_gcd ?a_law_less ?l_law_less ?c_law_less ?k_law_less ?a_law_plus ?l_law_plus ?c_law_plus ?k_law_plus ?a_law_times ?l_law_times ?c_law_times ?k_law_times ?mc_Ratio ?pg_Ratio ?hd_Ratio ?po_Ratio ?sa_Ratio ?mk_Ratio ?kc_Ratio ?ha_Ratio ?hn_Ratio ?ht_Ratio ?hm_Ratio ?nnum_Ratio ?nden_Ratio ?mc_Gains ?pg_Gains ?hd_Gains ?po_Gains ?sa_Gains ?mk_Gains ?kc_Gains ?ha_Gains ?hn_Gains ?ht_Gains ?hm_Gains ?ncells_Gains ?a_Ratio___init ?i_Ratio___init ?l_Ratio___init ?c_Ratio___init ?k_Ratio___init ?lT_Ratio___init ?a_Ratio___eq ?i_Ratio___eq ?l_Ratio___eq ?c_Ratio___eq ?k_Ratio___eq ?a_Gains___init ?i_Gains___init ?l_Gains___init ?c_Gains___init ?k_Gains___init ?a_Gains___eq ?i_Gains___eq ?l_Gains___eq ?c_Gains___eq ?k_Gains___eq ?a_Gains_width ?i_Gains_width ?l_Gains_width ?c_Gains_width ?k_Gains_width ?a_Gains_own ?i_Gains_own ?l_Gains_own ?c_Gains_own ?k_Gains_own ?a_Ratio___add ?i_Ratio___add ?l_Ratio___add ?c_Ratio___add ?k_Ratio___add ?a_Ratio___mul ?i_Ratio___mul ?l_Ratio___mul ?c_Ratio___mul ?k_Ratio___mul ?mc_GameError ?mc_BadEdit ?mc_BadPlan ?mc_BadRatio ?mc_BadText ?mc_TooLarge ?mc_BadGains ?opq ?zsup ?ptop ?xsp ?xtk ?xL_BadGains ?al_BadGains ?ve_BadGains ?sa_BadGains ?ga_BadGains ?gg_BadGains ?nb_BadGains ?iC_BadGains ?tf_BadGains ?kC_BadGains ?eC_BadGains ?tC_BadGains ?hC_BadGains ?mo_BadGains ?ma_BadGains ?ca_BadGains ?ss_BadGains ?lf_BadGains ?cf_BadGains ?lc_BadGains ?ld_BadGains ?vf_BadGains ?fe_BadGains ?hsfR ?hgE ?hgH ?hgT ?hgS ?hkX ?hkTR ?hnR ?z_MOST_MOVES ?z_gcd ?z_lcm ?z_abs ?z_all ?z_any ?z_bool ?z_int ?z_isinstance ?z_len ?z_list ?z_range ?z_str ?z_sum ?z_tuple ?z_zip
    (case a_law_same => k_is)
    (case l_law_same => k_is)
    (case c_law_same => k_is)
    (case k_law_same => k_is)
    (case a_against => k_is)
    (case l_against => k_is)
    (case c_against => k_is)
    (case k_against => k_is)
    (case a_gain => k_is)
    (case l_gain => k_is)
    (case c_gain => k_is)
    (case k_gain => k_is)
    (case a_law_told => k_is)
    (case l_law_told => k_is)
    (case c_law_told => k_is)
    (case k_law_told => k_is)
    (case a_law_dot => k_is)
    (case l_law_dot => k_is)
    (case c_law_dot => k_is)
    (case k_law_dot => k_is)
    (case a_law_row_gains => k_is)
    (case l_law_row_gains => k_is)
    (case c_law_row_gains => k_is)
    (case k_law_row_gains => k_is)
    (case a_law_gain_due => k_is)
    (case l_law_gain_due => k_is)
    (case c_law_gain_due => k_is)
    (case k_law_gain_due => k_is)
    (case a_law_number => k_is)
    (case l_law_number => k_is)
    (case c_law_number => k_is)
    (case k_law_number => k_is)
    (case a_law_plain => k_is)
    (case l_law_plain => k_is)
    (case c_law_plain => k_is)
    (case k_law_plain => k_is)
    (case a_law_gain => k_is)
    (case l_law_gain => k_is)
    (case c_law_gain => k_is)
    (case k_law_gain => k_is)
    (case a_law_table => k_is)
    (case l_law_table => k_is)
    (case c_law_table => k_is)
    (case k_law_table => k_is)
    (case a_law_mix => k_is)
    (case l_law_mix => k_is)
    (case c_law_mix => k_is)
    (case k_law_mix => k_is)
    (case a_law_wrong => k_is)
    (case l_law_wrong => k_is)
    (case c_law_wrong => k_is)
    (case k_law_wrong => k_is)
    (case a_law_unlike => k_is)
    (case l_law_unlike => k_is)
    (case c_law_unlike => k_is)
    (case k_law_unlike => k_is)
    (case a_law => k_is)
    (case l_law => k_is)
    (case c_law => k_is)
    (case k_law => k_is)
    (case a_common => k_is)
    (case l_common => k_is)
    (case c_common => k_is)
    (case k_common => k_is)
    (case a_are_lots => k_is)
    (case l_are_lots => k_is)
    (case c_are_lots => k_is)
    (case k_are_lots => k_is)
    (case a_total => k_is)
    (case l_total => k_is)
    (case c_total => k_is)
    (case k_total => k_is)
    (case a_turned => k_is)
    (case l_turned => k_is)
    (case c_turned => k_is)
    (case k_turned => k_is)
    (case a_law_pool => k_is)
    (case l_law_pool => k_is)
    (case c_law_pool => k_is)
    (case k_law_pool => k_is)
    (case a_law_draw => k_is)
    (case l_law_draw => k_is)
    (case c_law_draw => k_is)
    (case k_law_draw => k_is)
    (case a_law_lists => k_is)
    (case l_law_lists => k_is)
    (case c_law_lists => k_is)
    (case k_law_lists => k_is)
    (case a_law_row_made => k_is)
    (case l_law_row_made => k_is)
    (case c_law_row_made => k_is)
    (case k_law_row_made => k_is)
    (case a_law_turned => k_is)
    (case l_law_turned => k_is)
    (case c_law_turned => k_is)
    (case k_law_turned => k_is)
    (case a_law_gcd => k_is)
    (case l_law_gcd => k_is)
    (case c_law_gcd => k_is)
    (case k_law_gcd => k_is)
    (case a_law_less => k_is)
    (case l_law_less => k_is)
    (case c_law_less => k_is)
    (case k_law_less => k_is)
    (case a_law_plus => k_is)
    (case l_law_plus => k_is)
    (case c_law_plus => k_is)
    (case k_law_plus => k_is)
    (case a_law_times => k_is)
    (case l_law_times => k_is)
    (case c_law_times => k_is)
    (case k_law_times => k_is)
    (case mc_Ratio => k_is)
    (case pg_Ratio => k_is)
    (case hd_Ratio => k_is)
    (case po_Ratio => k_is)
    (case sa_Ratio => k_is)
    (case mk_Ratio => k_is)
    (case kc_Ratio => k_is)
    (case ha_Ratio => k_is)
    (case hn_Ratio => k_is)
    (case ht_Ratio => k_is)
    (case hm_Ratio => k_is)
    (case nnum_Ratio => k_is)
    (case nden_Ratio => k_is)
    (case mc_Gains => k_is)
    (case pg_Gains => k_is)
    (case hd_Gains => k_is)
    (case po_Gains => k_is)
    (case sa_Gains => k_is)
    (case mk_Gains => k_is)
    (case kc_Gains => k_is)
    (case ha_Gains => k_is)
    (case hn_Gains => k_is)
    (case ht_Gains => k_is)
    (case hm_Gains => k_is)
    (case ncells_Gains => k_is)
    (case a_Ratio___init => k_is)
    (case i_Ratio___init => k_is)
    (case l_Ratio___init => k_is)
    (case c_Ratio___init => k_is)
    (case k_Ratio___init => k_is)
    (case lT_Ratio___init => k_is)
    (case a_Ratio___eq => k_is)
    (case i_Ratio___eq => k_is)
    (case l_Ratio___eq => k_is)
    (case c_Ratio___eq => k_is)
    (case k_Ratio___eq => k_is)
    (case a_Gains___init => k_is)
    (case i_Gains___init => k_is)
    (case l_Gains___init => k_is)
    (case c_Gains___init => k_is)
    (case k_Gains___init => k_is)
    (case a_Gains___eq => k_is)
    (case i_Gains___eq => k_is)
    (case l_Gains___eq => k_is)
    (case c_Gains___eq => k_is)
    (case k_Gains___eq => k_is)
    (case a_Gains_width => k_is)
    (case i_Gains_width => k_is)
    (case l_Gains_width => k_is)
    (case c_Gains_width => k_is)
    (case k_Gains_width => k_is)
    (case a_Gains_own => k_is)
    (case i_Gains_own => k_is)
    (case l_Gains_own => k_is)
    (case c_Gains_own => k_is)
    (case k_Gains_own => k_is)
    (case a_Ratio___add => k_is)
    (case i_Ratio___add => k_is)
    (case l_Ratio___add => k_is)
    (case c_Ratio___add => k_is)
    (case k_Ratio___add => k_is)
    (case a_Ratio___mul => k_is)
    (case i_Ratio___mul => k_is)
    (case l_Ratio___mul => k_is)
    (case c_Ratio___mul => k_is)
    (case k_Ratio___mul => k_is)
    (case mc_GameError => k_is)
    (case mc_BadEdit => k_is)
    (case mc_BadPlan => k_is)
    (case mc_BadRatio => k_is)
    (case mc_BadText => k_is)
    (case mc_TooLarge => k_is)
    (case mc_BadGains => k_is)
    (case opq => first | k_is | rfl | decide +kernel)
    (case zsup => k_is)
    (case ptop => first | k_is | rfl | decide +kernel)
    (case xsp => k_is)
    (case xtk => k_is)
    (case xL_BadGains => k_is)
    (case al_BadGains => first | k_is | rfl | decide +kernel)
    (case ve_BadGains => k_is)
    (case sa_BadGains => k_is)
    (case ga_BadGains => k_is)
    (case gg_BadGains => k_is)
    (case nb_BadGains => k_is)
    (case iC_BadGains => k_is)
    (case tf_BadGains => k_is)
    (case kC_BadGains => k_is)
    (case eC_BadGains => k_is)
    (case tC_BadGains => k_is)
    (case hC_BadGains => k_is)
    (case mo_BadGains => k_is)
    (case ma_BadGains => k_is)
    (case ca_BadGains => k_is)
    (case ss_BadGains => first | k_is | rfl | decide +kernel)
    (case lf_BadGains => k_is)
    (case cf_BadGains => k_is)
    (case lc_BadGains => k_is)
    (case ld_BadGains => k_is)
    (case vf_BadGains => first | k_is | rfl | decide +kernel)
    (case fe_BadGains => first | k_is | rfl | decide +kernel)
    (case hsfR => first | k_is | kit_is | rfl | decide +kernel)
    (case hgE => first | k_is | kit_is | rfl | decide +kernel)
    (case hgH => first | k_is | kit_is | rfl | decide +kernel)
    (case hgT => first | k_is | kit_is | rfl | decide +kernel)
    (case hgS => first | k_is | kit_is | rfl | decide +kernel)
    (case hkX => first | k_is | kit_is | rfl | decide +kernel)
    (case hkTR => first | k_is | kit_is | rfl | decide +kernel)
    (case hnR => first | k_is | kit_is | rfl | decide +kernel)
    (case z_MOST_MOVES => k_is)
    (case z_gcd => k_is)
    (case z_lcm => k_is)
    (case z_abs => k_is)
    (case z_all => k_is)
    (case z_any => k_is)
    (case z_bool => k_is)
    (case z_int => k_is)
    (case z_isinstance => k_is)
    (case z_len => k_is)
    (case z_list => k_is)
    (case z_range => k_is)
    (case z_str => k_is)
    (case z_sum => k_is)
    (case z_tuple => k_is)
    (case z_zip => k_is)

