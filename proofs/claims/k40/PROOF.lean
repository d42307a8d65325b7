
import PyProof.Rows.All
import Wide.All
import OpenK.AllK
import Wide.FinOn
import HandS.ForMost
import HandS.Codes
import HandS.IsInst
import HandS.EndBits
import HandS.Walk
import HandS.DeepEq
import HandS.Gcd
import HandS.Wide
import HandS.Defaults
import HandS.OwnEq
import HandS.Dict
import HandS.WordsDict
import HandS.Star
import HandS.Strs
import HandS.RaiseMore
import HandS.More
import HandS.ForExc
import HandS.ExcIs
import HandS.ExcField
import KE.KExcSuper
import KE.KSuper
import HandS.TryMany
import HandS.ExcInit
import HandS.CallSlots
import HandS.WrittenGet
import HandS.Iter
import HandS.Zip
import HandS.Property
import HandS.MakeKwOnly
import HandS.Style
import KE.RegKIsAll
import HandS.Rev
import HandS.TupAny
import HandS.Deep
import HandS.DictTup
import KE.KeyNested
import KE.KDictKeyed
import KE.KDictPairs
import OpenK.KMeth
import OpenK.KWalk
import OpenK.KMake
import PyProof.InstNe
import HandS.HotCalls
import PySem.Challenge.RW_bothgain_k40_plans_are_checked
set_option Elab.async false
set_option linter.all false
set_option maxRecDepth 100000
set_option maxHeartbeats 4000000
set_option pp.maxSteps 400

/-! dicts whose keys are nested tuples (the hand layer): keys that are told to the tracked heap, get, in, put, items -/
namespace NDi
open PySem PySem.W PySem.Calls PyProof.Rows PyProof.V PySem.Spec L2
mutual
/-- the value v is the key k, its tuples tracked -/
inductive NK (H : Hp) : NestedKey → V → Prop
  | none : NK H .none .non
  | num (i : Int) : NK H (.num i) (.int i)
  | text (x : Str) : NK H (.text x) (.str x)
  | tup {a : Addr} {vs : List V} {ks : List NestedKey} : H a = some (.tup vs) → NKs H ks vs → NK H (.tup ks) (.ref a)
inductive NKs (H : Hp) : List NestedKey → List V → Prop
  | nil : NKs H [] []
  | cons {k : NestedKey} {v : V} {ks : List NestedKey} {vs : List V} : NK H k v → NKs H ks vs → NKs H (k :: ks) (v :: vs)
end
mutual
theorem NK.tk {H H' : Hp} (t : ∀ b xs, H b = some (.tup xs) → H' b = some (.tup xs)) : ∀ (k : NestedKey) {v : V}, NK H k v → NK H' k v
  | .none, _, h => by cases h; exact .none
  | .num i, _, h => by cases h; exact .num i
  | .text x, _, h => by cases h; exact .text x
  | .tup ks, _, h => by
    cases h with
    | tup h1 h2 => exact .tup (t _ _ h1) (NKs.tk t ks h2)
theorem NKs.tk {H H' : Hp} (t : ∀ b xs, H b = some (.tup xs) → H' b = some (.tup xs)) : ∀ (ks : List NestedKey) {vs : List V}, NKs H ks vs → NKs H' ks vs
  | [], _, h => by cases h; exact .nil
  | k :: ks, _, h => by
    cases h with
    | cons h1 h2 => exact .cons (NK.tk t k h1) (NKs.tk t ks h2)
end
section
variable {P : Program} {w : World} {H : Hp} {h : Heap}
mutual
theorem nk_is (ok : HOk P w H h) : ∀ (k : NestedKey) {v : V} {u : Value}, NK H k v → RelV v u → NestedIs h k u
  | .none, _, u, n, r => by
    cases n
    cases (show u = Value.none from r)
    exact .none
  | .num i, _, u, n, r => by
    cases n
    obtain ⟨t, rfl⟩ := r
    exact .int i t
  | .text x, _, u, n, r => by
    cases n
    obtain ⟨t, rfl⟩ := r
    exact .text x t
  | .tup ks, _, u, n, r => by
    cases n with
    | @tup a vs _ h1 h2 =>
      cases (show u = Value.ref a from r)
      obtain ⟨_, its, rv, o, e1, e2, m, e3⟩ := (show ObjOk P w H h a (.tup vs) from ok a _ h1)
      exact .tup e1 e2 e3 (by simpa using nks_are ok ks h2 rv)
theorem nks_are (ok : HOk P w H h) : ∀ (ks : List NestedKey) {vs : List V} {us : List Value}, NKs H ks vs → Vals vs us → NestedAll h ks us
  | [], _, us, n, r => by
    cases n
    cases r
    exact .nil
  | k :: ks, _, us, n, r => by
    cases n with
    | cons n1 n2 =>
      cases r with
      | cons r1 r2 => exact .cons (nk_is ok k n1 r1) (nks_are ok ks n2 r2)
end
end
abbrev Ent := NestedKey × Addr × V
abbrev RE : List Ent → List (NestedKey × Addr × Value) → Prop := Paired fun p q => p.1 = q.1 ∧ p.2.1 = q.2.1 ∧ RelV p.2.2 q.2.2
def valN (xs : List Ent) (k : NestedKey) : Option V := (xs.find? fun x => decide (x.1 = k)).map (·.2.2)
def putN (xs : List Ent) (k : NestedKey) (b : Addr) (v : V) : List Ent := if (valN xs k).isSome then xs.map (fun x => if x.1 = k then (x.1, x.2.1, v) else x) else xs ++ [(k, b, v)]
theorem valN_nil (k : NestedKey) : valN [] k = none := rfl
theorem valN_pos {p : Ent} {r : List Ent} {k : NestedKey} (e : p.1 = k) : valN (p :: r) k = some p.2.2 := by simp [valN, List.find?_cons, e]
theorem valN_neg {p : Ent} {r : List Ent} {k : NestedKey} (e : ¬ p.1 = k) : valN (p :: r) k = valN r k := by simp [valN, List.find?_cons, e]
theorem putN_new {xs : List Ent} {k : NestedKey} {b : Addr} {v : V} (h : valN xs k = none) : putN xs k b v = xs ++ [(k, b, v)] := by
  unfold putN
  rw [h]; rfl
theorem putN_len (xs : List Ent) (k : NestedKey) (b : Addr) (v : V) : (putN xs k b v).length ≤ xs.length + 1 := by
  unfold putN
  split
  · rw [List.length_map]; omega
  · rw [List.length_append]; exact Nat.le_refl _
theorem putN_mem {xs : List Ent} {k : NestedKey} {b : Addr} {v : V} {x : Ent} (h : x ∈ putN xs k b v) : (∃ y ∈ xs, y.1 = x.1 ∧ y.2.1 = x.2.1) ∨ (x.1 = k ∧ x.2.1 = b) := by
  unfold putN at h
  split at h
  · obtain ⟨y, hy, rfl⟩ := List.mem_map.mp h
    left
    refine ⟨y, hy, ?_⟩
    split
    · exact ⟨rfl, rfl⟩
    · exact ⟨rfl, rfl⟩
  · rcases List.mem_append.mp h with q | q
    · exact .inl ⟨x, q, rfl, rfl⟩
    · rw [List.mem_singleton.mp q]; exact .inr ⟨rfl, rfl⟩
theorem valN_some {xs : List Ent} {k : NestedKey} {v : V} (h : valN xs k = some v) : ∃ b, (k, b, v) ∈ xs := by
  unfold valN at h
  obtain ⟨x, hx, rfl⟩ := Option.map_eq_some_iff.mp h
  have h1 := List.find?_some hx
  have h2 := List.mem_of_find?_eq_some hx
  simp only [decide_eq_true_eq] at h1
  exact ⟨x.2.1, by rw [← h1]; exact h2⟩
theorem valN_none {xs : List Ent} {k : NestedKey} (h : ∀ x ∈ xs, x.1 ≠ k) : valN xs k = none := by
  unfold valN
  rw [Option.map_eq_none_iff, List.find?_eq_none]
  intro x hx
  simpa using h x hx
theorem RE.val {xs : List Ent} {vs : List (NestedKey × Addr × Value)} (r : RE xs vs) (k : NestedKey) : RelO (valN xs k) ((atKey vs k).map (·.2)) := by
  induction r with
  | nil => exact True.intro
  | @cons p q ps qs h t ih =>
    obtain ⟨h1, _, h2⟩ := h
    by_cases e : p.1 = k
    · have e' : q.1 = k := h1.symm.trans e
      have b : atKey (q :: qs) k = some q.2 := by simp [atKey, List.find?_cons, e']
      rw [valN_pos e, b]; exact h2
    · have e' : ¬ q.1 = k := fun z => e (h1.trans z)
      have b : atKey (q :: qs) k = atKey qs k := by simp [atKey, List.find?_cons, e']
      rw [valN_neg e, b]; exact ih
theorem RE.put {xs : List Ent} {vs : List (NestedKey × Addr × Value)} (r : RE xs vs) (k : NestedKey) (b : Addr) {y : V} {u : Value} (ry : RelV y u) : RE (putN xs k b y) (storedH vs k b u) := by
  have e : (valN xs k).isSome = (atKey vs k).isSome := by
    rw [(r.val k).isSome_eq, Option.isSome_map]
  unfold putN storedH
  rw [e]
  by_cases q : (atKey vs k).isSome = true
  · rw [if_pos q, if_pos q]
    clear e q
    induction r with
    | nil => exact .nil
    | @cons p q ps qs h t ih =>
      rw [List.map_cons, List.map_cons]
      refine .cons ?_ ih
      obtain ⟨h1, h2, h3⟩ := h
      unfold putAt
      by_cases e : p.1 = k
      · rw [if_pos e, if_pos (h1.symm.trans e)]; exact ⟨h1, h2, ry⟩
      · rw [if_neg e, if_neg (fun z => e (h1.trans z))]; exact ⟨h1, h2, h3⟩
  · rw [if_neg q, if_neg q]; exact Paired.snoc r ⟨rfl, rfl, ry⟩
/-- what is true of the dict's object -/
def ndφ (P : Program) (w : World) (a : Addr) (xs : List Ent) (h : Heap) : Prop := xs.length ≤ sizeLine ∧ (a == sysModules) = false ∧ ∃ vs, RE xs vs ∧
  ∃ o es ep, h.get? a = some o ∧ o.ExactDict ∧ o.data = .dict es ep ∧ es.toList = vs.map (entryOfKey (nestedKind P w)) ∧ (vs.map (·.1)).Nodup
def ndO (P : Program) (w : World) (a : Addr) (xs : List Ent) : HO := .ext (ndφ P w a xs)
theorem ndO_ok {P : Program} {w : World} {H : Hp} {h : Heap} {a : Addr} {xs : List Ent} (x : ndφ P w a xs h) : ObjOk P w H h a (ndO P w a xs) := by
  refine ⟨x, ?_, fun h1 h2 x1 k => ?_⟩
  · obtain ⟨_, _, _, _, o, _, _, e, _⟩ := x; exact ⟨o, e⟩
  · obtain ⟨z, y, vs, r, o, es, ep, e, c⟩ := x1
    exact ⟨z, y, vs, r, o, es, ep, k o e, c⟩
theorem nd_of {P : Program} {w : World} {H : Hp} {h : Heap} {a : Addr} {xs : List Ent} (ok : HOk P w H h) (e : Rd H a (ndO P w a xs)) : ndφ P w a xs h := (show ObjOk P w H h a (.ext (ndφ P w a xs)) from e.ok ok).1
/-- a dict with nested keys, its keys tracked -/
def NDat (P : Program) (w : World) (H : Hp) (a : Addr) (xs : List Ent) : Prop := Rd H a (ndO P w a xs) ∧ ∀ x ∈ xs, NK H x.1 (.ref x.2.1) ∧ x.1.depth ≤ 8
theorem NDat.dict {P : Program} {w : World} {H : Hp} {h : Heap} {a : Addr} {xs : List Ent} (ok : HOk P w H h) (n : NDat P w H a xs) : xs.length ≤ sizeLine ∧ (a == sysModules) = false ∧ ∃ vs, RE xs vs ∧ h.DictOfH (nestedKind P w) a vs := by
  obtain ⟨z, y, vs, r, o, es, ep, h1, h2, h3, h4, h5⟩ := nd_of ok n.1
  refine ⟨z, y, vs, r, o, es, ep, h1, h2, h3, h4, ?_, h5⟩
  have all : ∀ {l : List Ent} {m : List (NestedKey × Addr × Value)}, RE l m → (∀ x ∈ l, NK H x.1 (.ref x.2.1) ∧ x.1.depth ≤ 8) → ∀ x ∈ m, (nestedKind P w).is h x.1 x.2.1 := by
    intro l m q
    induction q with
    | nil => intro _ x hx; exact nomatch hx
    | @cons p q ps qs hq t ih =>
      intro hk x hx
      rcases List.mem_cons.mp hx with e | hx
      · subst e
        obtain ⟨k1, k2⟩ := hk p (List.mem_cons_self ..)
        rw [hq.1, hq.2.1] at k1
        rw [hq.1] at k2
        exact ⟨nk_is ok _ k1 rfl, k2⟩
      · exact ih (fun y hy => hk y (List.mem_cons_of_mem _ hy)) x hx
  exact all r n.2
/-- what it holds at y -/
def NGet (P : Program) (w : World) (H : Hp) (a : Addr) (y : V) (r : Option V) : Prop := ∃ xs k b, NDat P w H a xs ∧ y = .ref b ∧ NK H k (.ref b) ∧ k.depth ≤ 8 ∧ r = valN xs k
/-- the heap behind a[y] = v -/
def NPut (P : Program) (w : World) (H : Hp) (a : Addr) (y v : V) (H' : Hp) : Prop := ∃ xs k b, NDat P w H a xs ∧ H a = some (ndO P w a xs) ∧ y = .ref b ∧ NK H k (.ref b) ∧ k.depth ≤ 8 ∧ xs.length < sizeLine ∧ H' = upd H a (ndO P w a (putN xs k b v))
theorem nd_ne {P : Program} {w : World} {H : Hp} {a b : Addr} {xs : List Ent} {ys : List V} (h : H a = some (ndO P w a xs)) (g : H b = some (.tup ys)) : b ≠ a := ne_of g h (fun z => nomatch z)
theorem nd_tk {P : Program} {w : World} {H : Hp} {a : Addr} {xs : List Ent} {o : HO} (h : H a = some (ndO P w a xs)) : ∀ b ys, H b = some (.tup ys) → upd H a o b = some (.tup ys) := fun b ys g => by
  rw [upd_ne (nd_ne h g)]; exact g
theorem NDat.put {P : Program} {w : World} {H : Hp} {a b : Addr} {xs : List Ent} {k : NestedKey} {v : V} (n : NDat P w H a xs) (h : H a = some (ndO P w a xs)) (hk : NK H k (.ref b)) (hd : k.depth ≤ 8) : NDat P w (upd H a (ndO P w a (putN xs k b v))) a (putN xs k b v) := by
  refine ⟨.inl upd_same, fun x hx => ?_⟩
  rcases putN_mem hx with ⟨y, hy, e1, e2⟩ | ⟨e1, e2⟩
  · obtain ⟨k1, k2⟩ := n.2 y hy
    rw [e1, e2] at k1
    rw [e1] at k2
    exact ⟨NK.tk (nd_tk h) _ k1, k2⟩
  · rw [e1, e2]
    exact ⟨NK.tk (nd_tk h) _ hk, hd⟩
section
variable {X : Cx} {pins : List (Addr × Obj)} {σ : L2.St} {H : Hp} {s : Shared} {a : Addr} {y v : V} {u r : Value} {o : Option V} {A : Around} {E : Value → Shared → Prop}
theorem room_n (hu : A.units + 65 < cLine) : (nestedKind X.prog X.w).room A.in1 := by
  show A.in1.units + 8 < cLine
  rw [Around.in1_units]; omega
theorem n_getItem {Q : Value → Shared → Prop} (hu : A.units + 65 < cLine) (I : Inv X pins σ H s) (g : NGet X.prog X.w H a y (some v)) (ry : RelV y u) (h : ∀ w' s', Inv X pins σ H s' → RelV v w' → Q w' s') :
    wpAny (model X.prog X.w) A (getItem (.ref a) u) Q E s := by
  obtain ⟨xs, k, b, n, ey, hk, hd, l⟩ := g
  subst ey
  cases (show u = Value.ref b from ry)
  obtain ⟨z, hs, vs, rel, dd⟩ := n.dict I.hok
  obtain ⟨w', hw, rw'⟩ := RelO.some_of (v := v) (o := (atKey vs k).map (·.2)) (by rw [l]; exact rel.val k)
  obtain ⟨p, hp, hp2⟩ := Option.map_eq_some_iff.mp hw
  refine wpAny_getItem_heap (room_n hu) ⟨nk_is I.hok _ hk rfl, hd⟩ dd hp ?_
  rw [hp2]
  exact h w' _ (I.tok _) rw'
theorem n_in {Q : Value → Shared → Prop} (hu : A.units + 65 < cLine) (I : Inv X pins σ H s) (g : NGet X.prog X.w H a y o) (ry : RelV y u) (h : ∀ s', Inv X pins σ H s' → Q (.bool o.isSome) s') :
    wpAny (model X.prog X.w) A (compareOp .In u (.ref a)) Q E s := by
  obtain ⟨xs, k, b, n, ey, hk, hd, l⟩ := g
  subst ey
  cases (show u = Value.ref b from ry)
  obtain ⟨z, hs, vs, rel, dd⟩ := n.dict I.hok
  refine wpAny_in_heap (room_n hu) ⟨nk_is I.hok _ hk rfl, hd⟩ hs dd ?_
  have q := (rel.val k).isSome_eq
  rw [Option.isSome_map] at q
  rw [← q, ← l]
  exact h _ (I.tok _)
theorem n_notIn {Q : Value → Shared → Prop} (hu : A.units + 65 < cLine) (I : Inv X pins σ H s) (g : NGet X.prog X.w H a y o) (ry : RelV y u) (h : ∀ s', Inv X pins σ H s' → Q (.bool (!o.isSome)) s') :
    wpAny (model X.prog X.w) A (compareOp .NotIn u (.ref a)) Q E s := by
  obtain ⟨xs, k, b, n, ey, hk, hd, l⟩ := g
  subst ey
  cases (show u = Value.ref b from ry)
  obtain ⟨z, hs, vs, rel, dd⟩ := n.dict I.hok
  refine wpAny_notIn_heap (room_n hu) ⟨nk_is I.hok _ hk rfl, hd⟩ hs dd ?_
  have q := (rel.val k).isSome_eq
  rw [Option.isSome_map] at q
  rw [← q, ← l]
  exact h _ (I.tok _)
theorem n_setItem {H' : Hp} {Q : Unit → Shared → Prop} (hu : A.units + 65 < cLine) (I : Inv X pins σ H s) (g : NPut X.prog X.w H a y v H') (ry : RelV y u) (rv : RelV v r) (h : ∀ s', Inv X pins σ H' s' → Q () s') :
    wpAny (model X.prog X.w) A (setItem (.ref a) u r) Q E s := by
  obtain ⟨xs, k, b, n, e, ey, hk, hd, l, eH⟩ := g
  subst ey eH
  cases (show u = Value.ref b from ry)
  obtain ⟨z, hs0, vs, rel, dd⟩ := n.dict I.hok
  have hz : vs.length ≤ sizeLine := by rw [← Paired.length rel]; exact z
  have hl : (putN xs k b v).length ≤ sizeLine := by have := putN_len xs k b v; omega
  refine wpAny_setItem_heap (hsz := hz) (room_n hu) ⟨nk_is I.hok _ hk rfl, hd⟩ dd fun h' dd' hs => h _ ?_
  obtain ⟨q, es, ep, hq, h2, h3, h4, _, h5⟩ := dd'
  exact d_write I (by rw [e]; exact True.intro) hs ⟨q, hq⟩ (ndO_ok ⟨hl, hs0, _, rel.put k b rv, q, es, ep, hq, h2, h3, h4, h5⟩)
theorem n_get2 {d : V} {Q : Value → Shared → Prop} (hu : A.units + 65 < cLine) (I : Inv X pins σ H s) (g : NGet X.prog X.w H a y o) (ry : RelV y u) (rd : RelV d r) (h : ∀ w' s', Inv X pins σ H s' → RelV (o.getD d) w' → Q w' s') :
    wpAny (model X.prog X.w) A (call (.builtin "dict.get") [.ref a, u, r]) Q E s := by
  obtain ⟨xs, k, b, n, ey, hk, hd, l⟩ := g
  subst ey
  cases (show u = Value.ref b from ry)
  obtain ⟨z, hs, vs, rel, dd⟩ := n.dict I.hok
  refine call_meetsIn PySem.F.slot_dict_get dd.typeIs PySem.F.entry_dict_get (PySem.F.args_dict_get_3 _ _ _) (meetsH_dict_get_default (nestedKind X.prog X.w) a b hs r) ⟨room_n hu, k, vs, ⟨nk_is I.hok _ hk rfl, hd⟩, dd, h _ _ (I.tok _) ?_⟩
  rw [l]
  exact (rel.val k).getD rd
theorem nd_typeIs {xs : List Ent} (I : Inv X pins σ H s) (n : Rd H a (ndO X.prog X.w a xs)) : s.TypeIs (.ref a) "dict" ∧ (∀ b, Value.ref a = .ref b → ∃ ob, s.heap.get? b = some ob ∧ ob.dict = none) ∧ (a == sysModules) = false := by
  obtain ⟨z, hs, vs, rel, o, es, ep, h1, h2, h3⟩ := nd_of I.hok n
  refine ⟨⟨o, h1, h2.1⟩, fun b q => ?_, hs⟩
  cases q
  exact ⟨o, h1, h2.2.1⟩
end
/-! readings and rules -/
def tNGet (P : Program) (w : World) (td ty : TE) : TE := fun σ H Q => td σ H fun x H1 => ty σ H1 fun y H2 => ∃ a v, x = .ref a ∧ NGet P w H2 a y (some v) ∧ Q v H2
def tNIn (P : Program) (w : World) (ty td : TE) : TE := fun σ H Q => ty σ H fun y H1 => td σ H1 fun x H2 => ∃ a o, x = .ref a ∧ NGet P w H2 a y o ∧ Q (.bl o.isSome) H2
def tNNotIn (P : Program) (w : World) (ty td : TE) : TE := fun σ H Q => ty σ H fun y H1 => td σ H1 fun x H2 => ∃ a o, x = .ref a ∧ NGet P w H2 a y o ∧ Q (.bl (!o.isSome)) H2
def sNPut (P : Program) (w : World) (td ty tv : TE) : TS := fun D σ H => tv σ H fun v H1 => td σ H1 fun x H2 => ty σ H2 fun y H3 => ∃ a H4, x = .ref a ∧ NPut P w H3 a y v H4 ∧ D.nx σ H4
def tNGet2 (P : Program) (w : World) (td ty tx : TE) : TE := fun σ H Q => td σ H fun x H1 => ∃ a xs, x = .ref a ∧ Rd H1 a (ndO P w a xs) ∧ ty σ H1 fun y H2 => tx σ H2 fun z H3 => ∃ o, NGet P w H3 a y o ∧ Q (o.getD z) H3
def tNNew (P : Program) (w : World) : TE := fun _ H Q => ∀ p, H p = none → Q (.ref p) (upd H p (ndO P w p []))
section
variable {X : Cx} {P : Program} {w : World} {o i e f value : Expr} {pos pos' apos cpos : Pos} {td ty tv tx : TE}
theorem pe_nget (hu : X.A.units + 65 < cLine) (ho : PE X o td) (hi : PE X i ty) (hs : NoSl i) (hP : X.prog = P := by rfl) (hw : X.w = w := by rfl) : PE X (.Subscript o i pos) (tNGet P w td ty) := by
  subst hP hw
  refine ⟨fun pins s σ H Q I h => ?_⟩
  refine subD_of PySem.F.slot_dict_getitem.lookup hs (thn (ho.run pins s σ H _ I h) fun u s1 ⟨x, H1, I1, rx, q1⟩ => thn (hi.run pins s1 σ H1 _ I1 q1) fun iv s2 ⟨y, H2, I2, ry, a, v, ex, g, q2⟩ => ?_)
  subst ex
  obtain rfl : u = Value.ref a := rx
  obtain ⟨xs, _, _, n, _⟩ := id g
  exact ⟨(nd_typeIs I2 n.1).1, n_getItem hu I2 g ry fun w' s3 I3 rw' => ⟨v, H2, I3, rw', q2⟩⟩
theorem pc_nin (hu : X.A.units + 65 < cLine) (hi : PE X i ty) (ho : PE X o td) (hP : X.prog = P := by rfl) (hw : X.w = w := by rfl) : PC X .In i o (tNIn P w ty td) := by
  subst hP hw
  refine ⟨fun pins s σ H Q I h => ?_⟩
  refine thn (hi.run pins s σ H _ I h) fun iv s1 ⟨y, H1, I1, ry, q1⟩ => thn (ho.run pins s1 σ H1 _ I1 q1) fun u s2 ⟨x, H2, I2, rx, a, ov, ex, g, q2⟩ => ?_
  subst ex
  obtain rfl : u = Value.ref a := rx
  exact n_in hu I2 g ry fun s3 I3 => ⟨.bl ov.isSome, H2, I3, rfl, q2⟩
theorem pc_nnotin (hu : X.A.units + 65 < cLine) (hi : PE X i ty) (ho : PE X o td) (hP : X.prog = P := by rfl) (hw : X.w = w := by rfl) : PC X .NotIn i o (tNNotIn P w ty td) := by
  subst hP hw
  refine ⟨fun pins s σ H Q I h => ?_⟩
  refine thn (hi.run pins s σ H _ I h) fun iv s1 ⟨y, H1, I1, ry, q1⟩ => thn (ho.run pins s1 σ H1 _ I1 q1) fun u s2 ⟨x, H2, I2, rx, a, ov, ex, g, q2⟩ => ?_
  subst ex
  obtain rfl : u = Value.ref a := rx
  exact n_notIn hu I2 g ry fun s3 I3 => ⟨.bl (!ov.isSome), H2, I3, rfl, q2⟩
theorem ps_nput (hu : X.A.units + 65 < cLine) (ho : PE X o td) (hi : PE X i ty) (hv : PE X value tv) (hs : swapsWith value (some (.Subscript o i pos')) pos.line X.env = pure false) (hP : X.prog = P := by rfl) (hw : X.w = w := by rfl) :
    PS X (.Assign [.Subscript o i pos'] value pos) (sNPut P w td ty tv) := by
  subst hP hw
  refine ⟨fun pins s σ H D I h => ?_⟩
  refine wpAny_Assign_Subscript (thn (hv.run pins s σ H _ I h) fun r s1 ⟨v, H1, I1, rv, q1⟩ => thn (ho.run pins s1 σ H1 _ I1 q1) fun u s2 ⟨x, H2, I2, rx, q2⟩ => thn (hi.run pins s2 σ H2 _ I2 q2) fun iv s3 ⟨y, H3, I3, ry, a, H4, ex, g, q3⟩ => ?_) hs
  subst ex
  obtain rfl : u = Value.ref a := rx
  exact n_setItem hu I3 g ry rv fun s4 I4 => ⟨σ, H4, I4, q3⟩
theorem pe_nget2 (hu : X.A.units + 65 < cLine) (ho : PE X o td) (he : PE X e ty) (hf : PE X f tx) (m : M2 X o "get" apos e f cpos) (hP : X.prog = P := by rfl) (hw : X.w = w := by rfl) : PE X (.Call (.Attribute o "get" apos) [e, f] [] cpos) (tNGet2 P w td ty tx) := by
  subst hP hw
  refine ⟨fun pins s σ H Q I h => ?_⟩
  refine wpAny_Call_method m.base m.few m.line PySem.F.plainAttrs_dict PySem.F.slot_dict_get PySem.F.type_dict_get (thn (ho.run pins s σ H _ I h) fun u s1 ⟨x, H1, I1, rx, a, xs, ex, d, q1⟩ => ?_)
  subst ex
  obtain rfl : u = Value.ref a := rx
  obtain ⟨t1, t2, _⟩ := nd_typeIs I1 d
  refine ⟨t1, t2, ?_⟩
  rw [m.trees]
  refine Calls.callWith_builtin rfl (Calls.evalArgs_plain (Calls.spliced_cons (thn (he.run pins s1 σ H1 _ I1 q1) fun iv s2 ⟨y, H2, I2, ry, q2⟩ =>
    Calls.spliced_cons (thn (hf.run pins s2 σ H2 _ I2 q2) fun fv s3 ⟨z, H3, I3, rz, ov, g, q3⟩ => Calls.spliced_nil ?_))))
  exact n_get2 hu I3 g ry rz fun w' s4 I4 rw' => ⟨_, H3, I4, rw', q3⟩
theorem nd_empty {P : Program} {w : World} {H : Hp} (h : Heap) (hb : sysModules < h.objs.size) : ObjOk P w H (h.push { cls := .type "dict", data := .dict #[] }) h.objs.size (ndO P w h.objs.size []) :=
  ndO_ok ⟨Nat.zero_le _, beq_eq_false_iff_ne.mpr (Ne.symm (Nat.ne_of_lt hb)), [], .nil, _, #[], 0, Heap.get?_push_size _ rfl, ⟨rfl, rfl, rfl⟩, rfl, rfl, List.nodup_nil⟩
theorem pe_nnew (hP : X.prog = P := by rfl) (hw : X.w = w := by rfl) : PE X (.Dict [] [] pos) (tNNew P w) := by
  subst hP hw
  exact ⟨fun pins s σ H Q I h =>
    wpAny_Dict_empty ⟨.ref s.heap.objs.size, _, I.laid (a := s.heap.objs.size) (o := ndO X.prog X.w s.heap.objs.size []) (t' := s.toks) (fun _ _ q => Heap.get?_push_of_some _ q) (Nat.le_refl _) (nd_empty s.heap I.big), rfl, h _ (I.hok.fresh (Nat.le_refl _))⟩⟩
theorem NDat.new {P : Program} {w : World} {H : Hp} {p : Addr} : NDat P w (upd H p (ndO P w p [])) p [] := ⟨.inl upd_same, fun _ h => by cases h⟩
end
/-! .. in d.items(), the dict locked -/
def ItiN (P : Program) (w : World) (d : Addr) (o : Obj) (xs : List Ent) : It :=
  ⟨fun i H => H d = some (.frz o (ndO P w d xs)) ∧ i < xs.length, fun i H x H' => ∃ T b v k, xs[i]? = some (k, b, v) ∧ x = .ref T ∧ H T = none ∧ H' = upd H T (.tup [.ref b, v]), fun i H => H d = some (.frz o (ndO P w d xs)) ∧ xs.length ≤ i⟩
section
variable {P : Program} {w : World} {K : PySem.W.Frag} {d : Addr} {o : Obj} {es : Array DictEntry} {ep : Nat} {xs : List Ent}
theorem frzN {X : Cx} {pins : List (Addr × Obj)} {σ : L2.St} {H : Hp} {s : Shared} (I : Inv X pins σ H s) (h : H d = some (.frz o (ndO X.prog X.w d xs))) : (d == sysModules) = false ∧ s.heap.get? d = some o ∧ o.ExactDict ∧ ∃ (es : Array DictEntry) (ep : Nat), o.data = .dict es ep ∧ es.size = xs.length ∧
    ∀ (i : Nat) k b v, xs[i]? = some (k, b, v) → ∃ (en : DictEntry), es[i]? = some en ∧ en.key = .ref b ∧ RelV v en.val := by
  obtain ⟨hg, hq⟩ := (show ObjOk X.prog X.w H s.heap d (.frz o (ndO X.prog X.w d xs)) from I.hok d _ h)
  obtain ⟨⟨z, hs, vs, rel, o', es, ep, h1, h2, h3, h4, h5⟩, _⟩ := hq
  rw [hg] at h1
  cases h1
  refine ⟨hs, hg, h2, es, ep, h3, ?_, fun i k b v e => ?_⟩
  · have l1 : es.size = vs.length := size_of_entries h4
    have l2 : xs.length = vs.length := Paired.length rel
    omega
  · obtain ⟨q, hq, e1, e2, e3⟩ := L2.paired_get rel e
    have en := entry_at h4 i
    rw [hq] at en
    exact ⟨_, en, by show Value.ref q.2.1 = _; rw [← e2], e3⟩
theorem turn_itemsN {elts : List Expr} {kk : Nat} {tpos : Pos} (it : Addr) (hod : o.data = .dict es ep) :
    Turn P w K (.Tuple elts kk tpos) (ItiN P w d o xs) [it] it (fun i h => ∃ ok ov, IsItemIter h it d i xs.length ep ok ov) where
  mem := by simp
  obj := fun i h st b hb => by
    have e : b = it := by simpa using hb
    subst e
    obtain ⟨ok, ov, e⟩ := st
    exact ⟨_, e, fun v z => nomatch z⟩
  keep := fun i h h' st k => let ⟨ok, ov, e⟩ := st; ⟨ok, ov, k it (by simp) _ e⟩
  item := by
    intro X hP hw hK hc i pins s σ H E I hf st hg
    subst hP hw hK
    obtain ⟨hd, hi⟩ := hg
    obtain ⟨hs, hgd, hx, es', ep', hdt, hsz, ent⟩ := frzN I hd
    obtain ⟨rfl, rfl⟩ := dict_ep hod hdt
    obtain ⟨⟨k, b, v⟩, hkv⟩ : ∃ p, xs[i]? = some p := ⟨xs[i], List.getElem?_eq_getElem hi⟩
    obtain ⟨en, hen, ek, ru⟩ := ent i k b v hkv
    obtain ⟨ok, ov, he⟩ := st
    rw [← hsz] at he
    have hlt : it < s.heap.objs.size := Heap.lt_size he
    have hi' : i < es'.size := by rw [hsz]; exact hi
    have een : es'[i] = en := by
      have := Array.getElem?_eq_getElem hi'
      rw [hen] at this
      exact (Option.some.inj this).symm
    refine DT.nextI he ⟨_, hgd, hx, hdt⟩ hi' fun h' ho hT hz hk => ?_
    rw [een] at ho hT
    refine ⟨_, rfl, wpAny_letOwnedTupleGo_items (s := { s with heap := h' }) ho fun h'' he' sb => ?_⟩
    have hT2 : h''.get? s.heap.objs.size = some { cls := .type "tuple", data := .seq #[en.key, en.val] } := (sb.2 _ (Nat.ne_of_gt hlt)).trans hT
    have new : ObjOk X.prog X.w (upd H s.heap.objs.size (.tup [.ref b, v])) h'' s.heap.objs.size (.tup [.ref b, v]) :=
      ⟨by show 2 ≤ sizeLine; decide, [en.key, en.val], .cons ek (.cons ru .nil), ⟨_, hT2, rfl, _, rfl⟩⟩
    have I1 : Inv X pins σ (upd H s.heap.objs.size (.tup [.ref b, v])) { s with heap := h'' } :=
      I.turnedNew (t' := s.toks) (ch := [it]) (fun b ob hb e => (sb.2 b (by simpa using hb)).trans (hk b ob (by simpa using hb) e)) hf (Nat.le_refl _) new
    refine ⟨.ref s.heap.objs.size, _, I1, rfl, ⟨_, b, v, k, hkv, rfl, I.hok.fresh (Nat.le_refl _), rfl⟩, ⟨en.key, en.val, ?_⟩, fun b hb => ?_⟩
    · rw [← hsz]; exact he'
    · have e : b = it := by simpa using hb
      rw [e, upd_ne (Nat.ne_of_lt hlt)]
      exact (hf it (by simp)).1
  done := by
    intro X hP hw hK hc i pins s σ H E I hf st hg
    subst hP hw hK
    obtain ⟨hd, hi⟩ := hg
    obtain ⟨f0, f1, f2, f3, f4, f5⟩ := hf it (by simp)
    obtain ⟨hs, hgd, hx, es', ep', hdt, hsz, ent⟩ := frzN I hd
    obtain ⟨rfl, rfl⟩ := dict_ep hod hdt
    obtain ⟨ok, ov, he⟩ := st
    rw [← hsz] at he
    exact DT.endI (I.ok.hd hc) he ⟨_, hgd, hx, hdt⟩ (by rw [hsz]; exact hi) fun h' eb => ⟨rfl, I.turned (t' := s.toks) (fun b ob hb e => eb b ob hb e) f0 f1 f3 f4 f5⟩
  self := fun A i s Q E st h => let ⟨_, _, e⟩ := st; PySem.W.kcp_self e h
theorem walk_itemsN : Walk (ItiN P w d o xs) xs.length (fun H => H d = some (.frz o (ndO P w d xs))) (YPair (fun i => xs[i]?.map fun x => .ref x.2.1) (fun i => xs[i]?.map fun x => x.2.2)) := by
  refine ⟨fun _ _ hi q => ⟨q, hi⟩, fun _ q => ⟨q, Nat.le_refl _⟩, fun i H x H' _ _ y => ?_⟩
  obtain ⟨T, b, v, k, h1, h2, h3, h4⟩ := y
  exact ⟨T, .ref b, v, h2, h3, h4, by simp [h1], by simp [h1]⟩
end
def iItemsN (P : Program) (w : World) (td : TE) : TI := fun σ H R => td σ H fun x H1 => ∃ d o xs, x = .ref d ∧ H1 d = some (.frz o (ndO P w d xs)) ∧ R (ItiN P w d o xs) H1
theorem pi_itemsN {X : Cx} {P : Program} {w : World} {e : Expr} {td : TE} {apos cpos : Pos} {elts : List Expr} {kk : Nat} {tpos : Pos} (he : PE X e td) (hbase : attributeBase e "items" X.env (eval e X.env) = eval e X.env := by rfl) (hline : (apos.endLine == cpos.line) = true := by rfl) (hP : X.prog = P := by rfl) (hw : X.w = w := by rfl) :
    PI X (.Tuple elts kk tpos) (.Call (.Attribute e "items" apos) [] [] cpos) (iItemsN P w td) := by
  subst hP hw
  refine ⟨fun pins s σ H R I h => ?_⟩
  refine wpAny_Call_method (T := "dict") (id := "dict.items") hbase rfl hline F.plainAttrs_dict F.slot_dict_items F.type_dict_items (thn (he.run pins s σ H _ I h) fun u s1 ⟨x, H1, I1, rx, d, o, xs, ex, hd, q⟩ => ?_)
  subst ex
  obtain rfl : u = Value.ref d := rx
  obtain ⟨hs, hgd, hx, es, ep, hdt, hsz, ent⟩ := frzN I1 hd
  have raw : DT.Raw s1.heap d es ep := ⟨_, hgd, hx, hdt⟩
  refine ⟨raw.typeIs, fun b q => ?_, ?_⟩
  · cases q
    exact ⟨o, hgd, hx.2.1⟩
  have I2 : Inv X pins σ H1 { s1 with heap := s1.heap.push { cls := .type "dict_items", data := .fields #[.ref d] } } := I1.kept (t' := s1.toks) fun b ob q => Heap.get?_push_of_some _ q
  have fin : wpAny (model X.prog X.w) X.A (pyIter (.ref s1.heap.objs.size)) (PIE X pins σ (.Tuple elts kk tpos) R) X.xe { s1 with heap := s1.heap.push { cls := .type "dict_items", data := .fields #[.ref d] } } := by
    refine DT.iterI (d := d) ⟨_, Heap.get?_push_size _ rfl, rfl, rfl⟩ (raw.push _) (pi_one (tk := s1.toks) I2 _ (turn_itemsN _ hdt) ⟨.none, .none, ?_⟩ q)
    rw [← hsz]
    exact Heap.get?_push_size _ rfl
  show wpAny _ _ (callWith cpos (.builtin "dict.items") [.ref d] [] []) _ X.xe s1
  exact method_meetsIn F.slot_dict_items F.entry_dict_items rfl (PySem.evalArgs_none ⟨rfl, raw.typeIs, F.args_dict_items_1 _, _, DT.meetsItems (es := es) (ep := ep) hs, raw, fin⟩)
end NDi

namespace My
open PySem L2 C8 SX
/-! own base: tests, heaps -/
theorem bo_len : bootBuiltins "len" = some (.builtin "len") := by decide +kernel
theorem bo_isinstance : bootBuiltins "isinstance" = some (.builtin "isinstance") := by decide +kernel
theorem bo_min : bootBuiltins "min" = some (.builtin "min") := by decide +kernel
theorem bo_max : bootBuiltins "max" = some (.builtin "max") := by decide +kernel
theorem bo_abs : bootBuiltins "abs" = some (.builtin "abs") := by decide +kernel
theorem bo_int : bootBuiltins "int" = some (.type "int") := by decide +kernel
theorem bo_str : bootBuiltins "str" = some (.type "str") := by decide +kernel
theorem bo_bool : bootBuiltins "bool" = some (.type "bool") := by decide +kernel
theorem bo_list : bootBuiltins "list" = some (.type "list") := by decide +kernel
theorem bo_ord : bootBuiltins "ord" = some (.builtin "ord") := by decide +kernel
theorem bo_chr : bootBuiltins "chr" = some (.builtin "chr") := by decide +kernel
theorem bo_sum : bootBuiltins "sum" = some (.builtin "sum") := by decide +kernel
theorem bo_all : bootBuiltins "all" = some (.builtin "all") := by decide +kernel
theorem bo_any : bootBuiltins "any" = some (.builtin "any") := by decide +kernel
theorem bo_sorted : bootBuiltins "sorted" = some (.builtin "sorted") := by decide +kernel
theorem bo_dict : bootBuiltins "dict" = some (.type "dict") := by decide +kernel
theorem bo_tuple : bootBuiltins "tuple" = some (.type "tuple") := by decide +kernel
theorem iteD {p A B : Prop} [Decidable p] (h1 : p → A) (h2 : ¬ p → B) : if decide p = true then A else B := by
  by_cases h : p
  · rw [decide_eq_true h]; exact iteT (h1 h)
  · rw [decide_eq_false h]; exact iteF (h2 h)
theorem iteN {p A B : Prop} [Decidable p] (h1 : ¬ p → A) (h2 : p → B) : if (!decide p) = true then A else B := by
  by_cases h : p
  · rw [decide_eq_true h]; exact iteF (h2 h)
  · rw [decide_eq_false h]; exact iteT (h1 h)
theorem iteDT {p A B : Prop} [Decidable p] (h : p) (k : A) : if decide p = true then A else B := iteD (fun _ => k) fun z => absurd h z
theorem iteDF {p A B : Prop} [Decidable p] (h : ¬ p) (k : B) : if decide p = true then A else B := iteD (fun z => absurd z h) fun _ => k
theorem iteNT {p A B : Prop} [Decidable p] (h : ¬ p) (k : A) : if (!decide p) = true then A else B := iteN (fun _ => k) fun z => absurd z h
theorem iteNF {p A B : Prop} [Decidable p] (h : p) (k : B) : if (!decide p) = true then A else B := iteN (fun z => absurd h z) fun _ => k
theorem iteB {b : Bool} {A B : Prop} (h1 : b = true → A) (h2 : b = false → B) : if b = true then A else B := by
  cases b with
  | true => exact iteT (h1 rfl)
  | false => exact iteF (h2 rfl)
/-- in a comprehension without a test -/
theorem yes_then {σ : St} {H : Hp} {F G : Hp → Prop} (h : F H) : tYes σ H (fun b H3 => if b = true then F H3 else G H3) := h
/-- all that was tracked stands, but at W -/
def Keep (W : List Addr) (H H' : Hp) : Prop := ∀ b o, H b = some o → b ∉ W → H' b = some o
theorem Keep.refl (W : List Addr) (H : Hp) : Keep W H H := fun _ _ h _ => h
theorem Keep.trans {W : List Addr} {H H1 H2 : Hp} (a : Keep W H H1) (b : Keep W H1 H2) : Keep W H H2 := fun c o h w => b c o (a c o h w) w
theorem Keep.mono {W W' : List Addr} {H H1 : Hp} (a : Keep W H H1) (h : ∀ b, b ∈ W → b ∈ W') : Keep W' H H1 := fun c o q w => a c o q fun z => w (h c z)
theorem Keep.new {W : List Addr} {H : Hp} {p : Addr} {o : HO} (h : H p = none) : Keep W H (upd H p o) := fun b u q _ => by
  rw [upd_ne (ne_of_none q h)]; exact q
theorem Keep.at_ {W : List Addr} {H : Hp} {p : Addr} {o : HO} (h : p ∈ W) : Keep W H (upd H p o) := fun b u q w => by
  rw [upd_ne (fun z => w (by rw [z]; exact h))]; exact q
theorem Keep.then_new {W : List Addr} {H H1 : Hp} {p : Addr} {o : HO} (a : Keep W H H1) (h : H1 p = none) : Keep W H (upd H1 p o) := a.trans (Keep.new h)
theorem Keep.then_at {W : List Addr} {H H1 : Hp} {p : Addr} {o : HO} (a : Keep W H H1) (h : p ∈ W) : Keep W H (upd H1 p o) := a.trans (Keep.at_ h)
/-- what was new since H is not among the kept -/
theorem Keep.then_own {W : List Addr} {H H1 : Hp} {p : Addr} {o : HO} (a : Keep W H H1) (h : H p = none) : Keep W H (upd H1 p o) := fun b u q w => by
  rw [upd_ne (ne_of_none q h)]; exact a b u q w
theorem Keep.free {H H' : Hp} (e : Keep [] H H') {l : Addr} (h : H' l = none) : H l = none := by
  cases q : H l with
  | none => rfl
  | some o => rw [e l o q (by simp)] at h; cases h
theorem Keep.free1 {H H' : Hp} {p : Addr} {o : HO} (e : Keep [p] H H') (hp : H' p = some o) {l : Addr} (h : H' l = none) : H l = none := by
  cases q : H l with
  | none => rfl
  | some u =>
    by_cases z : l = p
    · subst z; rw [hp] at h; cases h
    · rw [e l u q (by simpa using z)] at h; cases h
theorem Keep.seqL {W : List Addr} {K : PySem.W.Frag} {H H' : Hp} {a : Addr} {xs : List V} (e : Keep W H H') (h : SqL K H a xs) (w : a ∉ W) : SqL K H' a xs := by
  rcases h with (h | ⟨o, h⟩) | h
  · exact .inl (.inl (e _ _ h w))
  · exact .inl (.inr ⟨o, e _ _ h w⟩)
  · exact .inr h
theorem Keep.seqT {W : List Addr} {K : PySem.W.Frag} {H H' : Hp} {a : Addr} {xs : List V} (e : Keep W H H') (h : SqT K H a xs) (w : a ∉ W) : SqT K H' a xs := by
  rcases h with (h | ⟨o, h⟩) | h
  · exact .inl (.inl (e _ _ h w))
  · exact .inl (.inr ⟨o, e _ _ h w⟩)
  · exact .inr h
theorem Keep.same {H H' : Hp} (e : Keep [] H H') : Same H H' := fun b o h => e b o h (by simp)
theorem ints_get {ns : List Int} {i : Nat} {v : V} (h : (ns.map V.int)[i]? = some v) : ∃ z, ns[i]? = some z ∧ v = V.int z := by
  rw [List.getElem?_map] at h
  cases e : ns[i]? with
  | none => rw [e] at h; cases h
  | some z => rw [e] at h; exact ⟨z, rfl, (Option.some.inj h).symm⟩
theorem strs_get {ns : List Str} {i : Nat} {v : V} (h : (ns.map V.str)[i]? = some v) : ∃ z, ns[i]? = some z ∧ v = V.str z := by
  rw [List.getElem?_map] at h
  cases e : ns[i]? with
  | none => rw [e] at h; cases h
  | some z => rw [e] at h; exact ⟨z, rfl, (Option.some.inj h).symm⟩
theorem smallM {n : Nat} (h : n ≤ 1000000) : n ≤ sizeLine := Nat.le_trans h (by decide)
theorem smallL {n : Nat} (h : n ≤ 1000000) : n < sizeLine := Nat.lt_of_le_of_lt h (by decide)
/-- a promise that asks the impossible: any def at all keeps it -/
def spNo : Sp := fun _ _ _ _ => False
/-! the same rules with the written part named (within a comprehension) -/
section
variable {X : Cx} {K : PySem.W.Frag}
theorem pe_fldK {e : Expr} {f : Str} {pos : Pos} {ta : TE} (he : PE X e ta) (hb : attributeBase e f X.env (eval e X.env) = eval e X.env) (hK : X.K = K := by rfl) : PE X (.Attribute e f pos) (tFld K ta f) := hK ▸ pe_fld he hb
theorem ix_listK (hK : X.K = K := by rfl) : IxR X (rIxL K) := hK ▸ ix_list
theorem ix_tupK (hK : X.K = K := by rfl) : IxR X (rIxT K) := hK ▸ ix_tup
theorem sl_listK (hK : X.K = K := by rfl) : SlR X (rSlL K) := hK ▸ sl_list
theorem sl_tupK (hK : X.K = K := by rfl) : SlR X (rSlT K) := hK ▸ sl_tup
theorem call_len_seqK (hK : X.K = K := by rfl) : CallR X (.builtin "len") (fun xs H Q => ∃ p ys, xs = [.ref p] ∧ (SqL K H p ys ∨ SqT K H p ys) ∧ Q (.int ys.length) H) := hK ▸ call_len_seq
theorem call_list_ofK (hK : X.K = K := by rfl) : CallR X (.type "list") (fun xs H Q => ∃ p ys, xs = [.ref p] ∧ (SqL K H p ys ∨ SqT K H p ys) ∧ ∀ l, H l = none → Q (.ref l) (upd H l (.lst ys))) := hK ▸ call_list_of
theorem call_isiK2 (hK : X.K = K := by rfl) : CallR X (.builtin "isinstance") (rIsi K) := hK ▸ call_isi
end
/-- behind the making of an instance -/
theorem keep_made {H H2 : Hp} {x dx : Addr} {o : HO} (hx : H x = none) (hd : H dx = none) (k : Keep [x] (upd (upd H dx (.own x)) x o) H2) : Keep [] H H2 := fun b u e _ =>
  k b u (by rw [upd_ne (ne_of_none e hx), upd_ne (ne_of_none e hd)]; exact e) (by simpa using ne_of_none e hx)
theorem kitSelf {K : PySem.W.Frag} {C : Addr} : PySem.W.kitOne K (.ref C) (.ref C) = some true := by
  unfold PySem.W.kitOne
  simp
/-- a call without arguments -/
theorem pe_c0 {X : Cx} {x : Str} {p pos : Pos} {k j : Nat} {sp : Sp} {dvs : List V} (c : C8.Cal X.prog X.w X.K X.mg X.base k x sp dvs) (hr : Room j X.A) (hk : k ≤ j) (hg : Gl X x) (hdb : (x == ("__debug__" : Str)) = false := by decide) :
    PE X (.Call (.Name x p) [] [] pos) (tCall sp dvs C8.E0 tNil) := by
  obtain ⟨f, fd, ps, ds, F, hm, kp, b, d⟩ := c.ex
  exact pe_call0 F (hr.mono hk) hg hm kp b d C8.pass0 hdb

/-! in a comprehension: unpack a tuple (the written part named) -/
theorem pg_tupK {X : Cx} {K : PySem.W.Frag} {es : List Expr} {k : Nat} {t : TGs} {n : Nat} {pos : Pos} (h : PGs X es t) (hc : X.calm = true := by rfl) (hK : X.K = K := by rfl)
    (hn : (assignEach es X.env).length = n := by rfl) (hst : (assignEach es X.env).findIdx? (·.1) = none := by rfl) : PG X (.Tuple es k pos) (gTup K n t) := hK ▸ pg_tup hc h hn hst
theorem op_in_seqK {X : Cx} {K : PySem.W.Frag} (hK : X.K = K := by rfl) : OpR X (compareOp .In) (rIn K false) := hK ▸ op_in_seq
theorem op_notIn_seqK {X : Cx} {K : PySem.W.Frag} (hK : X.K = K := by rfl) : OpR X (compareOp .NotIn) (rIn K true) := hK ▸ op_notIn_seq

/-! == and != by a def of the text's own, whatever it answers -/
structure Own (P : Program) (w : World) (K : PySem.W.Frag) (mg : Str → Option Value) (base : Heap) (k : Nat) (C : Addr) (nm : Str) (sp : Sp) : Prop where
  ex : ∃ (f : Addr) (fd : FuncData) (ps : List Str), PySem.W.findIn K (.ref C) nm = some (some (.ref f)) ∧ PySem.W.isFn K (.ref f) = true ∧ FnOk P w K mg base C8.CX0 k f fd ps sp ∧ Binds K fd ps []
def qB (Q : VK) : VK := fun v H => match v with
  | .bl r => Q (.bl r) H
  | _ => False
def qN (Q : VK) : VK := fun v H => match v with
  | .bl r => Q (.bl (!r)) H
  | _ => False
/-- two instances of the class at C: what the own def answers -/
def rOwn (C : Addr) (sp : Sp) : R2 := fun x y H Q => ∃ a b dx dy fs gs, x = .ref a ∧ y = .ref b ∧ H a = some (.ins C dx fs) ∧ H b = some (.ins C dy gs) ∧ sp [.ref a, .ref b] H (qB Q) C8.E0
def rOwnN (C : Addr) (sp : Sp) : R2 := fun x y H Q => ∃ a b dx dy fs gs, x = .ref a ∧ y = .ref b ∧ H a = some (.ins C dx fs) ∧ H b = some (.ins C dy gs) ∧ sp [.ref a, .ref b] H (qN Q) C8.E0
theorem ne_bind (self : Value) : bindSpecial (.builtin "object.__ne__") self = pure (.builtin "object.__ne__", [self]) :=
  (Slot.of (T := "object") (name := "__ne__") (owner := "object") (n := "__ne__") (by rw [typeLookup_type, builtinLookup_eq_fast]; kernel_rfl) (by decide +kernel) (by decide +kernel) (by decide +kernel)
    (.inl (by decide +kernel)) (by rw [isSubtype_type]; kernel_rfl)).bind self
theorem ne_plain : plainId "object.__ne__" = true := by decide +kernel
section
variable {X : Cx} {k j : Nat} {C : Addr} {sp : Sp}
theorem own_call {A : Around} {pins : List (Addr × Obj)} {s : Shared} {σ : St} {H : Hp} {a b f : Addr} {fd : FuncData} {ps : List Str} {Q : VK} (sb : Sub X k A) (I : Inv X pins σ H s)
    (F : FnOk X.prog X.w X.K X.mg X.base C8.CX0 k f fd ps sp) (bi : Binds X.K fd ps []) (hsp : sp [.ref a, .ref b] H Q C8.E0) :
    wpAny (model X.prog X.w) A (call (.ref f) [.ref a, .ref b]) (fun v s' => ∃ z H', Inv X pins σ H' s' ∧ RelV z v ∧ Q z H') X.xe s := by
  have e0 : Env0 X.prog X.w X.K X.mg X.base A X.stack s H := by
    have e := I.env0
    exact ⟨by rw [sb.fr]; exact e.frames, e.mod, e.bs, e.bsz, e.funs, e.frf, e.hok, e.bare⟩
  have hl := F.len _ _ _ _ hsp
  have r2 : Vals [V.ref a, V.ref b] [Value.ref a, Value.ref b] := .cons rfl (.cons rfl .nil)
  refine wpAny_call (codeAny_mono (F.run A X.stack s H ⟨[.ref a, .ref b], []⟩ [.ref a, .ref b] [.ref a, .ref b] _ C8.E0 sb.room e0 (by
    have := bi s [.ref a, .ref b] I.kIn (by simpa using hl)
    simpa using this) r2 hsp) fun r s' hq => ?_)
  cases r with
  | error e => exact C8.pass0 (X := X) (E := C8.E0) pins σ H s e s' I hq
  | ok fl =>
    cases fl with
    | ret w =>
      obtain ⟨z, H', I', rz, ez⟩ := I.after hq
      exact ⟨z, H', I', rz, ez⟩
    | next => exact False.elim hq
    | brk => exact False.elim hq
    | cont => exact False.elim hq
theorem op_own (c : Own X.prog X.w X.K X.mg X.base k C "__eq__" sp) (hr : Room j X.A) (hk : k ≤ j) : OpR X (compareOp .Eq) (rOwn C sp) := by
  intro pins s σ H x y v u Q I rx ry hq
  obtain ⟨f, fd, ps, hs, hf, F, bi⟩ := c.ex
  obtain ⟨a, b, dx, dy, fs, gs, rfl, rfl, ha, hb, hsp⟩ := hq
  cases rx
  cases ry
  obtain ⟨mA, J, _⟩ := ins_get I.hok ha
  obtain ⟨mB, J', _⟩ := ins_get I.hok hb
  obtain ⟨od, J, _⟩ := J.look
  obtain ⟨od', J', _⟩ := J'.look
  obtain ⟨m, hF⟩ := I.fr
  have sb : Sub X k X.A := ⟨hr.mono hk, rfl⟩
  show wpAny (model X.prog X.w) X.A (richCompare .Eq (.ref a) (.ref b)) (EP X pins σ Q) X.xe s
  refine PySem.W.cmp_K (op := .Eq) (tb := .ref C) sb.room.units0 hF I.ok.mod.kin J J'.type (by simp [PySem.W.notFirst]) hs hf ?_
  refine wpAny_mono (own_call sb I F bi hsp) (fun v s' z => ?_) fun _ _ x => x
  obtain ⟨z, H', I', rz, q⟩ := z
  cases z with
  | bl r => cases rz; exact ⟨.bl r, H', I', rfl, q⟩
  | _ => exact False.elim q
theorem op_ownN (c : Own X.prog X.w X.K X.mg X.base k C "__eq__" sp) (hn : PySem.W.findIn X.K (.ref C) "__ne__" = some (some (.builtin "object.__ne__"))) (hm : PySem.W.mroIn X.K C (.type "object") = some true) (hr : Room j X.A) (hk : k + 1 ≤ j) : OpR X (compareOp .NotEq) (rOwnN C sp) := by
  intro pins s σ H x y v u Q I rx ry hq
  obtain ⟨f, fd, ps, hs, hf, G, bi⟩ := c.ex
  obtain ⟨a, b, dx, dy, fs, gs, rfl, rfl, ha, hb, hsp⟩ := hq
  cases rx
  cases ry
  obtain ⟨mA, J, _⟩ := ins_get I.hok ha
  obtain ⟨mB, J', _⟩ := ins_get I.hok hb
  obtain ⟨od, J, _⟩ := J.look
  obtain ⟨od', J', _⟩ := J'.look
  obtain ⟨m, hF⟩ := I.fr
  have sb : Sub X (k + 1) X.A := ⟨hr.mono hk, rfl⟩
  have XK := I.ok.mod.kin.keeps hF.keep
  show wpAny (model X.prog X.w) X.A (richCompare .NotEq (.ref a) (.ref b)) (EP X pins σ Q) X.xe s
  unfold richCompare
  simp only [oneThing_ref]
  refine wpAny_holding (wpAny_bind (wpAny_cRoomFor sb.room.units0 ?_))
  rw [cmpInfo_NotEq]
  dsimp only
  refine wpAny_bind (J.type.here (wpAny_bind (J'.type.here ?_)))
  rw [show (Value.ref C != Value.ref C) = false from by simp]
  simp only [Bool.false_eq_true, if_false]
  refine wpAny_bind (wpAny_pure ?_)
  simp only [Bool.false_eq_true, if_false]
  have fin : ∀ (v : Value) (s' : Shared), (∃ z H', Inv X pins σ H' s' ∧ RelV z v ∧ qN Q z H') → ∃ r : Bool, v = .bool r ∧ EP X pins σ Q (.bool (!r)) s' := by
    rintro v s' ⟨z, H', I', rz, q⟩
    cases z with
    | bl r => cases rz; exact ⟨r, rfl, .bl (!r), H', I', rfl, q⟩
    | _ => exact False.elim q
  have inner : wpAny (model X.prog X.w) X.A (call (.builtin "object.__ne__") [.ref a, .ref b]) (fun v s' => ∃ r : Bool, v = .bool r ∧ EP X pins σ Q v s') X.xe s := by
    refine wpAny_call (codeAny_call_builtin ne_plain PySem.F.cmpEntry_ne (PySem.W.check_slot PySem.F.cmpKind_ne PySem.F.cmpSplit_ne (J.type.andThen (PySem.W.looks_mroIn XK hm)) (PySem.F.cmpArgs_ne _ _) ?_))
    unfold Builtin.«object.__ne__»
    repeat (first
      | with_reducible refine wpAny_cRoomFor sb.in1.room.units0 ?_
      | (refine wpAny_bind (m := callSpecialIfBound? (.ref a) (Str.ofString "__eq__") [.ref b]) (PySem.W.ifBound_K XK J hs hf (wpAny_mono (own_call sb.in1 I G bi hsp) (fun v s' z => ?_) fun _ _ x => x)))
      | wp_step)
    obtain ⟨r, rfl, q⟩ := fin v s' z
    refine wpAny_bind (m := truthy (.bool _)) (wpAny_truthy_bool ?_)
    exact wpAny_pure ⟨!r, rfl, q⟩
  unfold tryCompare
  refine wpAny_bind (wpAny_bind ?_)
  simp only [callSpecialIfBound?, bindSpecialIfBound?]
  refine wpAny_holding (wpAny_bind (wpAny_bind (wpAny_bind (J.type.here ((PySem.W.looks_findIn XK hn).here ?_)))))
  refine wpAny_bind (wpAny_askSetting (wpAny_ite ?_))
  split
  · refine wpAny_bind ?_
    rw [ne_bind]
    refine wpAny_pure (wpAny_pure ?_)
    refine wpAny_bind (wpAny_mono inner (fun v s' z => ?_) fun _ _ x => x)
    obtain ⟨r, rfl, q⟩ := z
    exact wpAny_pure (wpAny_pure (wpAny_pure q))
  · refine wpAny_tryCatch (wpAny_bind ?_)
    rw [ne_bind]
    refine wpAny_pure (wpAny_pure ?_)
    refine wpAny_bind (wpAny_mono inner (fun v s' z => ?_) fun _ _ x => x)
    obtain ⟨r, rfl, q⟩ := z
    exact wpAny_pure (wpAny_pure (wpAny_pure q))
end

/-! == of two lists as long as each other whose items are instances with an own __eq__ that answers True each time: the state may change within -/
namespace EqW
open PySem PySem.W PySem.Calls PyProof.V PySem.Spec L2 PySem.SeqAt
open MeetsSeq MeetsSeq2 MeetsSeq3 SeqRoads2
theorem eq_loopW {prog : Program} {w : World} (l b : Addr) (items items2 : Array Value) (hsz : items.size = items2.size) (W : Nat → Shared → Prop) (hW : ∀ i s, W i s → s.heap.IsList l items ∧ s.heap.IsList b items2) (k : Nat) :
    ∀ i : Nat, items.size - i = k → i ≤ items.size → MeetsIn prog w (Builtin.«list.__eq__.loop» ⟨[.ref l, .ref b, rawInt i, rawInt 2], []⟩)
      (fun A R s => W i s ∧ (∀ j (h1 : j < items.size) (h2 : j < items2.size) s, W j s → wpAny (model prog w) A.in1 (eqBool items[j] items2[j]) (fun v s' => v = true ∧ W (j + 1) s') (fun e s' => R (.error e) s') s) ∧
        ∀ s', W items.size s' → R (.ok (.ret (.bool true))) s') := by
  induction k with
  | zero =>
    intro i hk hile A R s h
    obtain ⟨hp, g, d, tk, os⟩ := s; obtain ⟨hw, he, h⟩ := h
    obtain ⟨h1, h2⟩ := hW _ _ hw
    obtain ⟨⟨cls, dd, data, sl⟩, ho, hc, n, hd⟩ := id h1
    obtain ⟨⟨cls2, dd2, data2, sl2⟩, ho2, hc2, n2, hd2⟩ := id h2
    simp only at hc hd hc2 hd2
    subst hc hd hc2 hd2
    wp_walk using PySem.AutoSeq1.wpAny_loadPart' ho, PySem.AutoSeq1.wpAny_loadPart' ho2
    have hi : i = items.size := by omega
    subst hi
    have hi1 : items[((items.size : Nat) : Int).toNat]? = none := by simp
    have hi2 : items2[((items.size : Nat) : Int).toNat]? = none := by simp [hsz]
    rw [hi1, hi2]
    wp_walk using PySem.AutoSeq1.wpAny_loadPart' ho, PySem.AutoSeq1.wpAny_loadPart' ho2
    show R (.ok (.ret (.bool (items.size == items2.size)))) _
    rw [show (items.size == items2.size) = true by simp [hsz]]
    exact h _ hw
  | succ k ih =>
    intro i hk hile A R s h
    obtain ⟨hp, g, d, tk, os⟩ := s; obtain ⟨hw, he, h⟩ := h
    obtain ⟨h1, h2⟩ := hW _ _ hw
    obtain ⟨⟨cls, dd, data, sl⟩, ho, hc, n, hd⟩ := id h1
    obtain ⟨⟨cls2, dd2, data2, sl2⟩, ho2, hc2, n2, hd2⟩ := id h2
    simp only at hc hd hc2 hd2
    subst hc hd hc2 hd2
    wp_walk using PySem.AutoSeq1.wpAny_loadPart' ho, PySem.AutoSeq1.wpAny_loadPart' ho2
    have hlt : i < items.size := by omega
    have hlt2 : i < items2.size := by omega
    have hi1 : items[((i : Nat) : Int).toNat]? = some items[i] := by simp [hlt]
    have hi2 : items2[((i : Nat) : Int).toNat]? = some items2[i] := by simp [hlt2]
    have hc : ((i : Int) + 1) = ((i + 1 : Nat) : Int) := by push_cast; rfl
    rw [hi1, hi2]
    refine wpAny_bind (wpAny_mono (he i hlt hlt2 _ hw) (fun v s' z => ?_) fun _ _ x => x)
    obtain ⟨rfl, hw'⟩ := z
    wp_walk
    rw [hc]
    exact ⟨plainId_quiet plain_eq_loop _, codeAny_builtin entry_eq_loop (by
      rw [Around.under_plainId plain_eq_loop _]
      exact ih (i + 1) (by omega) (by omega) A R _ ⟨hw', he, h⟩)⟩
theorem list_eqW {prog : Program} {w : World} (l b : Addr) (items items2 : Array Value) (hsz : items.size = items2.size) (W : Nat → Shared → Prop) (hW : ∀ i s, W i s → s.heap.IsList l items ∧ s.heap.IsList b items2) :
    MeetsIn prog w (Builtin.«list.__eq__» ⟨[.ref l, .ref b], []⟩)
      (fun A R s => W 0 s ∧ (∀ j (h1 : j < items.size) (h2 : j < items2.size) s, W j s → wpAny (model prog w) A.in1 (eqBool items[j] items2[j]) (fun v s' => v = true ∧ W (j + 1) s') (fun e s' => R (.error e) s') s) ∧
        ∀ s', W items.size s' → R (.ok (.ret (.bool true))) s') := by
  intro A R s h
  obtain ⟨hp, g, d, tk, os⟩ := s; obtain ⟨hw, he, h⟩ := h
  obtain ⟨h1, h2⟩ := hW _ _ hw
  obtain ⟨⟨cls, dd, data, sl⟩, ho, hc, n, hd⟩ := id h1
  obtain ⟨⟨cls2, dd2, data2, sl2⟩, ho2, hc2, n2, hd2⟩ := id h2
  simp only at hc hd hc2 hd2
  subst hc hd hc2 hd2
  have f3 := AutoSeq1.sub_list_list
  have hne : ¬ (items.size != items2.size) = true := by simp [hsz]
  wp_walk using PySem.AutoSeq1.wpAny_loadPart' ho, PySem.AutoSeq1.wpAny_loadPart' ho2
  exact ⟨plainId_quiet plain_eq_loop _, codeAny_builtin entry_eq_loop (by
    rw [Around.under_plainId plain_eq_loop _]
    exact eq_loopW l b items items2 hsz W hW _ 0 rfl (Nat.zero_le _) A R _ ⟨hw, he, h⟩)⟩
theorem compare_listsW {prog : Program} {w : World} {A : Around} {E : Value → Shared → Prop} {s : Shared} {Q : Value → Shared → Prop} {l b : Addr} {items items2 : Array Value} (hsz : items.size = items2.size) (W : Nat → Shared → Prop) (hW : ∀ i s, W i s → s.heap.IsList l items ∧ s.heap.IsList b items2)
    (h0 : W 0 s) (he : ∀ j (h1 : j < items.size) (h2 : j < items2.size) s, W j s → wpAny (model prog w) A.in1 (eqBool items[j] items2[j]) (fun v s' => v = true ∧ W (j + 1) s') E s) (hf : ∀ s', W items.size s' → Q (.bool true) s') (hu : A.units < cLine) :
    wpAny (model prog w) A (richCompare .Eq (.ref l) (.ref b)) Q E s := by
  obtain ⟨h1, h2⟩ := hW _ _ h0
  obtain ⟨o, ho, hc, _⟩ := id h1
  obtain ⟨o2, ho2, hc2, _⟩ := id h2
  refine wpAny_richCompare_same_room ⟨o, ho, hc⟩ ⟨o2, ho2, hc2⟩ F.slot_list_eq (call_meetsIn F.slot_list_eq ⟨o, ho, hc⟩ F.entry_list_eq (F.args_list_eq_2 _ _) (list_eqW l b items items2 hsz W hW) ?_) hu
  exact ⟨h0, he, fun s' hw => ⟨(fun x => nomatch x), hf s' hw⟩⟩
theorem ne_loopW {prog : Program} {w : World} (l b : Addr) (items items2 : Array Value) (hsz : items.size = items2.size) (W : Nat → Shared → Prop) (hW : ∀ i s, W i s → s.heap.IsList l items ∧ s.heap.IsList b items2) (k : Nat) :
    ∀ i : Nat, items.size - i = k → i ≤ items.size → MeetsIn prog w (Builtin.«list.__eq__.loop» ⟨[.ref l, .ref b, rawInt i, rawInt 3], []⟩)
      (fun A R s => W i s ∧ (∀ j (h1 : j < items.size) (h2 : j < items2.size) s, W j s → wpAny (model prog w) A.in1 (eqBool items[j] items2[j]) (fun v s' => v = true ∧ W (j + 1) s') (fun e s' => R (.error e) s') s) ∧
        ∀ s', W items.size s' → R (.ok (.ret (.bool false))) s') := by
  induction k with
  | zero =>
    intro i hk hile A R s h
    obtain ⟨hp, g, d, tk, os⟩ := s; obtain ⟨hw, he, h⟩ := h
    obtain ⟨h1, h2⟩ := hW _ _ hw
    obtain ⟨⟨cls, dd, data, sl⟩, ho, hc, n, hd⟩ := id h1
    obtain ⟨⟨cls2, dd2, data2, sl2⟩, ho2, hc2, n2, hd2⟩ := id h2
    simp only at hc hd hc2 hd2
    subst hc hd hc2 hd2
    wp_walk using PySem.AutoSeq1.wpAny_loadPart' ho, PySem.AutoSeq1.wpAny_loadPart' ho2
    have hi : i = items.size := by omega
    subst hi
    have hi1 : items[((items.size : Nat) : Int).toNat]? = none := by simp
    have hi2 : items2[((items.size : Nat) : Int).toNat]? = none := by simp [hsz]
    rw [hi1, hi2]
    wp_walk using PySem.AutoSeq1.wpAny_loadPart' ho, PySem.AutoSeq1.wpAny_loadPart' ho2
    show R (.ok (.ret (.bool (items.size != items2.size)))) _
    rw [show (items.size != items2.size) = false by simp [hsz]]
    exact h _ hw
  | succ k ih =>
    intro i hk hile A R s h
    obtain ⟨hp, g, d, tk, os⟩ := s; obtain ⟨hw, he, h⟩ := h
    obtain ⟨h1, h2⟩ := hW _ _ hw
    obtain ⟨⟨cls, dd, data, sl⟩, ho, hc, n, hd⟩ := id h1
    obtain ⟨⟨cls2, dd2, data2, sl2⟩, ho2, hc2, n2, hd2⟩ := id h2
    simp only at hc hd hc2 hd2
    subst hc hd hc2 hd2
    wp_walk using PySem.AutoSeq1.wpAny_loadPart' ho, PySem.AutoSeq1.wpAny_loadPart' ho2
    have hlt : i < items.size := by omega
    have hlt2 : i < items2.size := by omega
    have hi1 : items[((i : Nat) : Int).toNat]? = some items[i] := by simp [hlt]
    have hi2 : items2[((i : Nat) : Int).toNat]? = some items2[i] := by simp [hlt2]
    have hc : ((i : Int) + 1) = ((i + 1 : Nat) : Int) := by push_cast; rfl
    rw [hi1, hi2]
    refine wpAny_bind (wpAny_mono (he i hlt hlt2 _ hw) (fun v s' z => ?_) fun _ _ x => x)
    obtain ⟨rfl, hw'⟩ := z
    wp_walk
    rw [hc]
    exact ⟨plainId_quiet plain_eq_loop _, codeAny_builtin entry_eq_loop (by
      rw [Around.under_plainId plain_eq_loop _]
      exact ih (i + 1) (by omega) (by omega) A R _ ⟨hw', he, h⟩)⟩
theorem list_neW {prog : Program} {w : World} (l b : Addr) (items items2 : Array Value) (hsz : items.size = items2.size) (W : Nat → Shared → Prop) (hW : ∀ i s, W i s → s.heap.IsList l items ∧ s.heap.IsList b items2) :
    MeetsIn prog w (Builtin.«list.__ne__» ⟨[.ref l, .ref b], []⟩)
      (fun A R s => W 0 s ∧ (∀ j (h1 : j < items.size) (h2 : j < items2.size) s, W j s → wpAny (model prog w) A.in1 (eqBool items[j] items2[j]) (fun v s' => v = true ∧ W (j + 1) s') (fun e s' => R (.error e) s') s) ∧
        ∀ s', W items.size s' → R (.ok (.ret (.bool false))) s') := by
  intro A R s h
  obtain ⟨hp, g, d, tk, os⟩ := s; obtain ⟨hw, he, h⟩ := h
  obtain ⟨h1, h2⟩ := hW _ _ hw
  obtain ⟨⟨cls, dd, data, sl⟩, ho, hc, n, hd⟩ := id h1
  obtain ⟨⟨cls2, dd2, data2, sl2⟩, ho2, hc2, n2, hd2⟩ := id h2
  simp only at hc hd hc2 hd2
  subst hc hd hc2 hd2
  have f3 := AutoSeq1.sub_list_list
  have hne : ¬ (items.size != items2.size) = true := by simp [hsz]
  wp_walk using PySem.AutoSeq1.wpAny_loadPart' ho, PySem.AutoSeq1.wpAny_loadPart' ho2
  exact ⟨plainId_quiet plain_eq_loop _, codeAny_builtin entry_eq_loop (by
    rw [Around.under_plainId plain_eq_loop _]
    exact ne_loopW l b items items2 hsz W hW _ 0 rfl (Nat.zero_le _) A R _ ⟨hw, he, h⟩)⟩
theorem compare_neW {prog : Program} {w : World} {A : Around} {E : Value → Shared → Prop} {s : Shared} {Q : Value → Shared → Prop} {l b : Addr} {items items2 : Array Value} (hsz : items.size = items2.size) (W : Nat → Shared → Prop) (hW : ∀ i s, W i s → s.heap.IsList l items ∧ s.heap.IsList b items2)
    (h0 : W 0 s) (he : ∀ j (h1 : j < items.size) (h2 : j < items2.size) s, W j s → wpAny (model prog w) A.in1 (eqBool items[j] items2[j]) (fun v s' => v = true ∧ W (j + 1) s') E s) (hf : ∀ s', W items.size s' → Q (.bool false) s') (hu : A.units < cLine) :
    wpAny (model prog w) A (richCompare .NotEq (.ref l) (.ref b)) Q E s := by
  obtain ⟨h1, h2⟩ := hW _ _ h0
  obtain ⟨o, ho, hc, _⟩ := id h1
  obtain ⟨o2, ho2, hc2, _⟩ := id h2
  refine wpAny_richCompare_same_room ⟨o, ho, hc⟩ ⟨o2, ho2, hc2⟩ F.slot_list_ne (call_meetsIn F.slot_list_ne ⟨o, ho, hc⟩ F.entry_list_ne (F.args_list_ne_2 _ _) (list_neW l b items items2 hsz W hW) ?_) hu
  exact ⟨h0, he, fun s' hw => ⟨(fun x => nomatch x), hf s' hw⟩⟩
end EqW

/-! == of two lists that hold the same objects: no own __eq__ is asked -/
def rEqS (K : PySem.W.Frag) : R2 := fun x y H Q => ∃ a b xs, x = .ref a ∧ y = .ref b ∧ SqL K H a xs ∧ SqL K H b xs ∧ (∀ v ∈ xs, ∃ p, v = V.ref p) ∧ Q (.bl true) H
theorem vals_refs : ∀ {xs : List V} {us ws : List Value}, (∀ v ∈ xs, ∃ p, v = V.ref p) → Vals xs us → Vals xs ws → us = ws
  | [], _, _, _, h1, h2 => by cases h1; cases h2; rfl
  | x :: xs, _, _, h, h1, h2 => by
    cases h1 with
    | cons r1 t1 =>
      cases h2 with
      | cons r2 t2 =>
        obtain ⟨p, rfl⟩ := h x (List.mem_cons_self ..)
        cases r1
        cases r2
        rw [vals_refs (fun v hv => h v (List.mem_cons_of_mem _ hv)) t1 t2]
theorem op_eqS {X : Cx} (hu : X.A.units + 1 < cLine) : OpR X (compareOp .Eq) (rEqS X.K) := by
  intro pins s σ H x y v u Q I rx ry h
  obtain ⟨a, b, xs, rfl, rfl, h1, h2, hr, q⟩ := h
  cases rx
  cases ry
  obtain ⟨its, r1, p1, _⟩ := I.list h1
  obtain ⟨its2, r2, p2, _⟩ := I.list h2
  obtain rfl := vals_refs hr r1 r2
  show wpAny (model X.prog X.w) X.A (richCompare .Eq (.ref a) (.ref b)) (EP X pins σ Q) X.xe s
  refine SeqAt.RcAt.lists (e := fun _ => true) p1.isList p2.isList rfl (by omega) (fun j _ _ => SeqAt.EqAt.same _) X.prog X.w X.xe _ ?_
  rw [show (List.range its.toArray.size).all (fun _ => true) = true by simp]
  exact ⟨.bl true, H, I, rfl, q⟩

/-! the same in the hand layer: two lists of instances of the class at C, their own __eq__ answers True and leaves what is tracked -/
def rEqOwn (K : PySem.W.Frag) (C : Addr) (sp : Sp) : R2 := fun x y H Q => ∃ a b xs ys, x = .ref a ∧ y = .ref b ∧ SqL K H a xs ∧ SqL K H b ys ∧ xs.length = ys.length ∧
  (∀ (i : Nat) p q, xs[i]? = some p → ys[i]? = some q → ∃ c d dx dy fs gs, p = V.ref c ∧ q = V.ref d ∧ H c = some (.ins C dx fs) ∧ H d = some (.ins C dy gs) ∧ sp [.ref c, .ref d] H (fun v H' => v = .bl true ∧ H' = H) C8.E0) ∧ Q (.bl true) H
def rNeOwn (K : PySem.W.Frag) (C : Addr) (sp : Sp) : R2 := fun x y H Q => rEqOwn K C sp x y H fun _ H' => Q (.bl false) H'
section
variable {X : Cx} {k j : Nat} {C : Addr} {sp : Sp}
theorem eqBool_own {A : Around} {pins : List (Addr × Obj)} {s : Shared} {σ : St} {H : Hp} {a b : Addr} {dx dy : Addr} {fs gs : List (Str × V)} (c : Own X.prog X.w X.K X.mg X.base k C "__eq__" sp) (sb : Sub X k A) (I : Inv X pins σ H s) (ha : H a = some (.ins C dx fs)) (hb : H b = some (.ins C dy gs))
    (hsp : sp [.ref a, .ref b] H (fun v H' => v = .bl true ∧ H' = H) C8.E0) : wpAny (model X.prog X.w) A (eqBool (.ref a) (.ref b)) (fun v s' => v = true ∧ Inv X pins σ H s') X.xe s := by
  obtain ⟨f, fd, ps, hs, hf, F, bi⟩ := c.ex
  obtain ⟨mA, J, _⟩ := ins_get I.hok ha
  obtain ⟨mB, J', _⟩ := ins_get I.hok hb
  obtain ⟨od, J, _⟩ := J.look
  obtain ⟨od', J', _⟩ := J'.look
  obtain ⟨m, hF⟩ := I.fr
  unfold eqBool
  refine wpAny_holding ?_
  refine wpAny_ite_split (fun _ => ?_) (fun _ => ?_)
  · exact wpAny_bind (wpAny_rule (wpAny_pure ⟨rfl, I⟩))
  · refine wpAny_bind ?_
    refine PySem.W.cmp_K (op := .Eq) (tb := .ref C) sb.room.units0 hF I.ok.mod.kin J J'.type (by simp [PySem.W.notFirst]) hs hf ?_
    refine wpAny_mono (own_call sb I F bi hsp) (fun v s' z => ?_) fun _ _ x => x
    obtain ⟨z, H', I', rz, rfl, rfl⟩ := z
    cases rz
    exact wpAny_truthy_bool ⟨rfl, I'⟩
theorem op_eqOwn (c : Own X.prog X.w X.K X.mg X.base k C "__eq__" sp) (hr : Room j X.A) (hk : k + 1 ≤ j) : OpR X (compareOp .Eq) (rEqOwn X.K C sp) := by
  intro pins s σ H x y v u Q I rx ry hq
  obtain ⟨a, b, xs, ys, rfl, rfl, h1, h2, hlen, hel, q⟩ := hq
  cases rx
  cases ry
  obtain ⟨its, r1, p1, _⟩ := I.list h1
  obtain ⟨its2, r2, p2, _⟩ := I.list h2
  have sb : Sub X (k + 1) X.A := ⟨hr.mono hk, rfl⟩
  have refs1 : ∀ v ∈ xs, ∃ p, v = V.ref p := fun v hv => by
    obtain ⟨i, hi⟩ := List.getElem?_of_mem hv
    have hil := (List.getElem?_eq_some_iff.mp hi).1
    obtain ⟨c, _, _, _, _, _, e, _⟩ := hel i v ys[i] hi (List.getElem?_eq_getElem (by omega))
    exact ⟨c, e⟩
  have refs2 : ∀ v ∈ ys, ∃ p, v = V.ref p := fun v hv => by
    obtain ⟨i, hi⟩ := List.getElem?_of_mem hv
    have hil := (List.getElem?_eq_some_iff.mp hi).1
    obtain ⟨_, d, _, _, _, _, _, e, _⟩ := hel i xs[i] v (List.getElem?_eq_getElem (by omega)) hi
    exact ⟨d, e⟩
  have l1 := r1.length
  have l2 := r2.length
  show wpAny (model X.prog X.w) X.A (richCompare .Eq (.ref a) (.ref b)) (EP X pins σ Q) X.xe s
  refine EqW.compare_listsW (items := its.toArray) (items2 := its2.toArray) (by simp; omega) (fun _ s' => Inv X pins σ H s') (fun i s' I' => ?_) I ?_ (fun s' I' => ⟨.bl true, H, I', rfl, q⟩) sb.room.units0
  · obtain ⟨t1, q1, w1, _⟩ := I'.list h1
    obtain ⟨t2, q2, w2, _⟩ := I'.list h2
    rw [vals_refs refs1 r1 q1, vals_refs refs2 r2 q2]
    exact ⟨w1.isList, w2.isList⟩
  · intro jj j1 j2 s' I'
    have j1' : jj < xs.length := by simp at j1; omega
    obtain ⟨u1, e1, ru1⟩ := r1.get (List.getElem?_eq_getElem j1')
    obtain ⟨u2, e2, ru2⟩ := r2.get (List.getElem?_eq_getElem (show jj < ys.length by omega))
    obtain ⟨c0, d0, dx, dy, fs, gs, ep, eq', hc, hd, hsp⟩ := hel jj _ _ (List.getElem?_eq_getElem j1') (List.getElem?_eq_getElem (show jj < ys.length by omega))
    rw [ep] at ru1
    rw [eq'] at ru2
    cases ru1
    cases ru2
    have g1 : its.toArray[jj] = Value.ref c0 := by
      have : its[jj]? = some (Value.ref c0) := e1
      simpa using (List.getElem?_eq_some_iff.mp this).2
    have g2 : its2.toArray[jj] = Value.ref d0 := by
      have : its2[jj]? = some (Value.ref d0) := e2
      simpa using (List.getElem?_eq_some_iff.mp this).2
    rw [g1, g2]
    exact eqBool_own c sb.in1 I' hc hd hsp
theorem op_neOwn (c : Own X.prog X.w X.K X.mg X.base k C "__eq__" sp) (hr : Room j X.A) (hk : k + 1 ≤ j) : OpR X (compareOp .NotEq) (rNeOwn X.K C sp) := by
  intro pins s σ H x y v u Q I rx ry hq
  obtain ⟨a, b, xs, ys, rfl, rfl, h1, h2, hlen, hel, q⟩ := hq
  cases rx
  cases ry
  obtain ⟨its, r1, p1, _⟩ := I.list h1
  obtain ⟨its2, r2, p2, _⟩ := I.list h2
  have sb : Sub X (k + 1) X.A := ⟨hr.mono hk, rfl⟩
  have refs1 : ∀ v ∈ xs, ∃ p, v = V.ref p := fun v hv => by
    obtain ⟨i, hi⟩ := List.getElem?_of_mem hv
    have hil := (List.getElem?_eq_some_iff.mp hi).1
    obtain ⟨c, _, _, _, _, _, e, _⟩ := hel i v ys[i] hi (List.getElem?_eq_getElem (by omega))
    exact ⟨c, e⟩
  have refs2 : ∀ v ∈ ys, ∃ p, v = V.ref p := fun v hv => by
    obtain ⟨i, hi⟩ := List.getElem?_of_mem hv
    have hil := (List.getElem?_eq_some_iff.mp hi).1
    obtain ⟨_, d, _, _, _, _, _, e, _⟩ := hel i xs[i] v (List.getElem?_eq_getElem (by omega)) hi
    exact ⟨d, e⟩
  have l1 := r1.length
  have l2 := r2.length
  show wpAny (model X.prog X.w) X.A (richCompare .NotEq (.ref a) (.ref b)) (EP X pins σ Q) X.xe s
  refine EqW.compare_neW (items := its.toArray) (items2 := its2.toArray) (by simp; omega) (fun _ s' => Inv X pins σ H s') (fun i s' I' => ?_) I ?_ (fun s' I' => ⟨.bl false, H, I', rfl, q⟩) sb.room.units0
  · obtain ⟨t1, q1, w1, _⟩ := I'.list h1
    obtain ⟨t2, q2, w2, _⟩ := I'.list h2
    rw [vals_refs refs1 r1 q1, vals_refs refs2 r2 q2]
    exact ⟨w1.isList, w2.isList⟩
  · intro jj j1 j2 s' I'
    have j1' : jj < xs.length := by simp at j1; omega
    obtain ⟨u1, e1, ru1⟩ := r1.get (List.getElem?_eq_getElem j1')
    obtain ⟨u2, e2, ru2⟩ := r2.get (List.getElem?_eq_getElem (show jj < ys.length by omega))
    obtain ⟨c0, d0, dx, dy, fs, gs, ep, eq', hc, hd, hsp⟩ := hel jj _ _ (List.getElem?_eq_getElem j1') (List.getElem?_eq_getElem (show jj < ys.length by omega))
    rw [ep] at ru1
    rw [eq'] at ru2
    cases ru1
    cases ru2
    have g1 : its.toArray[jj] = Value.ref c0 := by
      have : its[jj]? = some (Value.ref c0) := e1
      simpa using (List.getElem?_eq_some_iff.mp this).2
    have g2 : its2.toArray[jj] = Value.ref d0 := by
      have : its2[jj]? = some (Value.ref d0) := e2
      simpa using (List.getElem?_eq_some_iff.mp this).2
    rw [g1, g2]
    exact eqBool_own c sb.in1 I' hc hd hsp
end

/-! == and != of two pairs whose items answer True each time: the state may change within -/
namespace EqW
open PySem PySem.W PySem.Calls PyProof.V PySem.Spec L2 PySem.SeqAt
open MeetsSeq MeetsSeq2 MeetsSeq3 SeqRoads2
theorem un_holding {α : Type} {M : Model} {A : Around} {E : Value → Shared → Prop} {s : Shared} {vs : List Value} {m : Sem α} {Q : α → Shared → Prop} (h : wpAny M A (holding vs m) Q E s) : wpAny M A m Q E s := fun Γ p hΓ => by have := h Γ p hΓ; rw [Sem.wp_holding] at this; exact this
theorem pair_neW {prog : Program} {w : World} (l b : Addr) (x y x' y' : Value) (W : Nat → Shared → Prop) (hW : ∀ i s, W i s → s.heap.IsTuple l #[x, y] ∧ s.heap.IsTuple b #[x', y']) :
    MeetsIn prog w (Builtin.«tuple.__ne__» ⟨[.ref l, .ref b], []⟩)
      (fun A R s => W 0 s ∧ (∀ s, W 0 s → wpAny (model prog w) A.in1 (eqBool x x') (fun v s' => v = true ∧ W 1 s') (fun e s' => R (.error e) s') s) ∧
        (∀ s, W 1 s → wpAny (model prog w) A.in1 (eqBool y y') (fun v s' => v = true ∧ W 2 s') (fun e s' => R (.error e) s') s) ∧ ∀ s', W 2 s' → R (.ok (.ret (.bool false))) s') := by
  intro A R s h
  obtain ⟨hp, g, d, tk, os⟩ := s; obtain ⟨hw, e0, e1, h⟩ := h
  obtain ⟨h1, h2⟩ := hW _ _ hw
  obtain ⟨⟨cls, dd, data, sl⟩, ho, hc, n, hd⟩ := id h1
  obtain ⟨⟨cls2, dd2, data2, sl2⟩, ho2, hc2, n2, hd2⟩ := id h2
  simp only at hc hd hc2 hd2
  subst hc hd hc2 hd2
  have f2 := AutoSeq1.sub_tuple_tuple
  wp_walk using PySem.AutoSeq1.wpAny_loadPart' ho, PySem.AutoSeq1.wpAny_loadPart' ho2
  refine un_holding (vs := [x, x']) (m := _) (wpAny_mono (t := eqBool x x') (e0 _ hw) (fun v s' z => ?_) fun _ _ x => x)
  obtain ⟨rfl, hw1⟩ := z
  wp_walk
  refine un_holding (vs := [y, y']) (m := _) (wpAny_mono (t := eqBool y y') (e1 _ hw1) (fun v s' z => ?_) fun _ _ x => x)
  obtain ⟨rfl, hw2⟩ := z
  wp_walk
  show R (.ok (.ret (.bool false))) _
  exact h _ hw2
theorem compare_pairW {prog : Program} {w : World} {A : Around} {E : Value → Shared → Prop} {s : Shared} {Q : Value → Shared → Prop} {l b : Addr} {x y x' y' : Value} (W : Nat → Shared → Prop) (hW : ∀ i s, W i s → s.heap.IsTuple l #[x, y] ∧ s.heap.IsTuple b #[x', y'])
    (h0 : W 0 s) (e0 : ∀ s, W 0 s → wpAny (model prog w) A.in1 (eqBool x x') (fun v s' => v = true ∧ W 1 s') E s) (e1 : ∀ s, W 1 s → wpAny (model prog w) A.in1 (eqBool y y') (fun v s' => v = true ∧ W 2 s') E s) (hf : ∀ s', W 2 s' → Q (.bool false) s') (hu : A.units < cLine) : wpAny (model prog w) A (richCompare .NotEq (.ref l) (.ref b)) Q E s := by
  obtain ⟨h1, h2⟩ := hW _ _ h0
  obtain ⟨o, ho, hc, _⟩ := id h1
  obtain ⟨o2, ho2, hc2, _⟩ := id h2
  refine wpAny_richCompare_same_room ⟨o, ho, hc⟩ ⟨o2, ho2, hc2⟩ F.slot_tuple_ne (call_meetsIn F.slot_tuple_ne ⟨o, ho, hc⟩ F.entry_tuple_ne (F.args_tuple_ne_2 _ _) (pair_neW l b x y x' y' W hW) ?_) hu
  exact ⟨h0, e0, e1, fun s' hw => ⟨(fun x => nomatch x), hf s' hw⟩⟩
end EqW
/-- (view, lots) != (view, lots), the views data, the lots lists of instances whose own __eq__ answers True -/
def rNePT (K : PySem.W.Frag) (C : Addr) (sp : Sp) : R2 := fun x y H Q => ∃ a b p p' l l' d xs ys, x = .ref a ∧ y = .ref b ∧ SqT K H a [.ref p, .ref l] ∧ SqT K H b [.ref p', .ref l'] ∧ Dp K H (.ref p) d ∧ Dp K H (.ref p') d ∧ SeqAt.shaped d = true ∧ rEqOwn K C sp (.ref l) (.ref l') H (fun _ H' => H' = H) ∧ SqL K H l xs ∧ SqL K H l' ys ∧ Q (.bl false) H
section
variable {X : Cx} {k j : Nat} {C : Addr} {sp : Sp}
theorem op_nePT (c : Own X.prog X.w X.K X.mg X.base k C "__eq__" sp) (hr : Room j X.A) (hk : k + 2 ≤ j) : OpR X (compareOp .NotEq) (rNePT X.K C sp) := by
  intro pins s σ H x y v u Q I rx ry hq
  obtain ⟨a, b, p, p', l, l', d, xs0, ys0, rfl, rfl, hta, htb, d1, d2, sd, hown, hl0, hl0', q⟩ := hq
  obtain ⟨_, _, xs, ys, e1, e2, h1, h2, hlen, hel, _⟩ := hown
  cases e1
  cases e2
  cases rx
  cases ry
  obtain ⟨ita, ra, pa, _⟩ := I.tuple hta
  obtain ⟨itb, rb, pb, _⟩ := I.tuple htb
  have sb : Sub X (k + 2) X.A := ⟨hr.mono hk, rfl⟩
  have ea : ita = [Value.ref p, Value.ref l] := vals_refs (xs := [.ref p, .ref l]) (fun v hv => by
    rcases List.mem_cons.mp hv with rfl | hv
    · exact ⟨_, rfl⟩
    · exact ⟨l, List.mem_singleton.mp hv⟩) ra (.cons rfl (.cons rfl .nil))
  have eb : itb = [Value.ref p', Value.ref l'] := vals_refs (xs := [.ref p', .ref l']) (fun v hv => by
    rcases List.mem_cons.mp hv with rfl | hv
    · exact ⟨_, rfl⟩
    · exact ⟨l', List.mem_singleton.mp hv⟩) rb (.cons rfl (.cons rfl .nil))
  show wpAny (model X.prog X.w) X.A (richCompare .NotEq (.ref a) (.ref b)) (EP X pins σ Q) X.xe s
  refine EqW.compare_pairW (x := .ref p) (y := .ref l) (x' := .ref p') (y' := .ref l') (fun _ s' => Inv X pins σ H s') (fun i s' I' => ?_) I (fun s' I' => ?_) (fun s' I' => ?_) (fun s' I' => ⟨.bl false, H, I', rfl, q⟩) sb.room.units0
  · obtain ⟨t1, q1, w1, _⟩ := I'.tuple hta
    obtain ⟨t2, q2, w2, _⟩ := I'.tuple htb
    rw [vals_refs (xs := [.ref p, .ref l]) (fun v hv => by
      rcases List.mem_cons.mp hv with rfl | hv
      · exact ⟨_, rfl⟩
      · exact ⟨l, List.mem_singleton.mp hv⟩) q1 (.cons rfl (.cons rfl .nil))] at w1
    rw [vals_refs (xs := [.ref p', .ref l']) (fun v hv => by
      rcases List.mem_cons.mp hv with rfl | hv
      · exact ⟨_, rfl⟩
      · exact ⟨l', List.mem_singleton.mp hv⟩) q2 (.cons rfl (.cons rfl .nil))] at w2
    exact ⟨w1, w2⟩
  · obtain ⟨as, r1⟩ := Dp.reads I' d _ _ d1 rfl
    obtain ⟨bs, r2⟩ := Dp.reads I' d _ _ d2 rfl
    unfold eqBool
    refine wpAny_holding (wpAny_ite_split (fun _ => wpAny_bind (wpAny_rule (wpAny_pure ⟨rfl, I'⟩))) (fun _ => wpAny_bind ?_))
    refine SeqAt.compareEq_shaped r1 r2 sd sd sb.in1.room.units ?_
    rw [SeqAt.eqv_refl _ (SeqAt.canLay_of_shaped sd)]
    exact wpAny_truthy_bool ⟨rfl, I'⟩
  · obtain ⟨its, v1, p1, _⟩ := I'.list h1
    obtain ⟨its2, v2, p2, _⟩ := I'.list h2
    have refs1 : ∀ v ∈ xs, ∃ p, v = V.ref p := fun v hv => by
      obtain ⟨i, hi⟩ := List.getElem?_of_mem hv
      have hil := (List.getElem?_eq_some_iff.mp hi).1
      obtain ⟨c, _, _, _, _, _, e, _⟩ := hel i v ys[i] hi (List.getElem?_eq_getElem (by omega))
      exact ⟨c, e⟩
    have refs2 : ∀ v ∈ ys, ∃ p, v = V.ref p := fun v hv => by
      obtain ⟨i, hi⟩ := List.getElem?_of_mem hv
      have hil := (List.getElem?_eq_some_iff.mp hi).1
      obtain ⟨_, d, _, _, _, _, _, e, _⟩ := hel i xs[i] v (List.getElem?_eq_getElem (by omega)) hi
      exact ⟨d, e⟩
    have l1 := v1.length
    have l2 := v2.length
    unfold eqBool
    refine wpAny_holding (wpAny_ite_split (fun _ => wpAny_bind (wpAny_rule (wpAny_pure ⟨rfl, I'⟩))) (fun _ => wpAny_bind ?_))
    refine EqW.compare_listsW (items := its.toArray) (items2 := its2.toArray) (by simp; omega) (fun _ s' => Inv X pins σ H s') (fun i s' I' => ?_) I' ?_ (fun s' I' => wpAny_truthy_bool ⟨rfl, I'⟩) sb.in1.room.units0
    · obtain ⟨t1, q1, w1, _⟩ := I'.list h1
      obtain ⟨t2, q2, w2, _⟩ := I'.list h2
      rw [vals_refs refs1 v1 q1, vals_refs refs2 v2 q2]
      exact ⟨w1.isList, w2.isList⟩
    · intro jj j1 j2 s' I'
      have j1' : jj < xs.length := by simp at j1; omega
      obtain ⟨u1, e1, ru1⟩ := v1.get (List.getElem?_eq_getElem j1')
      obtain ⟨u2, e2, ru2⟩ := v2.get (List.getElem?_eq_getElem (show jj < ys.length by omega))
      obtain ⟨c0, d0, dx, dy, fs, gs, ep, eq', hc, hd, hsp⟩ := hel jj _ _ (List.getElem?_eq_getElem j1') (List.getElem?_eq_getElem (show jj < ys.length by omega))
      rw [ep] at ru1
      rw [eq'] at ru2
      cases ru1
      cases ru2
      have g1 : its.toArray[jj] = Value.ref c0 := by
        have : its[jj]? = some (Value.ref c0) := e1
        simpa using (List.getElem?_eq_some_iff.mp this).2
      have g2 : its2.toArray[jj] = Value.ref d0 := by
        have : its2[jj]? = some (Value.ref d0) := e2
        simpa using (List.getElem?_eq_some_iff.mp this).2
      rw [g1, g2]
      exact eqBool_own c sb.in1.in1 I' hc hd hsp
end

open NDi
/-! the text by places -/
def top (i : Nat) : Stmt := PySem.Challenge.pw_bothgain_k40_plans_are_checked.main.body.getD i (.Pass ⟨0, 0, 0, 0⟩)
abbrev s_BadPlan___init : Stmt := L2.inClass (top 6) 0
abbrev s_Ratio___init : Stmt := L2.inClass (top 13) 0
theorem sc_Ratio___init : FnScope ["self", "num", "den", "part"] ["self", "num", "den"] (fnScope s_Ratio___init) := fnScope_by (by decide +kernel)
abbrev s_Ratio___eq : Stmt := L2.inClass (top 13) 1
theorem sc_Ratio___eq : FnScope ["self", "other"] ["self", "other"] (fnScope s_Ratio___eq) := fnScope_by (by decide +kernel)
abbrev s_common : Stmt := top 10
theorem sc_common : FnScope ["ratios", "den", "ratio"] ["ratios"] (fnScope s_common) := fnScope_by (by decide +kernel)
abbrev s_are_lots : Stmt := top 11
theorem sc_are_lots : FnScope ["ratios", "weights", "den", "weight"] ["ratios"] (fnScope s_are_lots) := fnScope_by (by decide +kernel)
abbrev s_Plan___init : Stmt := L2.inClass (top 15) 0
theorem sc_Plan___init : FnScope ["self", "entries", "place", "entry", "view", "lots"] ["self", "entries"] (fnScope s_Plan___init) := fnScope_by (by decide +kernel)
abbrev s_Plan_entries : Stmt := L2.inClass (top 15) 2
theorem sc_Plan_entries : FnScope ["self", "view", "lots"] ["self"] (fnScope s_Plan_entries) := fnScope_by (by decide +kernel)
abbrev s_law_is_integer : Stmt := top 18
theorem sc_law_is_integer : FnScope ["actual"] ["actual"] (fnScope s_law_is_integer) := fnScope_by (by decide +kernel)
abbrev s_law_weights : Stmt := top 19
theorem sc_law_weights : FnScope ["cell", "way", "weights", "left", "k", "whole", "at", "great", "weight"] ["cell", "way"] (fnScope s_law_weights) := fnScope_by (by decide +kernel)
abbrev s_law_bad : Stmt := top 20
theorem sc_law_bad : FnScope ["views", "rows", "k", "weights"] ["views", "rows"] (fnScope s_law_bad) := fnScope_by (by decide +kernel)
abbrev s_law_told : Stmt := top 21
theorem sc_law_told : FnScope ["plan", "views", "rows", "told", "k", "weight"] ["plan", "views", "rows"] (fnScope s_law_told) := fnScope_by (by decide +kernel)
abbrev s_law : Stmt := top 22
theorem sc_law : FnScope ["script", "views", "rows", "k", "given", "bad", "plan", "e", "told", "kept", "shown", "weight"] ["script"] (fnScope s_law) := fnScope_by (by decide +kernel)
end My
/-! an own exception class over ValueError (by way of GameError) whose __init__ says super().__init__('..') and keeps its one argument -/
namespace SupX_BadPlan
open My PySem L2 C8 PySem.W PySem.Calls PyProof.Rows PySem.HandSPX
/-- what the written part says of the class at C, and of its __init__ at fI -/
structure Txt (P : Program) (K : Frag) (mg : Str → Option Value) (nm : Str) (C fI : Addr) : Prop where
  gC : mg nm = some (.ref C)
  cls : ∃ nm q N bs bm sn sub ab col dd k0 k1 k2 k3 k5, K.lookup C = some (excClassObj nm q C N bs bm true sn sub ab col dd k0 k1 k2 k3 k5 "ValueError.__new__") ∧ refsVE bm = true
  along : ks_superIn K C C "__init__" = some (some (.builtin "ValueError.__init__"))
  veC : subIn K (.ref C) (.type "ValueError") = some true
  sa : findIn K (.ref C) "__setattr__" = some (some (.builtin "object.__setattr__"))
  ga : findIn K (.ref C) "__getattribute__" = some (some (.builtin "BaseException.__getattribute__"))
  gg : findIn K (.ref C) "__getattr__" = some none
  noN : findIn K (.ref C) "place" = some none
  iC : findIn K (.ref C) "__init__" = some (some (.ref fI))
  tC : typeIn K (.ref fI) = some (.type "function")
  kC : keepIn K (.ref C) = true
  exC : subIn K (.ref C) (.type "BaseException") = some true
  tyC : typeIn K (.ref C) = some (.type "type")
  hdC : hasDictIn K C = true
  opq : nsIn K cStatics "thirdparty.any" = some none
  noS : mg "super" = none
  mroC : mroIn K C (.ref C) = some true
  top : (P.main.scope.names.lookup ("super" : Str)).isSome = false
  fn : ∃ (oc : Value) (od : Option Addr) (doc pm : Value) (an : Option Addr) (cda : Addr) (ct : Value) (osl : Array (Option Value)) (cc : Addr) (cl : Value) (cld : Option Addr) (csl : Array (Option Value)) (ccl : Value) (cdd : Option Addr) (vs : Array Value) (ccs : Array (Option Value)) (file : Str) (tf : Tok),
    K.lookup fI = some ⟨oc, od, .func (fnX "__init__" "BadPlan.__init__" (fnArgs s_BadPlan___init) (fnBody s_BadPlan___init) (fnScope s_BadPlan___init) [("__class__", cc)] .none .none doc pm an (.ref cda) ct), osl⟩ ∧ codeIn K (.ref cda) "BadPlan.__init__" = true ∧
    K.lookup cc = some ⟨cl, cld, .cell (some (.ref C)), csl⟩ ∧ K.lookup cda = some ⟨ccl, cdd, .fields vs, ccs⟩ ∧ vs[2]? = some (.str file tf) ∧ ((P.main.file : Str) == file) = true
/-- what __init__ leaves of a fresh exception at x -/
structure Left (h h' : Heap) (x C dx t1 : Addr) (v : Value) : Prop where
  keep : ∀ b o, b ≠ x → h.get? b = some o → h'.get? b = some o
  obj : h'.get? x = some { cls := .ref C, dict := some dx, data := .fields #[.ref t1, .none, .none, .none, .bool false, .none] }
  dbig : h.objs.size ≤ dx
  dne : dx ≠ x
  ns : h'.Ns1 dx (fun y => if y = "place" then some v else none)
section
variable {prog : Program} {w : World} {A : Around} {E : Value → Shared → Prop} {R : Result → Shared → Prop} {s : Shared} {K : Frag} {mg mb : Str → Option Value} {C fI : Addr} {nm : Str}
/-- such an __init__, run on a fresh exception -/
theorem init (T : Txt prog K mg nm C fI) {x t0 : Addr} {v : Value} (X : K.In s.heap) (hlim : s.heap.NoLimit) (hmg : s.heap.Ns mainGlobals mg) (hmb : s.heap.Ns builtinsNs mb) (hsu : mb "super" = some (.type "super"))
    (hx : s.heap.get? x = some (excO C t0)) (hnx : K.lookup x = none) (hroom : A.depth < recursionLimit)
    (hq : ∀ h' tk dx t1, Left s.heap h' x C dx t1 v → R (.ok (.ret .none)) { s with heap := h', toks := tk }) :
    codeAny (model prog w) A (.call (.ref fI) ⟨[.ref x, v], []⟩) R s := by
  obtain ⟨oc, od, doc, pm, an, cda, ct, osl, cc, cl, cld, csl, ccl, cdd, vs, ccs, file, tf, ho, hcd, hcc, hcda, hvs, hfile⟩ := T.fn
  obtain ⟨nmC, q, N, bs, bm, sn, sub, ab, col, dd, k0, k1, k2, k3, k5, hC, hbm⟩ := T.cls
  have hcl : clsIn K C = some { name := nmC, bases := bs, mro := .ref C :: bm, ns := N, qualname := q, hasDict := true, slotNames := sn, subclasses := sub, abstract := ab, collection := col, hasDel := false } := by unfold clsIn; rw [hC] <;> rfl
  have hal := T.along
  unfold ks_superIn at hal
  rw [hcl] at hal
  have hxC : x ≠ C := fun z => by rw [z, hC] at hnx; cases hnx
  refine ks_codeAny_call_defAt (fd := fnX "__init__" "BadPlan.__init__" (fnArgs s_BadPlan___init) (fnBody s_BadPlan___init) (fnScope s_BadPlan___init) [("__class__", cc)] .none .none doc pm an (.ref cda) ct) (binds := [("self", .ref x), ("place", v)]) hroom (X _ _ ho) rfl hlim
    (codeRec_of X hcd) rfl ?hb ?hcell ?hloc (fun h₁ hns k => ?_) rfl rfl rfl
  case hb => exact BindsTo.of_eq (by first | rfl | with_unfolding_all rfl)
  case hcell =>
    show ∀ x ∈ (fnScope s_BadPlan___init).names, x.2 ≠ .cell
    decide +kernel
  case hloc =>
    intro y hy
    rcases List.mem_cons.mp hy with rfl | hy
    · first | rfl | kernel_rfl
    · rw [List.mem_singleton.mp hy]
      first | rfl | kernel_rfl
  have X1 : K.In h₁ := X.keeps k
  have hx1 := k _ _ hx
  have hxL : s.heap.objs.size ≠ x := Nat.ne_of_gt (Heap.lt_size hx)
  show PySem.wpAt _ (A.deeper (ksEnv "BadPlan.__init__" (fnScope s_BadPlan___init) s.heap.objs.size fI (.ref cda) cc)) (.func (fnBody s_BadPlan___init) (ksEnv "BadPlan.__init__" (fnScope s_BadPlan___init) s.heap.objs.size fI (.ref cda) cc)) (execs (fnBody s_BadPlan___init) (ksEnv "BadPlan.__init__" (fnScope s_BadPlan___init) s.heap.objs.size fI (.ref cda) cc)) _ _ _
  refine ks_wpAt_execs_cons (ks_wpAt_Expr_any (ks_wpAt_MethodCall ?_))
  obtain ⟨arS, har, hars⟩ : ∃ ar, ((fnArgs s_BadPlan___init).posonlyargs ++ (fnArgs s_BadPlan___init).args).head? = some ar ∧ ar.arg = "self" := ⟨_, rfl, rfl⟩
  refine ks_wpAt_super_base (f := fI) (cc := cda) (file := file) (tf := tf) (vs := vs) (ar := arS) rfl rfl (by decide) rfl (X1 _ _ ho) rfl har rfl (X1 _ _ hcda) rfl hvs hfile T.top ?_
  refine ks_loadName_global rfl rfl (loadGlobal_builtin (hmg.keeps k) T.noS (hmb.keeps k) hsu ⟨rfl, ?_⟩)
  refine wpAny_loadName_free rfl rfl (c := cc) rfl ⟨_, X1 _ _ hcc, rfl⟩ ?_
  rw [hars]
  refine wpAny_loadName_local rfl rfl hns (v := .ref x) ?_ ?_
  · first | rfl | with_unfolding_all rfl | kernel_rfl
  refine ks_wpAny_isType_cls (X1 _ _ hC) rfl ⟨rfl, ?_⟩
  refine ks_wpAny_call_super (X1 _ _ hC) rfl hx1 rfl (fun c e => by cases e) (looks_mroIn X1 T.mroC) (fun h2 e2 g2 => ?_)
  have X2 : K.In h2 := X1.keeps g2
  have hx2 := g2 _ _ hx1
  have hI : InstAt h2 x (excO C t0) C none := ⟨hx2, rfl, rfl, trivial⟩
  refine kxs_getMethod kxs_ValueError e2 (looks_opaque X2 T.opq) (l₀ := .ref C :: bm) ((looks_clsIn X2 hcl).andThen .now) rfl X2 hal (hI.type.andThen (looks_subIn X2 T.veC)) hxC (by decide) ?_
  have up3 : ∀ b o, h2.get? b = some o → (h2.push (kxs_mw "ValueError.__init__" x)).get? b = some o := fun b o e => Heap.get?_push_of_some _ e
  have hw3 : (h2.push (kxs_mw "ValueError.__init__" x)).get? h2.objs.size = some (kxs_mw "ValueError.__init__" x) := Heap.get?_push_at rfl rfl
  generalize h2.push (kxs_mw "ValueError.__init__" x) = h3 at *
  refine kxs_callWith1 (u := h2.objs.size) (i := "ValueError.__init__") (x := x) (h₀ := h2) (L := x) (news := [(h2.objs.size, kxs_mw "ValueError.__init__" x)]) (fun p hp => ?_) (by simp) ?_
  · rw [List.mem_singleton] at hp
    subst hp
    exact ⟨hw3, fun z => absurd (Heap.lt_size hx2) (by rw [← show h2.objs.size = x from z]; exact Nat.lt_irrefl _), by
      cases e : h2.get? h2.objs.size with
      | none => rfl
      | some o => exact absurd (Heap.lt_size e) (Nat.lt_irrefl _)⟩
  refine PyProof.Rows.spliced_more (wpAny_Constant_str (PyProof.Rows.spliced_none ⟨hw3, ?_⟩))
  refine wpAny_call (codeAny_of_tree ?_)
  show wpAny _ _ (callAny (.ref h2.objs.size) ⟨[_], []⟩) _ _ _
  have hmwT : (Value.type "method-wrapper" == Value.type "method" || Value.type "method-wrapper" == Value.type "builtin_function_or_method" || Value.type "method-wrapper" == Value.type "method-wrapper") = true := by decide
  simp only [callAny]
  refine wpAny_bind (wpAny_load hw3 ?_)
  simp only [kxs_mw, hmwT, if_true]
  have X3 : K.In h3 := X2.keeps up3
  have hx3 := up3 _ _ hx2
  refine KFB.if_so (by decide) (wpAny_bind (check_bound_init F.excBase_ValueError.toExcCallFacts (X3 _ _ hC) hx3 rfl (wpAny_bind (wpAny_pure (wpAny_pure ⟨plainId_quiet F.excBase_ValueError.init.plain _, codeAny_builtin F.excBase_ValueError.initEntry ?_⟩)))))
  refine exc_init_tree (cls := .ref C) (t0 := t0) (dv := none) (c2 := .none) (c3 := .none) (b4 := .bool false) hx3 (by show 1 ≤ sizeLine; decide) (fun h4 k4 hx4 _ => ?_)
  have X4 : K.In h4 := fun a o e => k4 a o (fun z => by rw [z, hnx] at e; cases e) (X3 a o e)
  have old : ∀ b o, b ≠ x → h₁.get? b = some o → h4.get? b = some o := fun b o hb e => k4 b o hb (up3 b o (g2 b o e))
  have hns4 := hns.at (h' := h4) fun o e => old _ o hxL e
  refine wpAt_of_wpAny (wpAny_execs_cons (plainObj_wpAny_Assign_Attribute (wpAny_Name (wpAny_loadName_local rfl rfl hns4 (v := v) ?_ (wpAny_Name (wpAny_loadName_local rfl rfl hns4 (v := .ref x) ?_ ?_))))))
  · first | rfl | with_unfolding_all rfl | kernel_rfl
  · first | rfl | with_unfolding_all rfl | kernel_rfl
  refine set_plain X4 (ox := excO C h3.objs.size) (od := none) ⟨hx4, rfl, rfl, trivial⟩ T.sa ?_
  refine exc_osa X4 hx4 hcl (show refsVE (.ref C :: bm) = true from hbm) rfl T.noN (fun h5 tk5 dx k5 dn dne hx5 hn5 => wpAny_execs_nil (hq h5 tk5 dx _ ⟨fun b o hb e => k5 b o hb (old b o hb (k b o e)), hx5, ?_, dne, hn5⟩))
  exact Nat.le_of_lt (Nat.lt_of_lt_of_le hns4.lt dn)
/-- a made one -/
structure Made (h h' : Heap) (e C d : Addr) (v : Value) : Prop where
  keep : ∀ b o, h.get? b = some o → h'.get? b = some o
  new : h.objs.size ≤ e
  obj : ∃ oe vs, h'.get? e = some oe ∧ oe.cls = .ref C ∧ oe.dict = some d ∧ oe.data = .fields vs ∧ vs[1]? = some .none
  dbig : h.objs.size ≤ d
  dne : d ≠ e
  ns : h'.Ns1 d (fun y => if y = "place" then some v else none)
theorem made (T : Txt prog K mg nm C fI) {v : Value} (X : K.In s.heap) (hlim : s.heap.NoLimit) (hmg : s.heap.Ns mainGlobals mg) (hmb : s.heap.Ns builtinsNs mb) (hsu : mb "super" = some (.type "super")) (hroom : A.depth + 1 < recursionLimit)
    (hq : ∀ h' tk e d, Made s.heap h' e C d v → R (.ok (.ret (.ref e))) { s with heap := h', toks := tk }) : codeAny (model prog w) A (.call (.ref C) ⟨[v], []⟩) R s := by
  obtain ⟨nmC, q, N, bs, bm, sn, sub, ab, col, dd, k0, k1, k2, k3, k5, hC, hbm⟩ := T.cls
  obtain ⟨hp, g, dr, tk, os⟩ := s
  have up : ∀ b o, hp.get? b = some o → ((hp.push (kdv_tup [v])).push (excO C hp.objs.size)).get? b = some o := fun b o e => Heap.get?_push_of_some _ (Heap.get?_push_of_some _ e)
  have at2 : ((hp.push (kdv_tup [v])).push (excO C hp.objs.size)).get? (hp.objs.size + 1) = some (excO C hp.objs.size) := by heap_get
  have none2 : K.lookup (hp.objs.size + 1) = none := by
    cases e : K.lookup (hp.objs.size + 1) with
    | none => rfl
    | some o => exact absurd (Nat.lt_of_succ_lt (Heap.lt_size (show hp.get? (hp.objs.size + 1) = some o from X _ _ e))) (Nat.lt_irrefl _)
  refine call_own F.excBase_ValueError (fun Y => refsVE_contains Y bm hbm) (X _ _ hC) (looks_findIn X T.iC) (fun self => bind_fn X self T.tC) (by show 1 ≤ sizeLine; decide) ?_
  refine init (s := ⟨(hp.push (kdv_tup [v])).push (excO C hp.objs.size), g, dr, tk, os⟩) T (X.keeps up) (hlim.keeps up) (hmg.keeps up) (hmb.keeps up) hsu at2 none2 ?_ fun h' tk' dx t1 L => ⟨rfl, ?_⟩
  · show A.depth + 1 < recursionLimit
    exact hroom
  · have big : hp.objs.size + 1 + 1 ≤ dx := by
      have z := L.dbig
      rw [Heap.size_push, Heap.size_push] at z
      exact z
    exact hq h' tk' (hp.objs.size + 1) dx ⟨fun b o e => L.keep b o (Nat.ne_of_lt (Nat.lt_succ_of_lt (Heap.lt_size e))) (up b o e), Nat.le_succ _, ⟨_, _, L.obj, rfl, rfl, rfl, rfl⟩, Nat.le_trans (Nat.le_trans (Nat.le_succ _) (Nat.le_succ _)) big, L.dne, L.ns⟩
end
/-! the rules -/
theorem relO_fld {v : V} {u : Value} (r : RelV v u) (f : Str) : RelO (List.lookup f [(("place" : Str), v)]) (if f = "place" then some u else none) := by
  by_cases h : f = "place"
  · subst h
    have q : List.lookup ("place" : Str) [(("place" : Str), v)] = some v := by simp [List.lookup]
    rw [q, if_pos rfl]
    exact r
  · have e : (f == ("place" : Str)) = false := by simpa using h
    rw [if_neg h]
    simp [List.lookup, e]
    trivial
/-- BadPlan(e), raised -/
def tMkE (C : Addr) (ta : TA) : L2.St → Hp → XK → Prop := fun σ H Q => ta σ H fun vs H1 => ∃ v, vs = [v] ∧ ∀ d, H1 d = none → Q (.ref C) (some d) (upd H1 d (.xd [(("place" : Str), v)]))
section
variable {X : Cx} {C fI : Addr} {nm : Str}
theorem pmk {a : Expr} {ta : TA} {p pos : Pos} {k : Nat} (T : Txt X.prog X.K X.mg nm C fI) (hr : Room k X.A) (ha : PA X [a] ta) (hg : Gl X nm := by rfl) (hdb : (nm == ("__debug__" : Str)) = false := by decide)
    (he : starEach (a :: []) X.env = (false, eval a X.env) :: starEach [] X.env := by rfl) (hpl : (backTo pos (starEach [] X.env)).any (·.1) = false := by rfl) :
    PMk X (.Call (.Name nm p) [a] [] pos) (tMkE C ta) := by
  intro pins s σ H Q I h
  refine wpAny_Call_Name_kw (ld_glob I hg T.gC ?_ hdb)
  refine PySem.W.callWith_K (h₀ := X.base) I.ok.mod.kin T.kC (thn (ha.run pos pins s σ H _ I h) fun us s1 hh => ?_) he hpl
  obtain ⟨vs, H1, I1, r1, v, ev, q1⟩ := hh
  subst ev
  refine ⟨I1.kIn, ?_⟩
  cases r1 with
  | cons rv rn =>
    rename_i u us'
    cases rn
    show wpAny _ _ (call (.ref C) [u]) _ _ _
    have lim := I1.nolimit
    obtain ⟨mb, hmb1, hmb2⟩ := I1.mod.blt
    have hg1 := I1.mod.glob.keeps I1.bk
    have hb1 := hmb1.keeps I1.bk
    have hsu : mb "super" = some (.type "super") := (hmb2 _ (by decide)).trans (by decide +kernel)
    obtain ⟨hp, g, dr, tk, os⟩ := s1
    refine wpAny_call (made (mb := mb) T I1.kIn lim hg1 hb1 hsu (by have := hr.dp; omega) fun h' tk' e d M => ?_)
    show MkP X pins σ Q (.ref e) ⟨h', g, dr, tk', os⟩
    obtain ⟨oe, fv, hoe, hc, hd, hdat, h1⟩ := M.obj
    obtain ⟨G', g1, g2⟩ := restrict h' fun b => decide (b ≠ e)
    have there : ∀ b, b ≠ e → G'.get? b = h'.get? b := fun b hb => g1 b (decide_eq_true hb)
    have gone : G'.get? e = none := g2 e (by simp)
    have J : Inv X pins σ (upd H1 d (.xd [(("place" : Str), v)])) ⟨G', g, dr, tk', os⟩ := I1.laid (t' := tk') (fun b o q => (there b (Nat.ne_of_lt (Nat.lt_of_lt_of_le (Heap.lt_size q) M.new))).trans (M.keep b o q)) M.dbig
      ⟨_, M.ns.at (fun o q => (there d M.dne).trans q), fun f => relO_fld rv f⟩
    refine ⟨e, oe, fv, ⟨G', g, dr, tk', os⟩, _, .ref C, some d, rfl, J, fun b o q => ?_, gone, hoe, ⟨hc, hd⟩, hdat, h1, ?_, rfl, I1.bare, raises_own T.exC T.tyC, q1 d (I1.hok.fresh M.dbig)⟩
    · by_cases hb : b = e
      · have q' : G'.get? b = some o := q
        rw [hb, gone] at q'; cases q'
      · exact (there b hb).symm.trans q
    · rw [upd_ne (Ne.symm M.dne)]
      exact I1.hok.fresh M.new
/-- raise BadPlan(e) -/
def tRaiseE (C : Addr) (W : WX) (ta : TA) : TS := fun _ σ H => tMkE C ta σ H fun cls d H' => W cls d σ H'
theorem ps_raiseE {a : Expr} {ta : TA} {W : WX} {p pos pos2 : Pos} {k : Nat} (hc : X.calm = true) (T : Txt X.prog X.K X.mg nm C fI) (hr : Room k X.A) (tk : Takes X W) (ha : PA X [a] ta) (hg : Gl X nm := by rfl) (hdb : (nm == ("__debug__" : Str)) = false := by decide)
    (he : starEach (a :: []) X.env = (false, eval a X.env) :: starEach [] X.env := by rfl) (hpl : (backTo pos (starEach [] X.env)).any (·.1) = false := by rfl) :
    PS X (.Raise (some (.Call (.Name nm p) [a] [] pos)) none pos2) (tRaiseE C W ta) := ps_raise hc tk (pmk T hr ha hg hdb he hpl)
end
end SupX_BadPlan

/-! a def that is called within an except suite, whatever exception is handled there -/
namespace SuC
open PySem PySem.W PySem.Spec PyProof.Rows L2
structure CalQ (P : Program) (w : World) (K : PySem.W.Frag) (mg : Str → Option Value) (base : Heap) (k : Nat) (x : Str) (sp : Sp) : Prop where
  ex : ∃ (f : Addr) (fd : FuncData) (ps : List Str), (∀ vs H Q E, sp vs H Q E → vs.length = ps.length) ∧ mg x = some (.ref f) ∧ PySem.W.keepIn K (.ref f) = true ∧ Binds K fd ps [] ∧
    ∀ (A : Around) (outer : List Env) (s : Shared) (H : Hp) (us : List Value) (vs : List V) (Q : VK) (p : Addr × Obj), L2H.RoomH k A → L2H.PinOk outer H s p → Env0 P w K mg base A outer s H → BindsTo s fd ⟨us, []⟩ (ps.zip us) → Vals vs us → sp vs H Q C8.E0 →
      codeAny (model P w) A (.call (.ref f) ⟨us, []⟩) (CR C8.CX0 outer P w H s Q C8.E0) s
section
variable {P : Program} {w : World} {K : PySem.W.Frag} {mg : Str → Option Value} {base : Heap}
theorem cal_of {x qual : Str} {st : Stmt} {f : Addr} {fd : FuncData} {N ps : List Str} {k : Nat} {sp : Sp} (F : C8.Fun K x qual st f fd) (hm : mg x = some (.ref f)) (kp : PySem.W.keepIn K (.ref f) = true) (b : Binds K fd ps []) (S : FnScope N ps (C8.fnScope st)) (len : ∀ vs H Q E, sp vs H Q E → vs.length = ps.length)
    (hbody : ∀ (cdv : Value) (A : Around) (outer : List Env) (s : Shared) (H : Hp) (vs : List V) (Q : VK) (p : Addr × Obj), sp vs H Q C8.E0 →
      ∃ t, PSs (L2H.cxH C8.CX0 P w K mg base N qual (C8.fnScope st) f cdv A outer s H C8.E0 p) (C8.fnBody st) t ∧ t { nx := fun _ H' => Q .non H', rt := Q } (L2.start N vs) H) : CalQ P w K mg base (k + 1) x sp := by
  obtain ⟨oc, od, dV, kV, doc, pm, an, cdv, ct, osl, rfl, lk, hcd⟩ := F.ex
  refine ⟨f, _, ps, len, hm, kp, b, fun A outer s H us vs Q p hr hpin e0 hb r hsp => ?_⟩
  have KX : K.In s.heap := e0.mod.kin.keeps fun b o e => (e0.bs b o e).1
  have lim : s.heap.NoLimit := e0.mod.nolimit.keeps fun b o e => (e0.bs b o e).1
  have hkind : ∀ y ∈ ps.zip us, (C8.fnScope st).names.lookup y.1 = some .local ∨ ((C8.fnScope st).names.lookup y.1 = some .cell ∧ ((cellsFrom (s.heap.objs.size + 1) (C8.fnScope st).names []).lookup y.1).isSome = true) := fun y hy => (S.par y.1 (List.of_mem_zip (a := y.1) (b := y.2) hy).1).imp id fun q => ⟨q, PySem.W.cellsFrom_some _ _ _ (.inl q)⟩
  refine codeAny_call_function hr.depth (KX _ _ lk) rfl S.co S.gen rfl (PySem.W.codeRec_of KX hcd) (hb _ _ _ _ (wpAny_newFunctionEnv_cells S.kind hkind fun env he s1 x => ?_))
  subst he
  refine ⟨lim.keeps x.toInCall.keep, codeAny_func ?_⟩
  obtain ⟨t, ht, hq⟩ := hbody cdv A outer s H vs Q p hsp
  refine wpAny_mono (ht.run [] s1 (L2.start N vs) H _ (L2H.inv_startH S hpin e0 (len _ _ _ _ hsp) r x) hq) (fun fl s' hs => ?_) fun e s' hs => hs
  cases fl with
  | ret u => obtain ⟨v, _, H', J, rv, q⟩ := hs; exact ⟨v, H', J.os, J.bare, J.base, J.hok, rv, q⟩
  | next => obtain ⟨_, H', J, q⟩ := hs; exact ⟨V.non, H', J.os, J.bare, J.base, J.hok, rfl, q⟩
  | brk => obtain ⟨_, _, _, q⟩ := hs; exact q.elim
  | cont => obtain ⟨_, _, _, q⟩ := hs; exact q.elim
end
def tCallQ (sp : Sp) (t : TA) : TE := fun σ H Q => t σ H fun vs H1 => sp vs H1 Q C8.E0
theorem pe_cQ {X : Cx} {j k : Nat} {x : Str} {sp : Sp} {q pos : Pos} {e : Expr} {es : List Expr} {t : TA} {a : Addr} {oe : Obj} {pn : List (Addr × Obj)} (c : CalQ X.prog X.w X.K X.mg X.base k x sp) (hr : Room j X.A) (hk : k ≤ j) (hg : Gl (X.suite a ((a, oe) :: pn)) x) (ha : PA (X.suite a ((a, oe) :: pn)) (e :: es) t)
    (hdb : (x == ("__debug__" : Str)) = false := by decide) (he : starEach (e :: es) X.env = (false, eval e X.env) :: starEach es X.env := by rfl) (hpl : (backTo pos (starEach es X.env)).any (·.1) = false := by rfl) : PE (X.suite a ((a, oe) :: pn)) (.Call (.Name x q) (e :: es) [] pos) (tCallQ sp t) := by
  obtain ⟨f, fd, ps, len, hm, kp, b, run⟩ := c.ex
  have hrm := hr.mono hk
  refine ⟨fun pins s σ H Q I h => wpAny_Call_Name_kw (ld_glob I hg hm (PySem.W.callWith_K (h₀ := X.base) I.ok.mod.kin kp (thn (ha.run pos pins s σ H _ I h) fun us s1 ⟨vs, H1, I1, r, q⟩ => ⟨I1.kIn, ?_⟩) he hpl) hdb)⟩
  have hl : us.length = ps.length := by rw [← r.length]; exact len _ _ _ _ q
  have bt := b s1 us I1.kIn (by rw [List.append_nil]; exact hl)
  rw [List.append_nil] at bt
  have P1 := I1.pin (a, oe) (List.mem_append_left _ List.mem_cons_self)
  have hpin : L2H.PinOk (X.suite a ((a, oe) :: pn)).stack H1 s1 (a, oe) := ⟨P1.1, P1.2.1, fun hm => (List.mem_cons.mp (I1.stkSub a hm)).elim P1.2.2.1 P1.2.2.2.1, P1.2.2.2.2⟩
  refine wpAny_call (codeAny_mono (run _ _ s1 H1 us vs Q (a, oe) ⟨hrm.dp, hrm.un⟩ hpin I1.env0 bt r q) fun res s2 hres => ?_)
  match res, hres with
  | .error _, hres => exact hres.elim
  | .ok (.ret _), hres => exact I1.after hres
  | .ok .next, hres => exact hres.elim
  | .ok .brk, hres => exact hres.elim
  | .ok .cont, hres => exact hres.elim
end SuC

namespace My
open PySem L2 C8 SX NDi
end My
/-! isinstance(e, ..) of a caught error of an own class that has its dict -/
namespace ExIs
open PySem PySem.W PySem.Spec PySem.Calls PyProof.Rows
/-- what the class at D must say -/
structure ErrC (K : Frag) (D : Addr) : Prop where
  ga : findIn K (.ref D) "__getattribute__" = some (some (.builtin "BaseException.__getattribute__"))
  gg : findIn K (.ref D) "__getattr__" = some none
  exC : subIn K (.ref D) (.type "BaseException") = some true
  hdC : hasDictIn K D = true
  ca : findIn K (.ref D) "__class__" = some (some (.builtin "object.__class__"))
  sp : specialIn K (.builtin "object.__class__") "__get__" = some (some (.builtin "getset_descriptor.__get__"))
  tk : takesIn K (.builtin "object.__class__") = some true
  mo : mroIn K D (.type "object") = some true
theorem ErrC.clsThere {K : Frag} {D : Addr} (T : ErrC K D) : ∃ cd, clsIn K D = some cd := by
  obtain ⟨cd, hc, _⟩ := any_some T.hdC
  exact ⟨cd, hc⟩
theorem ErrC.binds {K : Frag} {D : Addr} (T : ErrC K D) (od : Option Obj) : findObj K D od "__class__" = some (.bind (.builtin "getset_descriptor.__get__") (.builtin "object.__class__")) := by
  obtain ⟨cd, hcd⟩ := T.clsThere
  have e1 := T.ca
  have e2 := T.sp
  have e3 := T.tk
  unfold findObj
  rw [hcd, Option.bind_some, e1, Option.bind_some]
  simp [e2, e3]
section
variable {prog : Program} {w : World} {A : Around} {E : Value → Shared → Prop} {s : Shared} {K : Frag} {x D : Addr} {ox : Obj} {od : Option Obj}
theorem askClass {Q : Option Value → Shared → Prop} (T : ErrC K D) (X : K.In s.heap) (I : InstAt s.heap x ox D od) (h : Q (some (.ref D)) { s with toks := s.toks + 1 }) : wpAny (model prog w) A (getAttr? (.ref x) "__class__") Q E s := by
  obtain ⟨hp, gs, dr, tok, os⟩ := s
  have ty := I.type (M := model prog w)
  have lga := looks_findIn (M := model prog w) X T.ga
  have lgg := looks_findIn (M := model prog w) X T.gg
  have lcl := looks_find (M := model prog w) X I (T.binds od)
  have isB : Looks (model prog w) hp (isInstance (.ref x) (.type "BaseException")) true := ty.andThen (looks_subIn X T.exC)
  have nq : (Value.builtin "BaseException.__getattribute__" == Value.builtin "object.__getattribute__") = false := by decide +kernel
  unfold getAttr? getAttrBy? getAttrBy
  refine wpAny_bind (wpAny_mkText (wpAny_bind (wpAny_attempt (wpAny_holding (wpAny_bind (ty.at (wpAny_bind (lga.at (?goal : _))))))))) 
  show wpAny _ _ (ite ((onTheHeap (Value.ref D) && Value.builtin "BaseException.__getattribute__" == Value.builtin "object.__getattribute__") = true) _ _) _ _ _
  rw [if_neg (by rw [nq]; simp)]
  unfold getAttrByItsOwn hookBefore
  refine wpAny_bind (?g2 : _)
  have onH : onTheHeap (Value.ref D) = true := rfl
  rw [if_pos onH]
  refine lgg.at (wpAny_bind (wpAny_attempt (wpAny_holding (?g3 : _))))
  unfold callGetattribute
  rw [if_neg (by simp)]
  unfold boundAndCalled
  rw [PySem.F.excAttr_ValueError.ga.bind (.ref x)]
  refine wpAny_bind (wpAny_pure (?g4 : _))
  show wpAny _ _ (call (.builtin "BaseException.__getattribute__") [.ref x, .str "__class__" tok]) _ _ _
  refine wpAny_call (codeAny_call_builtin PySem.F.excAttr_ValueError.ga.plain PySem.F.entry_bexc_ga (@check_slot (model prog w) _ _ ⟨hp, gs, dr, tok + 1, os⟩ "BaseException.__getattribute__" "BaseException" "__getattribute__" (.ref x) [.str "__class__" tok] [] _ (by decide +kernel) (by decide +kernel) isB
    (PySem.F.args_bexc_ga (.ref x) (.str "__class__" tok)) (?g5 : _)))
  unfold Builtin.«object.__getattribute__»
  refine wpAny_bind (wpAny_of_eq (a := ((Value.ref x : Value), [Value.str "__class__" tok])) (by first | rfl | (simp only [slotArgs]; rfl)) (wpAny_bind (wpAny_pure (wpAny_bind (ty.at (wpAny_bind (lcl.at (?g6 : _))))))))
  show wpAny _ _ (holding [Value.builtin "object.__class__"] (call (.builtin "getset_descriptor.__get__") [.builtin "object.__class__", .ref x, .ref D]) >>= ret) _ _ _
  refine wpAny_bind (wpAny_holding (wpAny_call (class_get (s := ⟨hp, gs, dr, tok + 1, os⟩) (ox := ox) (od := od) X I T.mo (wpAny_pure (?g7 : _)))))
  show wpAny _ _ (handedOut (.ref D)) _ _ _
  rw [handedOut_of (v := .ref D) rfl]
  first | exact wpAny_pure (wpAny_pure h) | exact wpAny_pure h | exact wpAny_pure (wpAny_bind (wpAny_pure (wpAny_pure h)))
theorem kit (T : ErrC K D) : KitX K (.ref x) (.ref D) (fun h => InstAt h x ox D od) where
  ty := fun _ _ _ I => I.type
  it := fun _ _ X _ => by
    obtain ⟨cd, hcd⟩ := T.clsThere
    unfold clsIn at hcd
    split at hcd
    · rename_i c' d' cd' sl' ho
      intro A' Q' E' s' k q
      unfold isType loadHead
      exact wpAny_bind (wpAny_loadPart (k _ _ (X _ _ ho)) (wpAny_pure q))
    · cases hcd
  ne := fun h tp dd its n sl X htp => Bool.eq_false_iff.mpr fun q => by
    obtain ⟨cd, hcd⟩ := T.clsThere
    have e : D = tp := Value.ref.inj (beq_iff_eq.mp q)
    subst e
    unfold clsIn at hcd
    split at hcd
    · rename_i c' d' cd' sl' ho
      cases (X _ _ ho).symm.trans htp
    · cases hcd
  ca := fun X I k => askClass T X I k
end
end ExIs
namespace L2
open PySem PySem.Spec PyProof.Rows
theorem inst_of {X : Cx} {pins : List (Addr × Obj)} {σ : L2.St} {H : Hp} {s : Shared} {a D dd : Addr} {oe : Obj} {pn : List (Addr × Obj)} {fs : List (Str × V)} (I : Inv (X.suite a ((a, oe) :: pn)) pins σ H s) (hz : Zc (.ref D) (some dd) oe) (hf : ∃ vs, oe.data = .fields vs) (he : H dd = some (.xd fs)) :
    ∃ od, PySem.W.InstAt s.heap a oe D (some od) := by
  obtain ⟨ha, _⟩ := I.pin (a, oe) (List.mem_append_left _ List.mem_cons_self)
  obtain ⟨vs, hd⟩ := hf
  have hx : ObjOk X.prog X.w H s.heap dd (.xd fs) := I.hok dd _ he
  obtain ⟨mA, hns, _⟩ := hx
  obtain ⟨od, ho, _⟩ := lookIn_ns hns
  exact ⟨od, ha, hz.1, by unfold PySem.W.notCls; rw [hd] <;> rfl, by rw [hz.2]; exact ho⟩
/-- isinstance(e, C), e the caught exception -/
def rIsX (K : PySem.W.Frag) (a : Addr) (cls : Value) (d : Option Addr) : List V → Hp → VK → Prop := fun xs H Q => ∃ (D C dd : Addr) (fs : List (Str × V)) (b : Bool), xs = [.ref a, .ref C] ∧ cls = .ref D ∧ d = some dd ∧ ExIs.ErrC K D ∧ H dd = some (.xd fs) ∧ PySem.W.kitOne K (.ref D) (.ref C) = some b ∧ Q (.bl b) H
theorem call_isX {X : Cx} {a : Addr} {cls : Value} {d : Option Addr} {oe : Obj} {pn : List (Addr × Obj)} (hz : Zc cls d oe) (hf : ∃ vs, oe.data = .fields vs) : CallR (X.suite a ((a, oe) :: pn)) (.builtin "isinstance") (rIsX X.K a cls d) := by
  intro pins s σ H xs us Q I r h
  obtain ⟨D, C, dd, fs, b, rfl, rfl, rfl, T, hx, e, q⟩ := h
  obtain ⟨u1, u2, rfl, r1, r2⟩ := vals2 r
  cases (show u1 = Value.ref a from r1)
  cases (show u2 = Value.ref C from r2)
  obtain ⟨od, J⟩ := inst_of I hz hf hx
  exact PySem.W.kia_one (ExIs.kit T) I.kIn J e (fun z => nomatch z) fun tk => ⟨.bl b, H, I.tok tk, rfl, q⟩
theorem crefs_of {cs : List Addr} {its : List Value} (h : Vals (cs.map V.ref) its) : its = cs.map Value.ref := by
  induction cs generalizing its with
  | nil => cases h; rfl
  | cons c cs ih =>
    cases h with
    | cons h1 h2 => rw [ih h2]; cases (show _ = Value.ref c from h1); rfl
/-- isinstance(e, (C1, ..)) -/
def rIsXT (K : PySem.W.Frag) (a : Addr) (cls : Value) (d : Option Addr) : List V → Hp → VK → Prop := fun xs H Q => ∃ (D tp dd : Addr) (cs : List Addr) (fs : List (Str × V)) (b : Bool), xs = [.ref a, .ref tp] ∧ cls = .ref D ∧ d = some dd ∧ ExIs.ErrC K D ∧ H dd = some (.xd fs) ∧ H tp = some (.tup (cs.map V.ref)) ∧
  PySem.W.kitAny K (.ref D) (cs.map Value.ref) = some b ∧ Q (.bl b) H
theorem call_isXT {X : Cx} {a : Addr} {cls : Value} {d : Option Addr} {oe : Obj} {pn : List (Addr × Obj)} (hz : Zc cls d oe) (hf : ∃ vs, oe.data = .fields vs) : CallR (X.suite a ((a, oe) :: pn)) (.builtin "isinstance") (rIsXT X.K a cls d) := by
  intro pins s σ H xs us Q I r h
  obtain ⟨D, tp, dd, cs, fs, b, rfl, rfl, rfl, T, hx, hT, e, q⟩ := h
  obtain ⟨u1, u2, rfl, r1, r2⟩ := vals2 r
  cases (show u1 = Value.ref a from r1)
  cases (show u2 = Value.ref tp from r2)
  obtain ⟨od, J⟩ := inst_of I hz hf hx
  obtain ⟨_, its, rv, o, h1, h2, n, h3⟩ := (show ObjOk X.prog X.w H s.heap tp (.tup (cs.map V.ref)) from I.hok tp _ hT)
  have e3 := crefs_of rv
  subst e3
  obtain ⟨oc, od2, dt, sl⟩ := o
  simp only at h2 h3
  subst h2 h3
  exact PySem.W.kia_tup (ExIs.kit T) I.kIn J h1 e (fun z => nomatch z) fun tk => ⟨.bl b, H, I.tok tk, rfl, q⟩
end L2
namespace My
open PySem L2 C8 SX

/-- what the walk asks of the module -/
structure Txt (K : PySem.W.Frag) (mg : Str → Option Value) (C_Ratio : Addr) (C_Plan : Addr) (C_GameError : Addr) (C_BadMove : Addr) (C_BadPaper : Addr) (C_BadRatio : Addr) (C_BadText : Addr) (C_BadPlan : Addr) : Prop where
  n_all : mg "all" = none
  n_bool : mg "bool" = none
  n_enumerate : mg "enumerate" = none
  n_int : mg "int" = none
  n_isinstance : mg "isinstance" = none
  n_len : mg "len" = none
  n_list : mg "list" = none
  n_min : mg "min" = none
  n_range : mg "range" = none
  n_sum : mg "sum" = none
  n_tuple : mg "tuple" = none
  f_gcd : mg "gcd" = some (.builtin "math.gcd")
  f_lcm : mg "lcm" = some (.builtin "math.lcm")
  cl_Ratio : Cls K C_Ratio
  m_Ratio : mg "Ratio" = some (.ref C_Ratio)
  i_Ratio : InsC K C_Ratio
  a_Ratio_num : NoAttr K C_Ratio "num"
  a_Ratio_den : NoAttr K C_Ratio "den"
  cl_Plan : Cls K C_Plan
  m_Plan : mg "Plan" = some (.ref C_Plan)
  i_Plan : InsC K C_Plan
  a_Plan_table : NoAttr K C_Plan "table"
  m_GameError : mg "GameError" = some (.ref C_GameError)
  m_BadMove : mg "BadMove" = some (.ref C_BadMove)
  m_BadPaper : mg "BadPaper" = some (.ref C_BadPaper)
  m_BadRatio : mg "BadRatio" = some (.ref C_BadRatio)
  m_BadText : mg "BadText" = some (.ref C_BadText)
  m_BadPlan : mg "BadPlan" = some (.ref C_BadPlan)
  e_BadPlan : ExIs.ErrC K C_BadPlan
  f_BadPlan : XfC K C_BadPlan
  no_BadPlan : PySem.W.findIn K (.ref C_BadPlan) "place" = some none
  x_BadPlan : PySem.W.exmOne K (.ref C_BadPlan) (.ref C_BadPlan) = some true
  nR : PySem.W.findIn K (.ref C_Ratio) "__ne__" = some (some (.builtin "object.__ne__"))
  gE : PySem.W.subIn K (.ref C_GameError) (.type "BaseException") = some true
  gH : PySem.W.hasDictIn K C_GameError = true
  gT : PySem.W.typeIn K (.ref C_GameError) = some (.type "type")
  gS : PySem.W.subIn K (.ref C_BadPlan) (.ref C_GameError) = some true
  kX : PySem.W.kitAny K (.ref C_BadPlan) [.ref C_BadMove, .ref C_BadPaper, .ref C_BadRatio, .ref C_BadText] = some false
  ok : True
/-! defs that raise: their promise, their calls (in a def that raises, in a try) -/
structure CalX (P : Program) (w : World) (K : PySem.W.Frag) (mg : Str → Option Value) (base : Heap) (k : Nat) (x : Str) (sp : Sp) (dvs : List V) : Prop where
  ex : ∃ (f : Addr) (fd : FuncData) (ps : List Str) (ds : List Value), FnOk P w K mg base (L2.CX P w) k f fd ps sp ∧ mg x = some (.ref f) ∧ PySem.W.keepIn K (.ref f) = true ∧ Binds K fd ps ds ∧ Vals dvs ds
/-- .. called with keywords -/
structure CalXK (P : Program) (w : World) (K : PySem.W.Frag) (mg : Str → Option Value) (base : Heap) (k : Nat) (x : Str) (sp : Sp) (n : Nat) (ks : List Str) (gV : List V → List V → List V) : Prop where
  ex : ∃ (f : Addr) (fd : FuncData) (ps : List Str) (g : List Value → List Value → List Value), FnOk P w K mg base (L2.CX P w) k f fd ps sp ∧ mg x = some (.ref f) ∧ PySem.W.keepIn K (.ref f) = true ∧ KBn K fd ps n ks g gV
structure MetX (P : Program) (w : World) (K : PySem.W.Frag) (mg : Str → Option Value) (base : Heap) (k : Nat) (C : Addr) (m : Str) (sp : Sp) (dvs : List V) : Prop where
  ex : ∃ (f : Addr) (fd : FuncData) (ps : List Str) (ds : List Value), Cls K C ∧ Meth K C m f ∧ FnOk P w K mg base (L2.CX P w) k f fd ps sp ∧ Binds K fd ps ds ∧ Vals dvs ds
section
variable {P : Program} {w : World} {K : PySem.W.Frag} {mg : Str → Option Value} {base : Heap}
theorem fnx {x qual : Str} {st : Stmt} {f : Addr} {fd : FuncData} {N ps : List Str} {k : Nat} {sp : Sp} (F : C8.Fun K x qual st f fd) (S : FnScope N ps (fnScope st)) (len : ∀ vs H Q E, sp vs H Q E → vs.length = ps.length)
    (hbody : ∀ (cdv : Value) (A : Around) (outer : List Env) (s : Shared) (H : Hp) (vs : List V) (Q : VK) (E : XK), Room k (A.deeper (PyProof.Rows.envOfC qual (fnScope st) s.heap.objs.size f cdv)) → sp vs H Q E →
      ∃ t, PSs (cxOf (L2.CX P w) P w K mg base N qual (fnScope st) f cdv A outer s H E) (fnBody st) t ∧ t { nx := fun _ H' => Q .non H', rt := Q } (start N vs) H) : FnOk P w K mg base (L2.CX P w) (k + 1) f fd ps sp := by
  obtain ⟨oc, od, dV, kV, doc, pm, an, cdv, ct, osl, rfl, lk, hcd⟩ := F.ex
  exact fn_of lk hcd S len fun A outer s H vs Q E hr hsp => hbody cdv A outer s H vs Q E hr hsp
theorem CalX.of {x : Str} {st : Stmt} {f : Addr} {fd : FuncData} {ps : List Str} {ds : List Value} {dvs : List V} {k : Nat} {sp : Sp} (F : C8.Def K mg x st f fd) (ok : FnOk P w K mg base (L2.CX P w) k f fd ps sp) (b : Binds K fd ps ds) (d : Vals dvs ds) : CalX P w K mg base k x sp dvs :=
  ⟨f, fd, ps, ds, ok, F.mgf, F.kp, b, d⟩
end
section
variable {X : Cx} {k j n : Nat} {C : Addr} {x m : Str} {sp : Sp} {dvs : List V} {p pos apos : Pos} {e o : Expr} {es : List Expr} {ta : TE} {t tk : TA} {E : XK} {W : WX} {ks : List Str} {gV : List V → List V → List V} {kws : List Keyword}
/-- called in a def that lets out what E says -/
theorem pe_cX (c : CalX X.prog X.w X.K X.mg X.base k x sp dvs) (hr : Room j X.A) (hk : k ≤ j) (hg : Gl X x) (hx : Passes (L2.CX X.prog X.w) X E) (ha : PA X (e :: es) t)
    (hdb : (x == ("__debug__" : Str)) = false := by decide) (he : starEach (e :: es) X.env = (false, eval e X.env) :: starEach es X.env := by rfl) (hpl : (backTo pos (starEach es X.env)).any (·.1) = false := by rfl) :
    PE X (.Call (.Name x p) (e :: es) [] pos) (tCall sp dvs E t) := by
  obtain ⟨f, fd, ps, ds, F, hm, kp, b, d⟩ := c.ex
  exact pe_call F (hr.mono hk) hg hm kp b d hx ha hdb he hpl
/-- called in a try -/
theorem pe_cS (c : CalX X.prog X.w X.K X.mg X.base k x sp dvs) (hr : Room j X.A) (hk : k ≤ j) (hg : Gl X x) (tk : Takes X W) (ha : PA X (e :: es) t)
    (hdb : (x == ("__debug__" : Str)) = false := by decide) (he : starEach (e :: es) X.env = (false, eval e X.env) :: starEach es X.env := by rfl) (hpl : (backTo pos (starEach es X.env)).any (·.1) = false := by rfl) :
    PE X (.Call (.Name x p) (e :: es) [] pos) (tCallSD sp dvs (WE W) t) := by
  obtain ⟨f, fd, ps, ds, F, hm, kp, b, d⟩ := c.ex
  exact pe_callSD F (hr.mono hk) hg hm kp b d (fun σ => passAt tk σ) ha hdb he hpl
def tCallSK (sp : Sp) (n : Nat) (ks : List Str) (gV : List V → List V → List V) (E : L2.St → XK) (t tk : TA) : TE := fun σ H Q => t σ H fun vs H1 => tk σ H1 fun zs H2 => vs.length = n ∧ zs.length = ks.length ∧ sp (gV vs zs) H2 Q (E σ)
/-- called in a try, with keywords -/
theorem pe_cKS (c : CalXK X.prog X.w X.K X.mg X.base k x sp n ks gV) (hr : Room j X.A) (hk : k ≤ j) (hg : Gl X x) (tw : Takes X W) (ha : PA X (e :: es) t) (hkw : PK X kws tk)
    (hall : (backToKw pos (keywordEach kws X.env)).all (·.1.isSome) = true := by rfl) (hks : (backToKw pos (keywordEach kws X.env)).filterMap (·.1) = ks := by rfl)
    (hdb : (x == ("__debug__" : Str)) = false := by decide) (he : starEach (e :: es) X.env = (false, eval e X.env) :: starEach es X.env := by rfl)
    (hpl : ((backTo pos (starEach (e :: es) X.env)).any (·.1) || (backToKw pos (keywordEach kws X.env)).any (·.1.isNone)) = false := by rfl) :
    PE X (.Call (.Name x p) (e :: es) kws pos) (tCallSK sp n ks gV (WE W) t tk) := by
  obtain ⟨f, fd, ps, g, F, hm, kp, b⟩ := c.ex
  refine ⟨fun pins s σ H Q I h => wpAny_Call_Name_kw (ld_glob I hg hm (PySem.W.callWith_KW (h₀ := X.base) I.ok.mod.kin kp hall (thn (ha.run pos pins s σ H _ I h) fun us s1 ⟨vs, H1, I1, r, q⟩ => ?_) hpl he) hdb)⟩
  refine thn (hkw.run pos pins s1 σ H1 _ I1 q) fun ws s2 ⟨zs, H2, I2, rz, l1, l2, q2⟩ => ⟨I2.kIn, ?_⟩
  rw [hks]
  have r2 := b.rel r rz
  refine wpAny_call (codeAny_mono (F.run X.A X.stack s2 H2 ⟨us, ks.zip ws⟩ (g us ws) (gV vs zs) Q (WE W σ) (hr.mono hk) I2.env0 (b.to s2 us ws I2.kIn (r.length.symm.trans l1) (rz.length.symm.trans l2)) r2 q2) fun r s' hq => ?_)
  cases r with
  | error er => exact passAt tw σ pins H2 s2 er s' I2 hq
  | ok fl =>
    cases fl with
    | ret u => exact I2.after hq
    | next => exact hq.elim
    | brk => exact hq.elim
    | cont => exact hq.elim
end

/-! an own class whose __init__ raises, made within a try -/
structure MakX (P : Program) (w : World) (K : PySem.W.Frag) (mg : Str → Option Value) (base : Heap) (k : Nat) (x : Str) (C : Addr) (sp : Sp) : Prop where
  ex : ∃ (f : Addr) (fd : FuncData) (ps : List Str), Mk K C f ∧ FnOk P w K mg base (L2.CX P w) k f fd ps sp ∧ mg x = some (.ref C) ∧ Binds K fd ps []
def tMakeSD (C : Addr) (sp : Sp) (E : L2.St → XK) (t : TA) : TE := fun σ H Q => t σ H fun vs H1 => ∀ x dx, H1 x = none → H1 dx = none → dx ≠ x → sp (.ref x :: vs) (upd (upd H1 dx (.own x)) x (.ins C dx [])) (fun v H2 => v = .non ∧ Q (.ref x) H2) (E σ)
section
variable {X : Cx} {k j : Nat} {C : Addr} {x : Str} {sp : Sp} {p pos : Pos} {e : Expr} {es : List Expr} {t : TA} {W : WX}
theorem pe_mkS (c : MakX X.prog X.w X.K X.mg X.base k x C sp) (hr : Room j X.A) (hk : k + 1 ≤ j) (hg : Gl X x) (tk : Takes X W) (ha : PA X (e :: es) t)
    (hdb : (x == ("__debug__" : Str)) = false := by decide) (he : starEach (e :: es) X.env = (false, eval e X.env) :: starEach es X.env := by rfl) (hpl : (backTo pos (starEach es X.env)).any (·.1) = false := by rfl) : PE X (.Call (.Name x p) (e :: es) [] pos) (tMakeSD C sp (WE W) t) := by
  obtain ⟨f, fd, ps, M, F, hm, b⟩ := c.ex
  refine ⟨fun pins s0 σ H Q I h => wpAny_Call_Name_kw (ld_glob I hg hm (PySem.W.callWith_K (h₀ := X.base) I.ok.mod.kin M.kp (thn (ha.run pos pins s0 σ H _ I h) fun us s ⟨vs, H1, I1, r, q⟩ => ⟨I1.kIn, ?_⟩) he hpl) hdb)⟩
  have nx : H1 (s.heap.objs.size + 1) = none := I1.hok.fresh (Nat.le_succ _)
  have nd : H1 s.heap.objs.size = none := I1.hok.fresh (Nat.le_refl _)
  have hsp := q _ _ nx nd (Nat.ne_of_lt (Nat.lt_succ_self _))
  have Im := Inv.made (C := C) I1
  have rr : Vals (V.ref (s.heap.objs.size + 1) :: vs) (Value.ref (s.heap.objs.size + 1) :: us) := .cons rfl r
  have hln : (Value.ref (s.heap.objs.size + 1) :: us).length = ps.length := rr.length.symm.trans (F.len _ _ _ _ hsp)
  have rm : Room k (X.A.under (.builtin "type.__call__" ⟨.ref C :: us, []⟩)) := (hr.mono hk).make C us []
  have bt := b _ (Value.ref (s.heap.objs.size + 1) :: us) Im.kIn (by rw [List.append_nil]; exact hln)
  rw [List.append_nil] at bt
  have go := F.run _ X.stack _ _ ⟨Value.ref (s.heap.objs.size + 1) :: us, []⟩ (Value.ref (s.heap.objs.size + 1) :: us) _ _ (WE W σ) rm (Im.env0.make C us []) bt rr hsp
  refine wpAny_call (make_map (f := f) I1.kIn M.makes M.init (beq_iff_eq.mp M.fn) (codeAny_mono go fun res s2 hres => ?_))
  match res, hres with
  | .error er, hres => exact passAt tk σ pins _ _ er s2 Im hres
  | .ok (.ret u), hres =>
    obtain ⟨v, H2, I2, rv, ev, q2⟩ := Im.after hres
    subst ev
    exact ⟨rv, V.ref (s.heap.objs.size + 1), H2, I2, rfl, q2⟩
  | .ok .next, hres => exact hres.elim
  | .ok .brk, hres => exact hres.elim
  | .ok .cont, hres => exact hres.elim
end

/-! ratios: an own object of two ints -/
theorem kND : ¬ (("num" : Str) = "den") := by decide +kernel
theorem kDN : ¬ (("den" : Str) = "num") := by decide +kernel
def rf (n d : Int) : List (Str × V) := putF "den" (.int d) (putF "num" (.int n) [])
theorem rf_num (n d : Int) : (rf n d).lookup ("num" : Str) = some (.int n) := by
  unfold rf
  rw [lookup_putF, if_neg kND, lookup_putF, if_pos rfl]
theorem rf_den (n d : Int) : (rf n d).lookup ("den" : Str) = some (.int d) := by
  unfold rf
  rw [lookup_putF, if_pos rfl]
theorem rf_no (n d : Int) {m : Str} (h1 : ¬ m = "num") (h2 : ¬ m = "den") : (rf n d).lookup m = none := by
  unfold rf
  rw [lookup_putF, if_neg h2, lookup_putF, if_neg h1]; rfl
/-- a Ratio stands at p -/
def RatAt (C : Addr) (H : Hp) (p : Addr) (n d : Int) : Prop := ∃ dx, H p = some (.ins C dx (rf n d))
theorem RatAt.keep {C p : Addr} {H H' : Hp} {W : List Addr} {n d : Int} (h : RatAt C H p n d) (k : Keep W H H') (w : p ∉ W) : RatAt C H' p n d := by
  obtain ⟨dx, h⟩ := h
  exact ⟨dx, k _ _ h w⟩
theorem RatAt.keep0 {C p : Addr} {H H' : Hp} {n d : Int} (h : RatAt C H p n d) (k : Keep [] H H') : RatAt C H' p n d := h.keep k (by simp)
/-- the sign of the divisor stands with the common part -/
def sg (n d : Int) : Int := if d < 0 then -((Nat.gcd n.natAbs d.natAbs : Nat) : Int) else ((Nat.gcd n.natAbs d.natAbs : Nat) : Int)
def redN (n d : Int) : Int := n.fdiv (sg n d)
def redD (n d : Int) : Int := d.fdiv (sg n d)
theorem gcd_pos_of {n d : Int} (h : d ≠ 0) : 0 < Nat.gcd n.natAbs d.natAbs := Nat.gcd_pos_of_pos_right _ (by omega)
theorem sg_ne {n d : Int} (h : d ≠ 0) : sg n d ≠ 0 := by
  have := gcd_pos_of (n := n) h
  unfold sg
  split <;> omega
theorem sg_dvd_n (n d : Int) : sg n d ∣ n := by
  have h : ((Nat.gcd n.natAbs d.natAbs : Nat) : Int) ∣ n := Int.ofNat_dvd_left.mpr (Nat.gcd_dvd_left _ _)
  unfold sg
  split
  · exact Int.neg_dvd.mpr h
  · exact h
theorem sg_dvd_d (n d : Int) : sg n d ∣ d := by
  have h : ((Nat.gcd n.natAbs d.natAbs : Nat) : Int) ∣ d := Int.ofNat_dvd_left.mpr (Nat.gcd_dvd_right _ _)
  unfold sg
  split
  · exact Int.neg_dvd.mpr h
  · exact h
theorem fdiv_of_mul {m c s : Int} (hs : s ≠ 0) (h : m = s * c) : m.fdiv s = c := by
  subst h; exact Int.mul_fdiv_cancel_left c hs
theorem red_n {n d : Int} (h : d ≠ 0) : redN n d * sg n d = n := by
  obtain ⟨c, hc⟩ := sg_dvd_n n d
  unfold redN
  rw [fdiv_of_mul (sg_ne h) hc, Int.mul_comm]; exact hc.symm
theorem red_d {n d : Int} (h : d ≠ 0) : redD n d * sg n d = d := by
  obtain ⟨c, hc⟩ := sg_dvd_d n d
  unfold redD
  rw [fdiv_of_mul (sg_ne h) hc, Int.mul_comm]; exact hc.symm
theorem redD_pos {n d : Int} (h : d ≠ 0) : 0 < redD n d := by
  have e := red_d (n := n) h
  have g := gcd_pos_of (n := n) h
  have hne : redD n d ≠ 0 := fun z => by rw [z, Int.zero_mul] at e; exact h e.symm
  rcases Int.lt_or_gt_of_ne hne with hl | hl
  · exfalso
    unfold sg at e
    split at e
    · rename_i hd
      have : 0 ≤ redD n d * -((Nat.gcd n.natAbs d.natAbs : Nat) : Int) := Int.mul_nonneg_of_nonpos_of_nonpos (by omega) (by omega)
      omega
    · rename_i hd
      have : redD n d * ((Nat.gcd n.natAbs d.natAbs : Nat) : Int) < 0 := Int.mul_neg_of_neg_of_pos hl (by omega)
      omega
  · exact hl
/-- the same ratio -/
theorem red_cross {n d : Int} (h : d ≠ 0) : redN n d * d = n * redD n d := by
  have e1 := red_n (n := n) h
  have e2 := red_d (n := n) h
  calc redN n d * d = redN n d * (redD n d * sg n d) := by rw [e2]
    _ = redN n d * sg n d * redD n d := by rw [Int.mul_comm (redD n d), Int.mul_assoc]
    _ = n * redD n d := by rw [e1]
theorem red_gcd {n d : Int} (h : d ≠ 0) : Nat.gcd (redN n d).natAbs (redD n d).natAbs = 1 := by
  have e1 : (redN n d).natAbs * (sg n d).natAbs = n.natAbs := by rw [← Int.natAbs_mul, red_n h]
  have e2 : (redD n d).natAbs * (sg n d).natAbs = d.natAbs := by rw [← Int.natAbs_mul, red_d h]
  have e3 : (sg n d).natAbs = Nat.gcd n.natAbs d.natAbs := by unfold sg; split <;> omega
  have e4 := Nat.gcd_mul_right (redN n d).natAbs (sg n d).natAbs (redD n d).natAbs
  rw [e1, e2, e3] at e4
  have g := gcd_pos_of (n := n) h
  exact Nat.eq_of_mul_eq_mul_right g (by omega)
theorem red_abs_n {n d : Int} (h : d ≠ 0) : (redN n d).natAbs ≤ n.natAbs := by
  have e1 : (redN n d).natAbs * (sg n d).natAbs = n.natAbs := by rw [← Int.natAbs_mul, red_n h]
  have : 0 < (sg n d).natAbs := by have := sg_ne (n := n) h; omega
  rw [← e1]
  exact Nat.le_mul_of_pos_right _ this
theorem red_dvd {n d : Int} (h : d ≠ 0) : redD n d ∣ d := ⟨sg n d, (red_d h).symm⟩
/-- what the rules ask of numbers below a power of two -/
theorem log2_lt9 {i : Int} {b : Nat} (h : i.natAbs < 2 ^ b) (h0 : 0 < b) : i.natAbs.log2 < b := PySem.Flt.log2_lt_of h0 h
section
variable {X : Cx}
def CDivG (_ j : Int) : Prop := j ≠ 0 ∧ j.natAbs.log2 < 9000
theorem op_fdivG : OpR X (binaryOp .FloorDiv) (rI CDivG fun i j => .int (i.fdiv j)) := opI fun i j _ _ _ _ _ hc q =>
  PyProof.Rows.floordiv_int hc.1 q (.inl (PyProof.noPylong_of_log2 hc.2))
def CPowB (i j : Int) : Prop := 2 ≤ i.natAbs ∧ 1 ≤ j ∧ (Builtin.Int.intBits i : Int) * j ≤ 100000000
theorem op_mulO : OpR X (binaryOp .Mult) (rI IntMulOk fun i j => .int (i * j)) := opI fun _ _ _ _ _ _ _ hc q => PyProof.Rows.mul_int q hc
end
def sp_rat (C : Addr) : Sp := fun vs H Q _ => ∃ (x dx : Addr) (n d : Int), vs = [.ref x, .int n, .int d] ∧ d ≠ 0 ∧ d.natAbs < 2 ^ 8000 ∧ H x = some (.ins C dx []) ∧
  ∀ H', Keep [x] H H' → H' x = some (.ins C dx (rf (redN n d) (redD n d))) → Q .non H'

set_option exponentiation.threshold 100000
/-! great ints: lcm, a fourth power -/
section
variable {X : Cx}
def rLcm : List V → Hp → VK → Prop := fun vs H Q => ∃ a b : Int, vs = [.int a, .int b] ∧ a.natAbs < 2 ^ 6000 ∧ b.natAbs < 2 ^ 6000 ∧ Q (.int ((Nat.lcm a.natAbs b.natAbs : Nat) : Int)) H
theorem cr_lcm : CallR X (.builtin "math.lcm") rLcm := by
  intro pins s σ H vs us Q I r h
  obtain ⟨a, b, rfl, ha, hb, q⟩ := h
  obtain ⟨t, u, rfl⟩ := Vals.int2 r
  have e1 : Nat.lcm 1 a.natAbs = a.natAbs := PySem.W.mc_lcm_one _
  have l1 : (max 1 a.natAbs).log2 < 6001 := by
    refine PySem.Flt.log2_lt_of (by decide) ?_
    have : (1 : Nat) < 2 ^ 6001 := Nat.one_lt_two_pow (by decide)
    have : a.natAbs < 2 ^ 6001 := Nat.lt_trans ha (Nat.pow_lt_pow_right (by decide) (by decide))
    omega
  have l2 : (max a.natAbs b.natAbs).log2 < 6000 := PySem.Flt.log2_lt_of (by decide) (by omega)
  refine call_function_meets PySem.W.MGF.kind_lcm PySem.W.MGF.plain_lcm PySem.W.MGF.entry_lcm (PySem.W.MGF.args_lcm _ _) (PySem.W.mg_run_lcm a t b u (by omega) (by omega) ?_).meets ⟨.int _, H, I.tok _, ⟨_, rfl⟩, by rw [e1]; exact q⟩
  rw [e1, Int.natAbs_natCast]
  have h1 : Nat.lcm a.natAbs b.natAbs < 2 ^ 12000 := by
    refine Nat.lt_of_le_of_lt (PySem.W.mc_lcm_le _ _) ?_
    have e : (2 : Nat) ^ 12000 = 2 ^ 6000 * 2 ^ 6000 := by rw [← Nat.pow_add]
    rw [e]
    exact Nat.mul_lt_mul'' ha hb
  have h2 := PySem.Flt.log2_lt_of (k := 12000) (by decide) h1
  have e : bitsLine = 134217728 := by decide
  omega
/-- a ** 4 -/
theorem op_pow4 : OpR X (binaryOp .Pow) (fun x y H Q => ∃ i : Int, x = .int i ∧ y = .int 4 ∧ Builtin.Int.intBits i ≤ 2000000 ∧ Q (.int (i ^ 4)) H) := by
  intro pins s σ H x y v u Q I rx ry h
  obtain ⟨i, rfl, rfl, hb, q⟩ := h
  obtain ⟨t, rfl⟩ := rx
  obtain ⟨t', rfl⟩ := ry
  have fin : ∀ z : Int, z = i ^ 4 → ∀ k tk, EP X pins σ Q (.int z tk) { s with toks := k } := fun z e k tk => ⟨.int z, H, I.tok _, ⟨_, rfl⟩, by rw [e]; exact q⟩
  by_cases h1 : (i == 0 || i == 1) = true
  · refine AutoIntOps.pow_1 (by decide) (by decide) h1 (fin i ?_ _ _)
    rcases (Bool.or_eq_true _ _ ▸ h1) with e | e
    · have := eq_of_beq e; subst this; rfl
    · have := eq_of_beq e; subst this; rfl
  · by_cases h2 : (i == -1) = true
    · refine AutoIntOps.pow_2 (by decide) (by decide) h1 h2 (fin _ ?_ _ _)
      have := eq_of_beq h2; subst this; rfl
    · refine AutoIntOps.pow_4 (by decide) (by decide) h1 h2 ?_ (fin _ ?_ _ _)
      · unfold Builtin.Int.intTooBig
        have e : bitsLine = 134217728 := by decide
        intro z
        have z := of_decide_eq_true z
        rw [e] at z
        omega
      · rfl
end

/-- tuples stand -/
def TK (H H' : Hp) : Prop := ∀ b xs, H b = some (.tup xs) → H' b = some (.tup xs)
theorem TK.refl (H : Hp) : TK H H := fun _ _ h => h
theorem TK.trans {H H1 H2 : Hp} (a : TK H H1) (b : TK H1 H2) : TK H H2 := fun c xs h => b c xs (a c xs h)
theorem TK.new {H : Hp} {p : Addr} {o : HO} (h : H p = none) : TK H (upd H p o) := fun b xs q => by rw [upd_ne (ne_of_none q h)]; exact q
theorem TK.lst {H : Hp} {p : Addr} {o : HO} {ys : List V} (h : H p = some (.lst ys)) : TK H (upd H p o) := fun b xs q => by
  rw [upd_ne (ne_of q h (by intro z; cases z))]; exact q
theorem Keep.tk {H H' : Hp} (k : Keep [] H H') : TK H H' := fun b xs q => k b _ q (by simp)
theorem Keep.tk1 {H H' : Hp} {p : Addr} {ys : List V} (k : Keep [p] H H') (h : H p = some (.lst ys)) : TK H H' := fun b xs q => k b _ q (by
  have := ne_of q h (by intro z; cases z)
  simpa using this)

/-! data of tuples: what never changes -/
mutual
inductive TD (H : Hp) : V → PyData → Prop
  | non : TD H .non .none
  | bl (b : Bool) : TD H (.bl b) (.bool b)
  | int (i : Int) : TD H (.int i) (.int i)
  | str (x : Str) : TD H (.str x) (.str x)
  | tup {a : Addr} {xs : List V} {ds : List PyData} : H a = some (.tup xs) → TDs H xs ds → TD H (.ref a) (.tuple ds)
inductive TDs (H : Hp) : List V → List PyData → Prop
  | nil : TDs H [] []
  | cons {v : V} {vs : List V} {d : PyData} {ds : List PyData} : TD H v d → TDs H vs ds → TDs H (v :: vs) (d :: ds)
end
mutual
theorem TD.tk {H H' : Hp} (k : TK H H') : ∀ {d : PyData} {v : V}, TD H v d → TD H' v d
  | _, _, .non => .non
  | _, _, .bl b => .bl b
  | _, _, .int i => .int i
  | _, _, .str x => .str x
  | _, _, .tup h t => .tup (k _ _ h) (TDs.tk k t)
theorem TDs.tk {H H' : Hp} (k : TK H H') : ∀ {ds : List PyData} {vs : List V}, TDs H vs ds → TDs H' vs ds
  | _, _, .nil => .nil
  | _, _, .cons h t => .cons (TD.tk k h) (TDs.tk k t)
end
mutual
theorem TD.dp {K : PySem.W.Frag} {H : Hp} : ∀ {d : PyData} {v : V}, TD H v d → Dp K H v d
  | _, _, .non => .non
  | _, _, .bl b => .bl b
  | _, _, .int i => .int i
  | _, _, .str x => .str x
  | _, _, .tup h t => .tup (SqT.of h) (TDs.dp t)
theorem TDs.dp {K : PySem.W.Frag} {H : Hp} : ∀ {ds : List PyData} {vs : List V}, TDs H vs ds → DpAll K H vs ds
  | _, _, .nil => .nil
  | _, _, .cons h t => .cons (TD.dp h) (TDs.dp t)
end
theorem TDs.length {H : Hp} : ∀ {vs : List V} {ds : List PyData}, TDs H vs ds → vs.length = ds.length
  | _, _, .nil => rfl
  | _, _, .cons _ t => by rw [List.length_cons, List.length_cons, t.length]
theorem TDs.get {H : Hp} : ∀ {vs : List V} {ds : List PyData}, TDs H vs ds → ∀ {i : Nat} {d : PyData}, ds[i]? = some d → ∃ v, vs[i]? = some v ∧ TD H v d
  | _, _, .nil, i, d, e => by simp at e
  | _, _, .cons h t, 0, d, e => by simp at e; subst e; exact ⟨_, rfl, h⟩
  | _, _, .cons h t, i + 1, d, e => by
    obtain ⟨v, h1, h2⟩ := t.get (i := i) (by simpa using e)
    exact ⟨v, by simpa using h1, h2⟩
theorem TDs.append {H : Hp} : ∀ {vs ws : List V} {ds es : List PyData}, TDs H vs ds → TDs H ws es → TDs H (vs ++ ws) (ds ++ es)
  | _, _, _, _, .nil, s => s
  | _, _, _, _, .cons h t, s => .cons h (t.append s)
theorem TDs.take {H : Hp} : ∀ {vs : List V} {ds : List PyData} (n : Nat), TDs H vs ds → TDs H (vs.take n) (ds.take n)
  | _, _, 0, _ => .nil
  | _, _, _ + 1, .nil => .nil
  | _, _, n + 1, .cons h t => .cons h (t.take n)
theorem TDs.reverse {H : Hp} : ∀ {vs : List V} {ds : List PyData}, TDs H vs ds → TDs H vs.reverse ds.reverse
  | _, _, .nil => .nil
  | _, _, .cons h t => by rw [List.reverse_cons, List.reverse_cons]; exact t.reverse.append (.cons h .nil)
theorem TDs.snoc {H : Hp} {vs : List V} {ds : List PyData} {v : V} {d : PyData} (t : TDs H vs ds) (h : TD H v d) : TDs H (vs ++ [v]) (ds ++ [d]) := t.append (.cons h .nil)
theorem TDs.nil_of {H : Hp} {vs : List V} (t : TDs H vs []) : vs = [] := by cases t; rfl
/-! events and views -/
abbrev Ev := Str × List Int
def dEv (e : Ev) : PyData := .tuple (.str e.1 :: e.2.map PyData.int)
def dView (L : List Ev) : PyData := .tuple (L.map dEv)
abbrev Row := List Ev × Int
def dRow (r : Row) : PyData := .tuple [dView r.1, .int r.2]
def dRowO : Option Row → PyData
  | none => .none
  | some r => dRow r
theorem td_ints {H : Hp} : ∀ l : List Int, TDs H (l.map V.int) (l.map PyData.int)
  | [] => .nil
  | a :: r => .cons (.int a) (td_ints r)
def isDid (e : Ev) : Bool := decide (e.1 = "did")
def lastR : List Ev → Option Row
  | [] => none
  | e :: r => if isDid e = true then some (r.reverse, e.2.headD 0) else lastR r
def lastRow (L : List Ev) : Option Row := lastR L.reverse
def rowsR : List Ev → List Row
  | [] => []
  | e :: r => if isDid e = true then rowsR r ++ [(r.reverse, e.2.headD 0)] else rowsR r
theorem rowsR_cons (e : Ev) (r : List Ev) : rowsR (e :: r) = if isDid e = true then rowsR r ++ [(r.reverse, e.2.headD 0)] else rowsR r := rfl
theorem lastR_cons (e : Ev) (r : List Ev) : lastR (e :: r) = if isDid e = true then some (r.reverse, e.2.headD 0) else lastR r := rfl
def allRows (L : List Ev) : List Row := rowsR L.reverse
theorem allRows_snoc (L : List Ev) (e : Ev) : allRows (L ++ [e]) = if isDid e = true then allRows L ++ [(L, e.2.headD 0)] else allRows L := by
  unfold allRows
  rw [List.reverse_append]
  show rowsR (e :: L.reverse) = _
  rw [rowsR, List.reverse_reverse]
theorem lastR_rows : ∀ (R : List Ev), rowsR R = (match lastR R with | none => [] | some (V, k) => rowsR V.reverse ++ [(V, k)])
  | [] => rfl
  | e :: r => by
    rw [rowsR_cons, lastR_cons]
    by_cases h : isDid e = true
    · rw [if_pos h, if_pos h]; simp only [List.reverse_reverse]
    · rw [if_neg h, if_neg h]; exact lastR_rows r
theorem lastRow_rows (L : List Ev) : allRows L = (match lastRow L with | none => [] | some (V, k) => allRows V ++ [(V, k)]) := lastR_rows L.reverse
theorem lastR_len : ∀ (R : List Ev) {V : List Ev} {k : Int}, lastR R = some (V, k) → V.length < R.length
  | [], V, k, h => by cases h
  | e :: r, V, k, h => by
    rw [lastR_cons] at h
    by_cases g : isDid e = true
    · rw [if_pos g] at h
      cases h
      simp
    · rw [if_neg g] at h
      have := lastR_len r h
      simp; omega
theorem lastRow_len {L V : List Ev} {k : Int} (h : lastRow L = some (V, k)) : V.length < L.length := by
  have := lastR_len _ h
  simpa using this
theorem lastRow_last (L : List Ev) : lastRow L = (allRows L).getLast? := by
  rw [lastRow_rows]
  cases h : lastRow L with
  | none => rfl
  | some x => simp
theorem rowsR_take : ∀ (R : List Ev) {j : Nat} {V : List Ev} {k : Int}, (rowsR R)[j]? = some (V, k) → rowsR V.reverse = (rowsR R).take j
  | [], j, V, k, h => by simp [rowsR] at h
  | e :: r, j, V, k, h => by
    rw [rowsR_cons] at h ⊢
    by_cases g : isDid e = true
    · rw [if_pos g] at h ⊢
      by_cases hj : j < (rowsR r).length
      · rw [List.getElem?_append_left hj] at h
        rw [List.take_append_of_le_length (Nat.le_of_lt hj)]
        exact rowsR_take r h
      · have hj' : j = (rowsR r).length := by
          have := (List.getElem?_eq_some_iff.mp h).1
          rw [List.length_append] at this
          simp at this; omega
        subst hj'
        rw [List.getElem?_append_right (Nat.le_refl _), Nat.sub_self] at h
        have e1 : r.reverse = V := congrArg Prod.fst (Option.some.inj h)
        rw [← e1, List.reverse_reverse, List.take_left]
    · rw [if_neg g] at h ⊢
      exact rowsR_take r h
theorem allRows_take {L : List Ev} {j : Nat} {V : List Ev} {k : Int} (h : (allRows L)[j]? = some (V, k)) : allRows V = (allRows L).take j := rowsR_take _ h
theorem rowsR_mem : ∀ (R : List Ev) {V : List Ev} {k : Int}, (V, k) ∈ rowsR R → ∃ M, R.reverse = V ++ M
  | [], V, k, h => by cases h
  | e :: r, V, k, h => by
    rw [rowsR_cons] at h
    rw [List.reverse_cons]
    by_cases g : isDid e = true
    · rw [if_pos g] at h
      rcases List.mem_append.mp h with h | h
      · obtain ⟨M, e1⟩ := rowsR_mem r h
        exact ⟨M ++ [e], by rw [e1, List.append_assoc]⟩
      · have := List.mem_singleton.mp h
        cases this
        exact ⟨[e], rfl⟩
    · rw [if_neg g] at h
      obtain ⟨M, e1⟩ := rowsR_mem r h
      exact ⟨M ++ [e], by rw [e1, List.append_assoc]⟩
theorem allRows_mem {L V : List Ev} {k : Int} (h : (V, k) ∈ allRows L) : ∃ M, L = V ++ M := by
  obtain ⟨M, e⟩ := rowsR_mem _ h
  exact ⟨M, by rw [← e, List.reverse_reverse]⟩
theorem rowsR_len : ∀ R : List Ev, (rowsR R).length ≤ R.length
  | [] => Nat.le_refl _
  | e :: r => by
    have h := rowsR_len r
    rw [rowsR_cons]
    split
    · rw [List.length_append]; simp; omega
    · simp; omega
theorem allRows_len (L : List Ev) : (allRows L).length ≤ L.length := by
  have h := rowsR_len L.reverse
  rw [List.length_reverse] at h
  exact h
/-- every move made tells it -/
def Good (L : List Ev) : Prop := ∀ e ∈ L, isDid e = true → e.2 ≠ []
theorem Good.pre {L V M : List Ev} (g : Good L) (h : L = V ++ M) : Good V := fun e he => g e (by rw [h]; exact List.mem_append_left _ he)
theorem lastRow_pre {L V : List Ev} {k : Int} (h : lastRow L = some (V, k)) : ∃ M, L = V ++ M := by
  refine allRows_mem (k := k) ?_
  rw [lastRow_rows, h]
  simp
def sp_last_row : Sp := fun vs H Q _ => ∃ (v : V) (L : List Ev), vs = [v] ∧ TD H v (dView L) ∧ L.length ≤ 100000 ∧ Good L ∧ ∀ r H', Keep [] H H' → TD H' r (dRowO (lastRow L)) → Q r H'
theorem td_view {H : Hp} {v : V} {ds : List PyData} (h : TD H v (.tuple ds)) : ∃ a xs, v = .ref a ∧ H a = some (.tup xs) ∧ TDs H xs ds := by
  cases h with
  | tup h t => exact ⟨_, _, rfl, h, t⟩

theorem un65 {k : Nat} {A : Around} (r : Room k A) : A.units + 65 < cLine := by have := r.un; omega
theorem tyT {K : PySem.W.Frag} {H : Hp} {a : Addr} {xs : List V} (h : H a = some (.tup xs)) : TyX K H (.ref a) (.type "tuple") := .base (.tup h)
def Lay (d : PyData) : Prop := SeqAt.shaped d = true
theorem canLay_ints : ∀ l : List Int, PyData.canLayAll0 (l.map PyData.int) = true
  | [] => rfl
  | a :: r => by simp [PyData.canLayAll0, PyData.canLay0, canLay_ints r]
theorem depth_ints : ∀ l : List Int, PyData.depthAll (l.map PyData.int) ≤ 1
  | [] => by simp [PyData.depthAll]
  | a :: r => by
    have := depth_ints r
    simp only [List.map_cons, PyData.depthAll, PyData.depth]
    omega
def OkE (e : Ev) : Prop := PyData.strOk e.1 = true
theorem canLay_ev {e : Ev} (h : OkE e) : (dEv e).canLay0 = true := by
  show ((PyData.str e.1).canLay0 && PyData.canLayAll0 (e.2.map PyData.int)) = true
  rw [canLay_ints, Bool.and_true]; exact h
theorem depth_ev (e : Ev) : (dEv e).depth ≤ 2 := by
  have := depth_ints e.2
  simp only [dEv, PyData.depth, PyData.depthAll]
  omega
theorem canLay_evs : ∀ {L : List Ev}, (∀ e ∈ L, OkE e) → PyData.canLayAll0 (L.map dEv) = true
  | [], _ => rfl
  | e :: r, h => by
    rw [List.map_cons]
    show ((dEv e).canLay0 && PyData.canLayAll0 (r.map dEv)) = true
    rw [canLay_ev (h e (List.mem_cons_self ..)), canLay_evs fun z hz => h z (List.mem_cons_of_mem _ hz)]; rfl
theorem depth_evs : ∀ L : List Ev, PyData.depthAll (L.map dEv) ≤ 2
  | [] => by simp [PyData.depthAll]
  | e :: r => by
    have h1 := depth_evs r
    have h2 := depth_ev e
    simp only [List.map_cons, PyData.depthAll]
    omega
theorem shaped_row {r : Row} (h : ∀ e ∈ r.1, OkE e) : SeqAt.shaped (dRow r) = true := by
  unfold SeqAt.shaped
  rw [Bool.and_eq_true]
  constructor
  · show (PyData.canLayAll0 (r.1.map dEv) && true) = true
    rw [canLay_evs h]; rfl
  · have := depth_evs r.1
    refine decide_eq_true ?_
    simp only [dRow, dView, PyData.depth, PyData.depthAll]
    omega
/-- a view grows by an event -/
theorem td_grow {H : Hp} {v : V} {L : List Ev} (h : TD H v (dView L)) : ∃ a xs, v = .ref a ∧ H a = some (.tup xs) ∧ TDs H xs (L.map dEv) ∧ xs.length = L.length := by
  obtain ⟨a, xs, e, ha, t⟩ := td_view h
  exact ⟨a, xs, e, ha, t, by rw [t.length, List.length_map]⟩
theorem okE_of {e : Ev} (h : PyData.strOk e.1 = true) : OkE e := h
theorem ok_round (l : List Int) : OkE ("round", l) := okE_of (by show PyData.strOk ("round" : Str) = true; decide +kernel)
theorem ok_told (l : List Int) : OkE ("told", l) := okE_of (by show PyData.strOk ("told" : Str) = true; decide +kernel)
theorem ok_move (l : List Int) : OkE ("move", l) := okE_of (by show PyData.strOk ("move" : Str) = true; decide +kernel)
theorem ok_did (l : List Int) : OkE ("did", l) := okE_of (by show PyData.strOk ("did" : Str) = true; decide +kernel)
theorem nd_round (l : List Int) : isDid ("round", l) = false := by show decide (("round" : Str) = "did") = false; decide +kernel
theorem nd_told (l : List Int) : isDid ("told", l) = false := by show decide (("told" : Str) = "did") = false; decide +kernel
theorem nd_move (l : List Int) : isDid ("move", l) = false := by show decide (("move" : Str) = "did") = false; decide +kernel
theorem yd_did (l : List Int) : isDid ("did", l) = true := by show decide (("did" : Str) = "did") = true; decide +kernel
theorem good_snoc {L : List Ev} {e : Ev} (g : Good L) (h : e.2 ≠ []) : Good (L ++ [e]) := fun z hz hd => by
  rcases List.mem_append.mp hz with q | q
  · exact g z q hd
  · rw [List.mem_singleton.mp q]; exact h
theorem oks_snoc {L : List Ev} {e : Ev} (g : ∀ z ∈ L, OkE z) (h : OkE e) : ∀ z ∈ L ++ [e], OkE z := fun z hz => by
  rcases List.mem_append.mp hz with q | q
  · exact g z q
  · rw [List.mem_singleton.mp q]; exact h
theorem rows_same {L : List Ev} {e : Ev} (h : isDid e = false) : allRows (L ++ [e]) = allRows L := by
  rw [allRows_snoc, if_neg (by rw [h]; simp)]
/-- view + (event,): once both tuples are made -/
theorem add_ev {K : PySem.W.Frag} {H : Hp} {v : V} {L : List Ev} (e : Ev) {Q : VK} {t1 t2 : Addr} (hv : TD H v (dView L)) (n1 : H t1 = none) (n2 : upd H t1 (.tup (.str e.1 :: e.2.map V.int)) t2 = none) (hl : L.length ≤ 100000)
    (k : ∀ (p : Addr) (H' : Hp), Keep [] H H' → TD H' (.ref p) (dView (L ++ [e])) → Q (.ref p) H') : rCatA K v (.ref t2) (upd (upd H t1 (.tup (.str e.1 :: e.2.map V.int))) t2 (.tup [.ref t1])) Q := by
  have kk : Keep [] H (upd (upd H t1 (.tup (.str e.1 :: e.2.map V.int))) t2 (.tup [.ref t1])) := (Keep.new n1).then_new n2
  obtain ⟨a, xs, rfl, ha, hx⟩ := td_view (hv.tk kk.tk)
  have n12 : t1 ≠ t2 := ne_of_none (H := upd H t1 _) upd_same n2
  have h1 : upd (upd H t1 (.tup (.str e.1 :: e.2.map V.int))) t2 (.tup [.ref t1]) t1 = some (.tup (.str e.1 :: e.2.map V.int)) := by rw [upd_ne n12]; exact upd_same
  have hlx : xs.length = L.length := by rw [hx.length, List.length_map]
  have hcat := hx.snoc (TD.tup h1 (.cons (.str e.1) (td_ints e.2)))
  have e1 : L.map dEv ++ [PyData.tuple (.str e.1 :: e.2.map PyData.int)] = (L ++ [e]).map dEv := by rw [List.map_append]; rfl
  rw [e1] at hcat
  refine ⟨a, t2, xs, [.ref t1], rfl, rfl, SqT.of ha, SqT.of upd_same, by simp only [List.length_cons, List.length_nil]; exact smallM (by omega), fun e0 => ?_, fun _ z => (by cases z), fun _ _ p hp => ?_⟩
  · subst e0
    exact k t2 _ kk (.tup upd_same hcat)
  · exact k p _ (kk.then_new hp) (.tup upd_same (hcat.tk (TK.new hp)))

/-! plain data: == is = -/
mutual
def PlD : PyData → Bool
  | .none => true
  | .bool _ => false
  | .int _ => true
  | .str _ => true
  | .list _ => false
  | .tuple xs => PlDs xs
  | .dict _ => false
def PlDs : List PyData → Bool
  | [] => true
  | d :: ds => PlD d && PlDs ds
end
mutual
theorem eqv_pl : ∀ (d e : PyData), PlD d = true → PlD e = true → PyData.eqv d e = true → d = e
  | .none, .none, _, _, _ => rfl
  | .int i, .int j, _, _, h => by
    have : i = j := by simpa [PyData.eqv] using h
    rw [this]
  | .str i, .str j, _, _, h => by
    have : i = j := by simpa [PyData.eqv] using h
    rw [this]
  | .tuple xs, .tuple ys, hx, hy, h => by
    rw [eqvs_pl xs ys (by simpa [PlD] using hx) (by simpa [PlD] using hy) (by simpa [PyData.eqv] using h)]
  | .none, .int _, _, _, h => by simp [PyData.eqv] at h
  | .none, .str _, _, _, h => by simp [PyData.eqv] at h
  | .none, .tuple _, _, _, h => by simp [PyData.eqv] at h
  | .int _, .none, _, _, h => by simp [PyData.eqv] at h
  | .int _, .str _, _, _, h => by simp [PyData.eqv] at h
  | .int _, .tuple _, _, _, h => by simp [PyData.eqv] at h
  | .str _, .none, _, _, h => by simp [PyData.eqv] at h
  | .str _, .int _, _, _, h => by simp [PyData.eqv] at h
  | .str _, .tuple _, _, _, h => by simp [PyData.eqv] at h
  | .tuple _, .none, _, _, h => by simp [PyData.eqv] at h
  | .tuple _, .int _, _, _, h => by simp [PyData.eqv] at h
  | .tuple _, .str _, _, _, h => by simp [PyData.eqv] at h
  | .bool _, _, h, _, _ => by simp [PlD] at h
  | .list _, _, h, _, _ => by simp [PlD] at h
  | .dict _, _, h, _, _ => by simp [PlD] at h
  | _, .bool _, _, h, _ => by simp [PlD] at h
  | _, .list _, _, h, _ => by simp [PlD] at h
  | _, .dict _, _, h, _ => by simp [PlD] at h
theorem eqvs_pl : ∀ (xs ys : List PyData), PlDs xs = true → PlDs ys = true → PyData.eqvAll xs ys = true → xs = ys
  | [], [], _, _, _ => rfl
  | d :: ds, e :: es, hx, hy, h => by
    simp only [PlDs, Bool.and_eq_true] at hx hy
    simp only [PyData.eqvAll, Bool.and_eq_true] at h
    rw [eqv_pl d e hx.1 hy.1 h.1, eqvs_pl ds es hx.2 hy.2 h.2]
  | [], _ :: _, _, _, h => by simp [PyData.eqvAll] at h
  | _ :: _, [], _, _, h => by simp [PyData.eqvAll] at h
end
theorem pl_ints : ∀ l : List Int, PlDs (l.map PyData.int) = true
  | [] => rfl
  | a :: r => by simp [PlDs, PlD, pl_ints r]
theorem pl_ev (e : Ev) : PlD (dEv e) = true := by
  show PlDs (.str e.1 :: e.2.map PyData.int) = true
  simp [PlDs, PlD, pl_ints]
theorem pl_evs : ∀ L : List Ev, PlDs (L.map dEv) = true
  | [] => rfl
  | e :: r => by
    rw [List.map_cons]
    show (PlD (dEv e) && PlDs (r.map dEv)) = true
    rw [pl_ev, pl_evs r]; rfl
theorem pl_view (L : List Ev) : PlD (dView L) = true := by
  show PlDs (L.map dEv) = true
  exact pl_evs L
theorem pl_row (r : Row) : PlD (dRow r) = true := by
  show (PlD (dView r.1) && (true && true)) = true
  rw [pl_view]; rfl
theorem ints_inj : ∀ {l m : List Int}, l.map PyData.int = m.map PyData.int → l = m
  | [], [], _ => rfl
  | a :: l, b :: m, h => by
    simp only [List.map_cons, List.cons.injEq, PyData.int.injEq] at h
    rw [h.1, ints_inj h.2]
  | [], _ :: _, h => by simp at h
  | _ :: _, [], h => by simp at h
theorem dEv_inj {e f : Ev} (h : dEv e = dEv f) : e = f := by
  unfold dEv at h
  simp only [PyData.tuple.injEq, List.cons.injEq, PyData.str.injEq] at h
  exact Prod.ext h.1 (ints_inj h.2)
theorem evs_inj : ∀ {l m : List Ev}, l.map dEv = m.map dEv → l = m
  | [], [], _ => rfl
  | a :: l, b :: m, h => by
    simp only [List.map_cons, List.cons.injEq] at h
    rw [dEv_inj h.1, evs_inj h.2]
  | [], _ :: _, h => by simp at h
  | _ :: _, [], h => by simp at h
theorem dView_inj {l m : List Ev} (h : dView l = dView m) : l = m := by
  unfold dView at h
  exact evs_inj (PyData.tuple.inj h)
theorem dRow_inj {r s : Row} (h : dRow r = dRow s) : r = s := by
  unfold dRow at h
  simp only [PyData.tuple.injEq, List.cons.injEq, PyData.int.injEq] at h
  exact Prod.ext (dView_inj h.1) h.2.1
theorem dRowO_inj {r s : Option Row} (h : dRowO r = dRowO s) : r = s := by
  cases r with
  | none =>
    cases s with
    | none => rfl
    | some s => unfold dRowO dRow at h; cases h
  | some r =>
    cases s with
    | none => unfold dRowO dRow at h; cases h
    | some s => rw [dRow_inj h]
theorem pl_rowO (r : Option Row) : PlD (dRowO r) = true := by
  cases r with
  | none => rfl
  | some r => exact pl_row r
theorem canLay_view {L : List Ev} (h : ∀ e ∈ L, OkE e) : (dView L).canLay0 = true := canLay_evs h
theorem shaped_view {L : List Ev} (h : ∀ e ∈ L, OkE e) : SeqAt.shaped (dView L) = true := by
  unfold SeqAt.shaped
  rw [Bool.and_eq_true]
  refine ⟨canLay_view h, decide_eq_true ?_⟩
  have := depth_evs L
  simp only [dView, PyData.depth]
  omega
theorem shaped_rowO {r : Option Row} (h : ∀ q, r = some q → ∀ e ∈ q.1, OkE e) : SeqAt.shaped (dRowO r) = true := by
  cases r with
  | none => rfl
  | some r => exact shaped_row (h r rfl)
theorem shaped_list {ds : List PyData} (h : ∀ d ∈ ds, SeqAt.shaped d = true) (h2 : ∀ d ∈ ds, d.depth ≤ 10) : SeqAt.shaped (.list ds) = true := by
  have g1 : ∀ {ds : List PyData}, (∀ d ∈ ds, SeqAt.shaped d = true) → PyData.canLayAll0 ds = true := by
    intro ds h
    induction ds with
    | nil => rfl
    | cons d r ih =>
      show (d.canLay0 && PyData.canLayAll0 r) = true
      rw [SeqAt.canLay_of_shaped (h d (List.mem_cons_self ..)), ih fun x hx => h x (List.mem_cons_of_mem _ hx)]; rfl
  have g2 : ∀ {ds : List PyData}, (∀ d ∈ ds, d.depth ≤ 10) → PyData.depthAll ds ≤ 10 := by
    intro ds h
    induction ds with
    | nil => simp [PyData.depthAll]
    | cons d r ih =>
      have h1 := h d (List.mem_cons_self ..)
      have h2 := ih fun x hx => h x (List.mem_cons_of_mem _ hx)
      simp only [PyData.depthAll]; omega
  unfold SeqAt.shaped
  rw [Bool.and_eq_true]
  refine ⟨g1 h, decide_eq_true ?_⟩
  have := g2 h2
  simp only [PyData.depth]
  omega
theorem depth_row (r : Row) : (dRow r).depth ≤ 10 := by
  have := depth_evs r.1
  simp only [dRow, dView, PyData.depth, PyData.depthAll]
  omega
instance : DecidableEq Row := inferInstanceAs (DecidableEq (List (Str × List Int) × Int))
theorem eqv_row {r s : Row} (hr : ∀ e ∈ r.1, OkE e) : PyData.eqv (dRow r) (dRow s) = decide (r = s) := by
  by_cases h : r = s
  · subst h
    rw [decide_eq_true rfl]
    exact SeqAt.eqv_refl _ (SeqAt.canLay_of_shaped (shaped_row hr))
  · rw [decide_eq_false h]
    cases q : PyData.eqv (dRow r) (dRow s) with
    | false => rfl
    | true => exact absurd (dRow_inj (eqv_pl _ _ (pl_row r) (pl_row s) q)) h
theorem eqv_rowO {r s : Option Row} (hr : ∀ q, r = some q → ∀ e ∈ q.1, OkE e) : PyData.eqv (dRowO r) (dRowO s) = decide (r = s) := by
  by_cases h : r = s
  · subst h
    rw [decide_eq_true rfl]
    exact SeqAt.eqv_refl _ (SeqAt.canLay_of_shaped (shaped_rowO hr))
  · rw [decide_eq_false h]
    cases q : PyData.eqv (dRowO r) (dRowO s) with
    | false => rfl
    | true => exact absurd (dRowO_inj (eqv_pl _ _ (pl_rowO r) (pl_rowO s) q)) h
/-- view + events, once their tuple is made -/
theorem add_evs {K : PySem.W.Frag} {H : Hp} {v : V} {L M : List Ev} {Q : VK} {t2 : Addr} {ys : List V} (hv : TD H v (dView L)) (h2 : H t2 = some (.tup ys)) (hy : TDs H ys (M.map dEv)) (hl : L.length + M.length ≤ 100000)
    (k : ∀ (p : Addr) (H' : Hp), Keep [] H H' → TD H' (.ref p) (dView (L ++ M)) → Q (.ref p) H') : rCatA K v (.ref t2) H Q := by
  obtain ⟨a, xs, rfl, ha, hx⟩ := td_view hv
  have hlx : xs.length = L.length := by rw [hx.length, List.length_map]
  have hly : ys.length = M.length := by rw [hy.length, List.length_map]
  have hcat := hx.append hy
  rw [← List.map_append] at hcat
  refine ⟨a, t2, xs, ys, rfl, rfl, SqT.of ha, SqT.of h2, smallM (by omega), fun e0 => ?_, fun _ e0 => ?_, fun _ _ p hp => ?_⟩
  · subst e0
    exact k t2 _ (Keep.refl _ _) (.tup h2 hcat)
  · subst e0
    rw [List.append_nil] at hcat
    exact k a _ (Keep.refl _ _) (.tup ha hcat)
  · exact k p _ (Keep.new hp) (.tup upd_same (hcat.tk (TK.new hp)))

theorem calUp {P : Program} {w : World} {K : PySem.W.Frag} {mg : Str → Option Value} {base : Heap} {j k : Nat} {x : Str} {sp : Sp} {dvs : List V} (c : C8.Cal P w K mg base j x sp dvs) (h : j ≤ k) : C8.Cal P w K mg base k x sp dvs := by
  obtain ⟨f, fd, ps, ds, F, hm, kp, b, d⟩ := c.ex
  exact ⟨f, fd, ps, ds, F.mono h, hm, kp, b, d⟩

theorem CalX.up {P : Program} {w : World} {K : PySem.W.Frag} {mg : Str → Option Value} {base : Heap} {j k : Nat} {x : Str} {sp : Sp} {dvs : List V} (c : CalX P w K mg base j x sp dvs) (h : j ≤ k) : CalX P w K mg base k x sp dvs := by
  obtain ⟨f, fd, ps, ds, F, r⟩ := c.ex
  exact ⟨f, fd, ps, ds, F.mono h, r⟩

open NDi
set_option exponentiation.threshold 100000
/-! the law's look whether two values are the same: only the answer True is told -/
def SameV : Nat → Hp → V → V → Prop
  | 0, _, _, _ => False
  | n + 1, H, a, d => (a = d ∧ ((∃ x, d = .str x) ∨ (∃ i, d = .int i) ∨ (∃ b, d = .bl b) ∨ d = .non)) ∨
    ∃ p q xs ys, a = .ref p ∧ d = .ref q ∧ ((H p = some (.lst xs) ∧ H q = some (.lst ys)) ∨ (H p = some (.tup xs) ∧ H q = some (.tup ys))) ∧ xs.length = ys.length ∧ xs.length ≤ sizeLine ∧
      ∀ (i : Nat) x y, xs[i]? = some x → ys[i]? = some y → SameV n H x y
def sp_law_same (n : Nat) : Sp := fun vs H Q _ => ∃ a d, vs = [a, d] ∧ SameV n H a d ∧ Q (.bl true) H
theorem sameV_strs {n : Nat} {H : Hp} {p q : Addr} {ys : List Str} (h1 : H p = some (.lst (ys.map V.str))) (h2 : H q = some (.lst (ys.map V.str))) (hl : ys.length ≤ sizeLine) : SameV (n + 2) H (.ref p) (.ref q) := by
  refine .inr ⟨p, q, _, _, rfl, rfl, .inl ⟨h1, h2⟩, rfl, by rw [List.length_map]; exact hl, fun i x y hx hy => ?_⟩
  rw [hx] at hy; cases hy
  obtain ⟨z, _, rfl⟩ := strs_get hx
  exact .inl ⟨rfl, .inl ⟨z, rfl⟩⟩
theorem sameV_str {n : Nat} {H : Hp} (x : Str) : SameV (n + 1) H (.str x) (.str x) := .inl ⟨rfl, .inl ⟨x, rfl⟩⟩
section
variable {K : PySem.W.Frag}
theorem kLT : PySem.W.kitOne K (.type "list") (.type "tuple") = some false := kit_ty (by decide +kernel)
theorem kLL : PySem.W.kitOne K (.type "list") (.type "list") = some true := kit_ty (by decide +kernel)
theorem kTT : PySem.W.kitOne K (.type "tuple") (.type "tuple") = some true := kit_ty (by decide +kernel)
theorem kTL : PySem.W.kitOne K (.type "tuple") (.type "list") = some false := kit_ty (by decide +kernel)
theorem kST : PySem.W.kitOne K (.type "str") (.type "tuple") = some false := kit_ty (by decide +kernel)
theorem kSL : PySem.W.kitOne K (.type "str") (.type "list") = some false := kit_ty (by decide +kernel)
theorem kSB : PySem.W.kitOne K (.type "str") (.type "bool") = some false := kit_ty (by decide +kernel)
theorem kSI : PySem.W.kitOne K (.type "str") (.type "int") = some false := kit_ty (by decide +kernel)
theorem kSS : PySem.W.kitOne K (.type "str") (.type "str") = some true := kit_ty (by decide +kernel)
theorem kIT : PySem.W.kitOne K (.type "int") (.type "tuple") = some false := kit_ty (by decide +kernel)
theorem kIL : PySem.W.kitOne K (.type "int") (.type "list") = some false := kit_ty (by decide +kernel)
theorem kIB : PySem.W.kitOne K (.type "int") (.type "bool") = some false := kit_ty (by decide +kernel)
theorem kII : PySem.W.kitOne K (.type "int") (.type "int") = some true := kit_ty (by decide +kernel)
theorem kBT : PySem.W.kitOne K (.type "bool") (.type "tuple") = some false := kit_ty (by decide +kernel)
theorem kBL : PySem.W.kitOne K (.type "bool") (.type "list") = some false := kit_ty (by decide +kernel)
theorem kBB : PySem.W.kitOne K (.type "bool") (.type "bool") = some true := kit_ty (by decide +kernel)
theorem kBI : PySem.W.kitOne K (.type "bool") (.type "int") = some true := kit_ty (by decide +kernel)
theorem kNT : PySem.W.kitOne K (.type "NoneType") (.type "tuple") = some false := kit_ty (by decide +kernel)
theorem kNL : PySem.W.kitOne K (.type "NoneType") (.type "list") = some false := kit_ty (by decide +kernel)
theorem kNB : PySem.W.kitOne K (.type "NoneType") (.type "bool") = some false := kit_ty (by decide +kernel)
theorem kNI : PySem.W.kitOne K (.type "NoneType") (.type "int") = some false := kit_ty (by decide +kernel)
end
theorem paired_strs {K : PySem.W.Frag} {H : Hp} {n : Nat} : ∀ ys : List Str, Paired (EqV K H (n + 1)) (ys.map V.str) (ys.map V.str)
  | [] => .nil
  | y :: r => .cons (.inl ⟨rfl, rfl⟩) (paired_strs r)
theorem canLay_intsL : ∀ l : List Int, PyData.canLayAll0 (l.map PyData.int) = true
  | [] => rfl
  | a :: r => by simp [PyData.canLayAll0, PyData.canLay0, canLay_intsL r]
theorem depth_intsL : ∀ l : List Int, PyData.depthAll (l.map PyData.int) ≤ 1
  | [] => by simp [PyData.depthAll]
  | a :: r => by
    have := depth_intsL r
    simp only [List.map_cons, PyData.depthAll, PyData.depth]
    omega
theorem shaped_ints (ys : List Int) : SeqAt.shaped (.list (ys.map PyData.int)) = true := by
  unfold SeqAt.shaped
  have h := depth_intsL ys
  rw [Bool.and_eq_true]
  refine ⟨by simp only [PyData.canLay0]; exact canLay_intsL ys, decide_eq_true ?_⟩
  simp only [PyData.depth]
  omega
theorem eqv_ints (ys : List Int) : PyData.eqv (.list (ys.map PyData.int)) (.list (ys.map PyData.int)) = true := SeqAt.eqv_refl _ (SeqAt.canLay_of_shaped (shaped_ints ys))
theorem dp_ints {K : PySem.W.Frag} {H : Hp} : ∀ (ys : List Int), DpAll K H (ys.map V.int) (ys.map PyData.int)
  | [] => .nil
  | y :: r => .cons (.int y) (dp_ints r)

section
variable {P : Program} {w : World} {K : PySem.W.Frag} {mg : Str → Option Value} {base : Heap} {C_Ratio : Addr} {C_Plan : Addr} {C_GameError : Addr} {C_BadMove : Addr} {C_BadPaper : Addr} {C_BadRatio : Addr} {C_BadText : Addr} {C_BadPlan : Addr} {f_BadPlan___init : Addr}
theorem ok_rat_init {f : Addr} {fd : FuncData} {ds : List Value} {dvs : List V} (M : Mk K C_Ratio f) (F : C8.Fun K "__init__" "Ratio.__init__" s_Ratio___init f fd) (b : Binds K fd ["self", "num", "den"] ds) (d : Vals dvs ds) (T : Txt K mg C_Ratio C_Plan C_GameError C_BadMove C_BadPaper C_BadRatio C_BadText C_BadPlan) :
    C8.Mak P w K mg base 1 "Ratio" C_Ratio (sp_rat C_Ratio) dvs := by
  refine mak0 M T.m_Ratio F b d sc_Ratio___init (fun vs H Q E h => ?_) (fun cdv A outer s H vs Q E hr h => ?_)
  · obtain ⟨x, dx, n, d, rfl, _⟩ := h
    rfl
  · obtain ⟨x, dx, n, d, rfl, hd0, hdb, hx, k⟩ := h
    refine ⟨_, (pss_cons (ps_if (pt_cmpR op_eq (pv 2) pe_int (nomark _))
  (pss_one ps_never)
  pss_nil)
(pss_cons (ps_set (i := 3) sc_Ratio___init.nd rfl (by first | exact Or.inl rfl | exact Or.inr rfl) (pe_callBfun cr_gcd (by rfl) T.f_gcd (pa_cons (pv 1) (pa_cons (pv 2) pa_nil))))
(pss_cut (ps_if (pt_cmpR op_lt (pv 2) pe_int (nomark _))
  (pss_one (ps_set (i := 3) sc_Ratio___init.nd rfl (by first | exact Or.inl rfl | exact Or.inr rfl) (pe_un un_neg (pv 3))))
  pss_nil)
(pss_cons (ps_fld (pv 0) (pe_op op_fdivG (pv 1) (pv 3)) rfl)
(pss_one (ps_fld (pv 0) (pe_op op_fdivG (pv 2) (pv 3)) rfl)))))), ?_⟩
    refine ⟨_, rfl, rfl, _, rfl, iteDF (fun z => hd0 (V.int.inj z)) ?_⟩
    refine ⟨_, rfl, _, rfl, _, _, rfl, ?_⟩
    have hg := gcd_pos_of (n := n) hd0
    have hgb : Nat.gcd n.natAbs d.natAbs < 2 ^ 8000 := Nat.lt_of_le_of_lt (Nat.le_of_dvd (by omega) (Nat.gcd_dvd_right _ _)) hdb
    -- part is the sign's part
    refine ⟨fun σ H' => σ = [some (.ref x), some (.int n), some (.int d), some (.int (sg n d))] ∧ H' = H, ?_, ?_⟩
    · refine ⟨_, rfl, _, _, rfl, rfl, _, rfl, iteD (fun hn => ?_) (fun hn => ?_)⟩
      · refine ⟨_, rfl, _, rfl, ?_, rfl⟩
        unfold sg; rw [if_pos hn]; rfl
      · refine ⟨?_, rfl⟩
        unfold sg; rw [if_neg hn]; rfl
    · rintro σ H' ⟨rfl, rfl⟩
      have hs := sg_ne (n := n) hd0
      have hsb : CDivG n (sg n d) := ⟨hs, by
        refine Nat.lt_trans (log2_lt9 (b := 8000) ?_ (by decide)) (by decide)
        have : (sg n d).natAbs = Nat.gcd n.natAbs d.natAbs := by unfold sg; split <;> omega
        omega⟩
      refine ⟨_, rfl, _, rfl, _, _, rfl, rfl, hsb, _, rfl, x, C_Ratio, dx, [], rfl, hx, T.cl_Ratio, T.a_Ratio_num, by show 0 < 1000; decide, ?_⟩
      refine ⟨_, rfl, _, rfl, _, _, rfl, rfl, hsb, _, rfl, x, C_Ratio, dx, _, rfl, upd_same, T.cl_Ratio, T.a_Ratio_den, by show 1 < 1000; decide, ?_⟩
      exact k _ ((Keep.at_ (List.mem_singleton.mpr rfl)).then_at (List.mem_singleton.mpr rfl)) upd_same
end

/-! the common form -/
abbrev Rt := Int × Int
def lcmD (d : Nat) (r : Rt) : Nat := Nat.lcm d r.2.natAbs
def comD (rs : List Rt) : Nat := rs.foldl lcmD 1
def comN (rs : List Rt) : List Int := rs.map fun r => r.1 * ((comD rs : Nat) : Int).fdiv r.2
theorem comD_snoc (l : List Rt) (r : Rt) : comD (l ++ [r]) = lcmD (comD l) r := by unfold comD; rw [List.foldl_append]; rfl
theorem foldl_dvd_start : ∀ (l : List Rt) (d : Nat), d ∣ l.foldl lcmD d
  | [], d => Nat.dvd_refl d
  | r :: l, d => Nat.dvd_trans (Nat.dvd_lcm_left d r.2.natAbs) (foldl_dvd_start l (lcmD d r))
theorem foldl_dvd_mem : ∀ (l : List Rt) (d : Nat) {r : Rt}, r ∈ l → r.2.natAbs ∣ l.foldl lcmD d
  | r' :: l, d, r, h => by
    rcases List.mem_cons.mp h with e | e
    · subst e
      exact Nat.dvd_trans (Nat.dvd_lcm_right d r.2.natAbs) (foldl_dvd_start l (lcmD d r))
    · exact foldl_dvd_mem l (lcmD d r') e
theorem foldl_dvd_of : ∀ (l : List Rt) (d m : Nat), d ∣ m → (∀ r ∈ l, r.2.natAbs ∣ m) → l.foldl lcmD d ∣ m
  | [], d, m, h, _ => h
  | r :: l, d, m, h, hl => foldl_dvd_of l (lcmD d r) m (Nat.lcm_dvd h (hl r (List.mem_cons_self ..))) fun z hz => hl z (List.mem_cons_of_mem _ hz)
theorem comD_mem {rs : List Rt} {r : Rt} (h : r ∈ rs) : r.2.natAbs ∣ comD rs := foldl_dvd_mem rs 1 h
theorem comD_of {rs : List Rt} {m : Nat} (h : ∀ r ∈ rs, r.2.natAbs ∣ m) : comD rs ∣ m := foldl_dvd_of rs 1 m (Nat.one_dvd m) h
def sp_common (K : PySem.W.Frag) (C : Addr) : Sp := fun vs H Q _ => ∃ (a : Addr) (ps : List Addr) (rs : List Rt) (B : Nat), vs = [.ref a] ∧ SqL K H a (ps.map V.ref) ∧ ps.length = rs.length ∧ (∀ (i : Nat) p r, ps[i]? = some p → rs[i]? = some r → RatAt C H p r.1 r.2) ∧
  (∀ r ∈ rs, 0 < r.2 ∧ r.2.natAbs ∣ B ∧ r.1.natAbs < 2 ^ 300) ∧ 0 < B ∧ B < 2 ^ 1800 ∧ rs.length ≤ 1000 ∧
  ∀ l t H', H l = none → Keep [] H H' → H' l = some (.lst ((comN rs).map V.int)) → H' t = some (.tup [.ref l, .int (comD rs : Nat)]) → Q (.ref t) H'
section
variable {P : Program} {w : World} {K : PySem.W.Frag} {mg : Str → Option Value} {base : Heap} {C_Ratio : Addr} {C_Plan : Addr} {C_GameError : Addr} {C_BadMove : Addr} {C_BadPaper : Addr} {C_BadRatio : Addr} {C_BadText : Addr} {C_BadPlan : Addr} {f_BadPlan___init : Addr}
theorem ok_common {f : Addr} {fd : FuncData} (D : C8.Def K mg "common" s_common f fd) (b : Binds K fd ["ratios"] []) (T : Txt K mg C_Ratio C_Plan C_GameError C_BadMove C_BadPaper C_BadRatio C_BadText C_BadPlan) : C8.Cal P w K mg base 1 "common" (sp_common K C_Ratio) [] := by
  refine cal0 D b .nil sc_common (fun vs H Q E h => ?_) (fun cdv A outer s H vs Q E hr h => ?_)
  · obtain ⟨a, ps, rs, B, rfl, _⟩ := h
    rfl
  · obtain ⟨a, ps, rs, B, rfl, hS, hlen, hrat, hrs, hB0, hB1, hn, k⟩ := h
    refine ⟨_, (pss_cons (ps_set (i := 1) sc_common.nd rfl (by first | exact Or.inl rfl | exact Or.inr rfl) pe_int)
(pss_cons (ps_for PassesOwn.never rfl (pi_list (pv 0)) (pg_name (i := 2) sc_common.nd rfl (by first | exact Or.inl rfl | exact Or.inr rfl))
  (pss_one (ps_set (i := 1) sc_common.nd rfl (by first | exact Or.inl rfl | exact Or.inr rfl) (pe_callBfun cr_lcm (by rfl) T.f_lcm (pa_cons (pv 1) (pa_cons (pe_fld (pv 2) rfl) pa_nil))))))
(pss_one (ps_ret (pe_tup (pa_cons (pe_lc (own := [("ratio", 2)]) (g := gName 2) (tt := tYes) rfl sc_common.nd (pi_list (pv 0)) (blkOk_by (N := ["ratios", "den", "ratio"]) (sc := fnScope s_common) (by decide +kernel)) (fun _ _ _ _ _ => pg_name (i := 2) sc_common.nd rfl (by first | exact Or.inl rfl | exact Or.inr rfl)) (fun _ _ _ _ _ => pts_nil) (fun _ _ _ _ _ => (pe_op op_mulO (pe_fldK (K := K) (pv 2) rfl) (pe_op op_fdivG (pv 1) (pe_fldK (K := K) (pv 2) rfl))))) (pa_cons (pv 1) pa_nil))))))), ?_⟩
    have bound : ∀ i, comD (rs.take i) < 2 ^ 1800 := fun i => Nat.lt_of_le_of_lt (Nat.le_of_dvd hB0 (comD_of fun r hr => (hrs r (List.mem_of_mem_take hr)).2.1)) hB1
    have big : ∀ {n : Nat}, n < 2 ^ 1800 → n < 2 ^ 6000 := fun h => Nat.lt_trans h (Nat.pow_lt_pow_right (by decide) (by decide))
    have rbound : ∀ r ∈ rs, r.2.natAbs < 2 ^ 1800 := fun r hr => Nat.lt_of_le_of_lt (Nat.le_of_dvd hB0 (hrs r hr).2.1) hB1
    refine ⟨_, rfl, a, rfl, ⟨_, hS⟩, for_list (K := K) (a := a) (xs := ps.map V.ref) (fun i σ H' => H' = H ∧ ∃ o2, σ = [some (.ref a), some (.int ((comD (rs.take i) : Nat) : Int)), o2])
      ⟨rfl, none, rfl⟩ (fun i σ H' _ ⟨e, _⟩ => by rw [e]; exact hS) ?_ ?_⟩
    · rintro i x σ H' hi ⟨rfl, o2, rfl⟩
      obtain ⟨p, hp, rfl⟩ : ∃ p, ps[i]? = some p ∧ x = V.ref p := by
        rw [List.getElem?_map] at hi
        cases e : ps[i]? with
        | none => rw [e] at hi; cases hi
        | some p => rw [e] at hi; exact ⟨p, rfl, (Option.some.inj hi).symm⟩
      have hil : i < rs.length := by have := (List.getElem?_eq_some_iff.mp hp).1; omega
      have hr : rs[i]? = some rs[i] := List.getElem?_eq_getElem hil
      obtain ⟨dx, hpx⟩ := hrat i p _ hp hr
      have hm := List.getElem_mem hil
      refine ⟨_, rfl, _, rfl, p, C_Ratio, dx, _, _, rfl, hpx, T.cl_Ratio, T.a_Ratio_den, rf_den _ _, _, _, rfl, big (by rw [Int.natAbs_natCast]; exact bound i), big (rbound _ hm), ?_⟩
      refine ⟨rfl, some (.ref p), ?_⟩
      have e1 : rs.take (i + 1) = rs.take i ++ [rs[i]] := by rw [List.take_add_one, hr]; rfl
      rw [e1, comD_snoc]
      rfl
    · rintro σ H0 ⟨rfl, o2, rfl⟩
      have et : rs.take (ps.map V.ref).length = rs := by rw [List.length_map, hlen, List.take_length]
      rw [et]
      have hD := bound rs.length
      rw [List.take_length] at hD
      refine ⟨_, rfl, a, rfl, ⟨_, hS⟩, fun L hL => ?_⟩
      refine lc_list (K := K) (a := a) (xs := ps.map V.ref) (fun i H' => H' L = some (.lst (((comN rs).take i).map V.int)) ∧ Keep [] H0 H')
        ⟨upd_same, Keep.new hL⟩ (fun i H' _ ⟨_, kk⟩ => kk.seqL hS (by simp)) ?_ ?_
      · rintro i x H' hi ⟨hDL, kk⟩
        obtain ⟨p, hp, rfl⟩ : ∃ p, ps[i]? = some p ∧ x = V.ref p := by
          rw [List.getElem?_map] at hi
          cases e : ps[i]? with
          | none => rw [e] at hi; cases hi
          | some p => rw [e] at hi; exact ⟨p, rfl, (Option.some.inj hi).symm⟩
        have hil : i < rs.length := by have := (List.getElem?_eq_some_iff.mp hp).1; omega
        have hr : rs[i]? = some rs[i] := List.getElem?_eq_getElem hil
        obtain ⟨dx, hpx⟩ := (hrat i p _ hp hr).keep0 kk
        have hm := List.getElem_mem hil
        obtain ⟨hp0, hpd, hpn⟩ := hrs _ hm
        have hfd : ((((comD rs : Nat) : Int).fdiv rs[i].2)).natAbs < 2 ^ 1800 := by
          rw [Int.fdiv_eq_ediv_of_nonneg _ (by omega)]
          refine Nat.lt_of_le_of_lt (Int.natAbs_ediv_le_natAbs _ _) ?_
          rw [Int.natAbs_natCast]; exact hD
        have cd : CDivG ((comD rs : Nat) : Int) rs[i].2 := ⟨by omega, Nat.lt_trans (log2_lt9 (rbound _ hm) (by decide)) (by decide)⟩
        have cm : IntMulOk rs[i].1 (((comD rs : Nat) : Int).fdiv rs[i].2) := IntMulOk.of_le (m := 300) (n := 1800) (intBits_le_iff.mpr hpn) (intBits_le_iff.mpr hfd) (by decide)
        refine ⟨rfl, yes_then ⟨_, rfl, p, C_Ratio, dx, _, _, rfl, hpx, T.cl_Ratio, T.a_Ratio_num, rf_num _ _, _, rfl, _, rfl, p, C_Ratio, dx, _, _, rfl, hpx, T.cl_Ratio, T.a_Ratio_den, rf_den _ _, _, _, rfl, rfl, cd, _, _, rfl, rfl, cm, ?_⟩⟩
        refine ⟨_, hDL, by rw [List.length_map, List.length_take]; exact smallL (by omega), ?_, kk.then_own hL⟩
        have e1 : (comN rs)[i]? = some (rs[i].1 * (((comD rs : Nat) : Int).fdiv rs[i].2)) := by unfold comN; rw [List.getElem?_map, hr]; rfl
        rw [List.take_add_one, e1, List.map_append]
        exact upd_same
      · rintro H' ⟨hDL, kk⟩
        have e2 : (comN rs).take (ps.map V.ref).length = comN rs := by
          refine List.take_of_length_le ?_
          unfold comN; rw [List.length_map, List.length_map, hlen]; exact Nat.le_refl _
        rw [e2] at hDL
        refine ⟨_, rfl, by show 2 ≤ sizeLine; decide, fun t ht => ?_⟩
        exact k L t _ hL (kk.then_new ht) (by rw [upd_ne (ne_of_none hDL ht)]; exact hDL) upd_same
end

/-! trees of chances and turns -/
inductive TM where
  | fin
  | lot (ps : List TM)
  | turn (q : Nat) (es : List Ev) (ps : List TM)
mutual
def TM.hgt : TM → Nat
  | .fin => 0
  | .lot ps => hgts ps + 1
  | .turn _ _ ps => hgts ps + 1
def TM.hgts : List TM → Nat
  | [] => 0
  | m :: ms => Nat.max m.hgt (hgts ms)
end
mutual
def TM.nds : TM → Nat
  | .fin => 1
  | .lot ps => ndss ps + 1
  | .turn _ _ ps => ndss ps + 1
def TM.ndss : List TM → Nat
  | [] => 0
  | m :: ms => m.nds + ndss ms
end
theorem hgts_get : ∀ {ps : List TM} {i : Nat} {m : TM}, ps[i]? = some m → m.hgt ≤ TM.hgts ps
  | p :: ps, 0, m, h => by simp at h; subst h; exact Nat.le_max_left ..
  | p :: ps, i + 1, m, h => by simp at h; exact Nat.le_trans (hgts_get h) (Nat.le_max_right ..)
theorem ndss_app : ∀ ps qs : List TM, TM.ndss (ps ++ qs) = TM.ndss ps + TM.ndss qs
  | [], qs => by show _ = 0 + _; rw [Nat.zero_add]; rfl
  | p :: ps, qs => by show p.nds + TM.ndss (ps ++ qs) = p.nds + TM.ndss ps + TM.ndss qs; rw [ndss_app ps qs]; omega
theorem nds_pos : ∀ m : TM, 1 ≤ m.nds
  | .fin => Nat.le_refl _
  | .lot ps => Nat.le_add_left ..
  | .turn _ _ ps => Nat.le_add_left ..
theorem ndss_len : ∀ ps : List TM, ps.length ≤ TM.ndss ps
  | [] => Nat.le_refl _
  | p :: ps => by
    have h1 := nds_pos p
    have h2 := ndss_len ps
    show ps.length + 1 ≤ p.nds + TM.ndss ps
    omega
theorem ndss_take (ps : List TM) {i : Nat} {m : TM} (h : ps[i]? = some m) : TM.ndss (ps.take i) + m.nds ≤ TM.ndss ps := by
  have hi := (List.getElem?_eq_some_iff.mp h)
  obtain ⟨hi, e⟩ := hi
  have e2 : ps = ps.take i ++ (m :: ps.drop (i + 1)) := by
    rw [← e, List.getElem_cons_drop hi, List.take_append_drop]
  rw [e2, ndss_app]
  have e3 : (ps.take i ++ (m :: ps.drop (i + 1))).take i = ps.take i := by rw [← e2]
  rw [e3]
  show TM.ndss (ps.take i) + m.nds ≤ TM.ndss (ps.take i) + (m.nds + TM.ndss (ps.drop (i + 1)))
  omega
section
variable (CE CL CT : Addr)
mutual
def TA (H : Hp) : TM → V → Prop
  | .fin, v => ∃ p dx z, v = .ref p ∧ H p = some (.ins CE dx [("paid", z)])
  | .lot ps, v => ∃ p dx t vs, v = .ref p ∧ H p = some (.ins CL dx [("parts", .ref t)]) ∧ H t = some (.tup vs) ∧ TAs H ps vs
  | .turn q es ps, v => ∃ p dx w t vs, v = .ref p ∧ H p = some (.ins CT dx [("player", .int q), ("view", w), ("parts", .ref t)]) ∧ TD H w (dView es) ∧ H t = some (.tup vs) ∧ TAs H ps vs
def TAs (H : Hp) : List TM → List V → Prop
  | [], vs => vs = []
  | m :: ms, vs => ∃ v r, vs = v :: r ∧ TA H m v ∧ TAs H ms r
end
end
theorem Keep.made {H : Hp} {x d : Addr} {o : HO} (hx : H x = none) (hd : H d = none) : Keep [] H (upd (upd H d (.own x)) x o) := fun b u q _ => by
  rw [upd_ne (ne_of_none q hx), upd_ne (ne_of_none q hd)]; exact q
/-- tuples and instances stand -/
def KI (H H' : Hp) : Prop := (∀ b xs, H b = some (.tup xs) → H' b = some (.tup xs)) ∧ ∀ b C dx fs, H b = some (.ins C dx fs) → H' b = some (.ins C dx fs)
theorem KI.tk {H H' : Hp} (k : KI H H') : TK H H' := k.1
theorem KI.of {H H' : Hp} (k : Keep [] H H') : KI H H' := ⟨fun b xs h => k _ _ h (by simp), fun b C dx fs h => k _ _ h (by simp)⟩
theorem KI.trans {H H1 H2 : Hp} (a : KI H H1) (b : KI H1 H2) : KI H H2 := ⟨fun c xs h => b.1 _ _ (a.1 _ _ h), fun c C dx fs h => b.2 _ _ _ _ (a.2 _ _ _ _ h)⟩
theorem KI.at_ {H H' : Hp} {d : Addr} {o : HO} (hd : H d = some o) (k : Keep [d] H H') (h1 : ∀ xs, o ≠ .tup xs) (h2 : ∀ C dx fs, o ≠ .ins C dx fs) : KI H H' :=
  ⟨fun b xs h => k _ _ h (by intro z; rw [List.mem_singleton.mp z] at h; exact h1 _ (Option.some.inj (hd.symm.trans h))), fun b C dx fs h => k _ _ h (by intro z; rw [List.mem_singleton.mp z] at h; exact h2 _ _ _ (Option.some.inj (hd.symm.trans h)))⟩
theorem KI.lst {H : Hp} {d : Addr} {o : HO} {xs : List V} (hd : H d = some (.lst xs)) : KI H (upd H d o) := KI.at_ hd (Keep.at_ (by simp)) (fun _ z => nomatch z) (fun _ _ _ z => nomatch z)
mutual
theorem TA.ki {CE CL CT : Addr} {H H' : Hp} (k : KI H H') : ∀ (m : TM) {v : V}, TA CE CL CT H m v → TA CE CL CT H' m v
  | .fin, _, ⟨p, dx, z, e, h⟩ => ⟨p, dx, z, e, k.2 _ _ _ _ h⟩
  | .lot ps, _, ⟨p, dx, t, vs, e, h, ht, hs⟩ => ⟨p, dx, t, vs, e, k.2 _ _ _ _ h, k.1 _ _ ht, TAs.ki k ps hs⟩
  | .turn q es ps, _, ⟨p, dx, w, t, vs, e, h, hw, ht, hs⟩ => ⟨p, dx, w, t, vs, e, k.2 _ _ _ _ h, hw.tk k.1, k.1 _ _ ht, TAs.ki k ps hs⟩
theorem TAs.ki {CE CL CT : Addr} {H H' : Hp} (k : KI H H') : ∀ (ms : List TM) {vs : List V}, TAs CE CL CT H ms vs → TAs CE CL CT H' ms vs
  | [], _, h => h
  | m :: ms, _, ⟨v, r, e, h, hs⟩ => ⟨v, r, e, TA.ki k m h, TAs.ki k ms hs⟩
end
theorem TAs.get {CE CL CT : Addr} {H : Hp} : ∀ {ms : List TM} {vs : List V} {i : Nat} {v : V}, TAs CE CL CT H ms vs → vs[i]? = some v → ∃ m, ms[i]? = some m ∧ TA CE CL CT H m v
  | [], vs, i, v, h, e => by rw [show vs = [] from h] at e; simp at e
  | m :: ms, vs, 0, v, ⟨u, r, e1, h, hs⟩, e => by subst e1; simp at e; subst e; exact ⟨m, rfl, h⟩
  | m :: ms, vs, i + 1, v, ⟨u, r, e1, h, hs⟩, e => by subst e1; simp at e; obtain ⟨n, a, b⟩ := TAs.get hs e; exact ⟨n, by simpa using a, b⟩
theorem TAs.len {CE CL CT : Addr} {H : Hp} : ∀ {ms : List TM} {vs : List V}, TAs CE CL CT H ms vs → vs.length = ms.length
  | [], vs, h => by rw [show vs = [] from h]; rfl
  | m :: ms, vs, ⟨u, r, e1, h, hs⟩ => by rw [e1, List.length_cons, List.length_cons, TAs.len hs]
theorem TAs.app {CE CL CT : Addr} {H : Hp} : ∀ {ms ns : List TM} {vs ws : List V}, TAs CE CL CT H ms vs → TAs CE CL CT H ns ws → TAs CE CL CT H (ms ++ ns) (vs ++ ws)
  | [], ns, vs, ws, h, g => by rw [show vs = [] from h]; exact g
  | m :: ms, ns, vs, ws, ⟨u, r, e1, h, hs⟩, g => ⟨u, r ++ ws, by rw [e1]; rfl, h, TAs.app hs g⟩
theorem TAs.snoc {CE CL CT : Addr} {H : Hp} {ms : List TM} {vs : List V} {m : TM} {v : V} (h : TAs CE CL CT H ms vs) (g : TA CE CL CT H m v) : TAs CE CL CT H (ms ++ [m]) (vs ++ [v]) := h.app ⟨v, [], rfl, g, rfl⟩
theorem TAs.rev {CE CL CT : Addr} {H : Hp} : ∀ {ms : List TM} {vs : List V}, TAs CE CL CT H ms vs → TAs CE CL CT H ms.reverse vs.reverse
  | [], vs, h => by rw [show vs = [] from h]; rfl
  | m :: ms, vs, ⟨u, r, e1, h, hs⟩ => by rw [e1, List.reverse_cons, List.reverse_cons]; exact (TAs.rev hs).snoc h
/-! the views that one player meets, in order -/
def insV (f : List Row) (r : Row) : List Row := if f.any (fun x => decide (x.1 = r.1)) = true then f else f ++ [r]
mutual
def coll (pl : Nat) : TM → List Row → List Row
  | .fin, f => f
  | .lot ps, f => colls pl ps f
  | .turn q es ps, f => colls pl ps (if q = pl then insV f (es, (ps.length : Int)) else f)
def colls (pl : Nat) : List TM → List Row → List Row
  | [], f => f
  | m :: ms, f => colls pl ms (coll pl m f)
end
theorem colls_app (pl : Nat) : ∀ (ps qs : List TM) (f : List Row), colls pl (ps ++ qs) f = colls pl qs (colls pl ps f)
  | [], _, _ => rfl
  | _ :: ps, qs, f => colls_app pl ps qs _
theorem insV_len (f : List Row) (r : Row) : (insV f r).length ≤ f.length + 1 := by
  unfold insV
  split
  · omega
  · simp
mutual
theorem coll_len (pl : Nat) : ∀ (m : TM) (f : List Row), (coll pl m f).length ≤ f.length + m.nds
  | .fin, f => Nat.le_add_right ..
  | .lot ps, f => by
    have := colls_len pl ps f
    show (colls pl ps f).length ≤ f.length + (TM.ndss ps + 1)
    omega
  | .turn q es ps, f => by
    have := colls_len pl ps (if q = pl then insV f (es, (ps.length : Int)) else f)
    have h2 : (if q = pl then insV f (es, (ps.length : Int)) else f).length ≤ f.length + 1 := by
      split
      · exact insV_len ..
      · omega
    show (colls pl ps _).length ≤ f.length + (TM.ndss ps + 1)
    omega
theorem colls_len (pl : Nat) : ∀ (ms : List TM) (f : List Row), (colls pl ms f).length ≤ f.length + TM.ndss ms
  | [], f => Nat.le_add_right ..
  | m :: ms, f => by
    have h1 := coll_len pl m f
    have h2 := colls_len pl ms (coll pl m f)
    show (colls pl ms (coll pl m f)).length ≤ f.length + (m.nds + TM.ndss ms)
    omega
end
/-! a tree whose players remember: their last rows at each turn are the given ones -/
mutual
def keepsM : TM → Option Row → Option Row → Bool
  | .fin, _, _ => true
  | .lot ps, a, b => keepsL ps a b
  | .turn q es ps, a, b => decide (lastRow es = if q = 1 then a else b) && keepsT q es 0 ps a b
def keepsL : List TM → Option Row → Option Row → Bool
  | [], _, _ => true
  | m :: ms, a, b => keepsM m a b && keepsL ms a b
def keepsT (q : Nat) (es : List Ev) : Nat → List TM → Option Row → Option Row → Bool
  | _, [], _, _ => true
  | k, m :: ms, a, b => (if q = 1 then keepsM m (some (es, (k : Int))) b else keepsM m a (some (es, (k : Int)))) && keepsT q es (k + 1) ms a b
end
/-! keys -/
def keyE (e : Ev) : NestedKey := .tup (.text e.1 :: e.2.map .num)
def keyV (L : List Ev) : NestedKey := .tup (L.map keyE)
theorem nk_ints {H : Hp} : ∀ l : List Int, NKs H (l.map NestedKey.num) (l.map V.int)
  | [] => .nil
  | a :: r => .cons (.num a) (nk_ints r)
theorem tds_ints {H : Hp} : ∀ {l : List Int} {vs : List V}, TDs H vs (l.map PyData.int) → vs = l.map V.int
  | [], _, h => by cases h; rfl
  | a :: r, _, h => by
    cases h with
    | cons h1 h2 => cases h1; rw [tds_ints h2]; rfl
theorem nk_ev {H : Hp} {v : V} {e : Ev} (h : TD H v (dEv e)) : NK H (keyE e) v := by
  unfold dEv at h
  cases h with
  | tup h1 h2 =>
    cases h2 with
    | cons h3 h4 =>
      cases h3
      rw [tds_ints h4] at h1
      exact .tup h1 (.cons (.text _) (nk_ints _))
theorem nk_evs {H : Hp} : ∀ {L : List Ev} {vs : List V}, TDs H vs (L.map dEv) → NKs H (L.map keyE) vs
  | [], _, h => by cases h; exact .nil
  | e :: L, _, h => by
    cases h with
    | cons h1 h2 => exact .cons (nk_ev h1) (nk_evs h2)
theorem nk_view {H : Hp} {v : V} {L : List Ev} (h : TD H v (dView L)) : NK H (keyV L) v := by
  unfold dView at h
  cases h with
  | tup h1 h2 => exact .tup h1 (nk_evs h2)
theorem keyI_inj : ∀ {l m : List Int}, l.map NestedKey.num = m.map NestedKey.num → l = m
  | [], [], _ => rfl
  | [], _ :: _, h => by simp at h
  | _ :: _, [], h => by simp at h
  | a :: l, b :: m, h => by
    simp only [List.map_cons, List.cons.injEq, NestedKey.num.injEq] at h
    rw [h.1, keyI_inj h.2]
theorem keyE_inj {e f : Ev} (h : keyE e = keyE f) : e = f := by
  unfold keyE at h
  simp only [NestedKey.tup.injEq, List.cons.injEq, NestedKey.text.injEq] at h
  exact Prod.ext h.1 (keyI_inj h.2)
theorem keyEs_inj : ∀ {l m : List Ev}, l.map keyE = m.map keyE → l = m
  | [], [], _ => rfl
  | [], _ :: _, h => by simp at h
  | _ :: _, [], h => by simp at h
  | a :: l, b :: m, h => by
    simp only [List.map_cons, List.cons.injEq] at h
    rw [keyE_inj h.1, keyEs_inj h.2]
theorem keyV_inj {l m : List Ev} (h : keyV l = keyV m) : l = m := keyEs_inj (NestedKey.tup.inj h)
theorem depth_ks : ∀ l : List Int, NestedKey.depthAll (l.map NestedKey.num) = 0
  | [] => rfl
  | a :: r => by
    show max 0 (NestedKey.depthAll (r.map NestedKey.num)) = 0
    rw [depth_ks r]; rfl
theorem depth_ke (e : Ev) : (keyE e).depth = 1 := by
  show max 0 (NestedKey.depthAll (e.2.map NestedKey.num)) + 1 = 1
  rw [depth_ks]; rfl
theorem depth_kes : ∀ L : List Ev, NestedKey.depthAll (L.map keyE) ≤ 1
  | [] => Nat.zero_le _
  | e :: L => by
    show max (keyE e).depth (NestedKey.depthAll (L.map keyE)) ≤ 1
    rw [depth_ke]
    exact Nat.max_le.mpr ⟨Nat.le_refl _, depth_kes L⟩
theorem depth_kv (L : List Ev) : (keyV L).depth ≤ 8 := by
  have := depth_kes L
  show NestedKey.depthAll (L.map keyE) + 1 ≤ 8
  omega
/-! the dict of views -/
inductive FE (H : Hp) : List Ent → List Row → Prop
  | nil : FE H [] []
  | cons {b : Addr} {xs : List Ent} {f : List Row} {r : Row} : TD H (.ref b) (dView r.1) → FE H xs f → FE H ((keyV r.1, b, .int r.2) :: xs) (r :: f)
theorem FE.tk {H H' : Hp} (k : TK H H') {xs : List Ent} {f : List Row} (h : FE H xs f) : FE H' xs f := by
  induction h with
  | nil => exact .nil
  | cons h _ ih => exact .cons (h.tk k) ih
theorem FE.len {H : Hp} {xs : List Ent} {f : List Row} (h : FE H xs f) : xs.length = f.length := by
  induction h with
  | nil => rfl
  | cons _ _ ih => rw [List.length_cons, List.length_cons, ih]
theorem FE.snoc {H : Hp} {xs : List Ent} {f : List Row} {b : Addr} {r : Row} (h : FE H xs f) (hb : TD H (.ref b) (dView r.1)) : FE H (xs ++ [(keyV r.1, b, .int r.2)]) (f ++ [r]) := by
  induction h with
  | nil => exact .cons hb .nil
  | cons h _ ih => exact .cons h ih
theorem FE.get {H : Hp} {xs : List Ent} {f : List Row} (h : FE H xs f) : ∀ {i : Nat} {x : Ent}, xs[i]? = some x → ∃ r, f[i]? = some r ∧ x.2.2 = .int r.2 ∧ TD H (.ref x.2.1) (dView r.1) := by
  induction h with
  | nil => intro i x e; simp at e
  | @cons b xs f r h _ ih =>
    intro i x e
    cases i with
    | zero => simp at e; subst e; exact ⟨r, rfl, rfl, h⟩
    | succ j => simp at e; obtain ⟨q, a, b⟩ := ih e; exact ⟨q, by simpa using a, b⟩
theorem FE.val {H : Hp} {xs : List Ent} {f : List Row} (h : FE H xs f) (L : List Ev) : (valN xs (keyV L)).isSome = f.any (fun x => decide (x.1 = L)) := by
  induction h with
  | nil => rfl
  | @cons b xs f r h _ ih =>
    by_cases e : r.1 = L
    · have e1 : keyV r.1 = keyV L := by rw [e]
      rw [valN_pos (p := (keyV r.1, b, .int r.2)) e1]
      simp [e]
    · have e1 : ¬ keyV r.1 = keyV L := fun z => e (keyV_inj z)
      rw [valN_neg (p := (keyV r.1, b, .int r.2)) e1, ih]
      simp [e]
def FD (P : Program) (w : World) (H : Hp) (d : Addr) (f : List Row) : Prop := ∃ xs, H d = some (ndO P w d xs) ∧ FE H xs f
theorem FE.nk {H : Hp} {xs : List Ent} {f : List Row} (h : FE H xs f) : ∀ x ∈ xs, NK H x.1 (.ref x.2.1) ∧ x.1.depth ≤ 8 := by
  induction h with
  | nil => intro x hx; cases hx
  | @cons b xs f r h _ ih =>
    intro x hx
    rcases List.mem_cons.mp hx with e | e
    · subst e; exact ⟨nk_view h, depth_kv _⟩
    · exact ih x e
theorem FD.keep {P : Program} {w : World} {H H' : Hp} {d : Addr} {f : List Row} (h : FD P w H d f) (k : Keep [] H H') : FD P w H' d f := by
  obtain ⟨xs, h1, h2⟩ := h
  exact ⟨xs, k _ _ h1 (by simp), h2.tk k.tk⟩
theorem FD.ki {P : Program} {w : World} {H H' : Hp} {d : Addr} {f : List Row} (h : FD P w H d f) (k : Keep [d] H H') : KI H H' := by
  obtain ⟨xs, h1, h2⟩ := h
  exact KI.at_ h1 k (fun _ z => nomatch z) (fun _ _ _ z => nomatch z)
theorem TA.form {CE CL CT : Addr} {H : Hp} : ∀ {tm : TM} {v : V}, TA CE CL CT H tm v → (tm = .fin ∧ ∃ p dx z, v = .ref p ∧ H p = some (.ins CE dx [("paid", z)])) ∨
    ∃ C p dx t fs vs ps, v = .ref p ∧ H p = some (.ins C dx fs) ∧ fs.lookup ("parts" : Str) = some (.ref t) ∧ H t = some (.tup vs) ∧ TAs CE CL CT H ps vs ∧ TM.hgts ps < tm.hgt ∧ TM.ndss ps < tm.nds ∧
      ((C = CL ∧ tm = .lot ps) ∨ (C = CT ∧ ∃ q es wv, tm = .turn q es ps ∧ fs.lookup ("player" : Str) = some (.int (q : Nat)) ∧ fs.lookup ("view" : Str) = some wv ∧ TD H wv (dView es)))
  | .fin, v, ⟨p, dx, z, e, h⟩ => .inl ⟨rfl, p, dx, z, e, h⟩
  | .lot ps, v, ⟨p, dx, t, vs, e, h, ht, hs⟩ => .inr ⟨CL, p, dx, t, _, vs, ps, e, h, rfl, ht, hs, Nat.lt_succ_self _, Nat.lt_succ_self _, .inl ⟨rfl, rfl⟩⟩
  | .turn q es ps, v, ⟨p, dx, w, t, vs, e, h, hw, ht, hs⟩ => .inr ⟨CT, p, dx, t, _, vs, ps, e, h, rfl, ht, hs, Nat.lt_succ_self _, Nat.lt_succ_self _, .inr ⟨rfl, q, es, w, rfl, rfl, rfl, hw⟩⟩

/-! lots and plans -/
structure RtOk (r : Rt) : Prop where
  pos : 0 < r.2
  one : Nat.gcd r.1.natAbs r.2.natAbs = 1
  n : r.1.natAbs < 2 ^ 300
  d : r.2.natAbs < 2 ^ 300
inductive RL (C : Addr) (H : Hp) : List V → List Rt → Prop
  | nil : RL C H [] []
  | cons {p : Addr} {r : Rt} {vs : List V} {rs : List Rt} : RatAt C H p r.1 r.2 → RL C H vs rs → RL C H (.ref p :: vs) (r :: rs)
theorem RL.keep {C : Addr} {H H' : Hp} (k : KI H H') {vs : List V} {rs : List Rt} (h : RL C H vs rs) : RL C H' vs rs := by
  induction h with
  | nil => exact .nil
  | cons h _ ih =>
    obtain ⟨dx, h⟩ := h
    exact .cons ⟨dx, k.2 _ _ _ _ h⟩ ih
theorem RL.keepx {C CP x dx : Addr} {H H' : Hp} (k : Keep [x] H H') (hx : H x = some (.ins CP dx [])) {vs : List V} {rs : List Rt} (h : RL C H vs rs) : RL C H' vs rs := by
  induction h with
  | nil => exact .nil
  | @cons p r vs rs h _ ih =>
    obtain ⟨dx', h⟩ := h
    refine .cons ⟨dx', k _ _ h ?_⟩ ih
    intro z
    rw [List.mem_singleton.mp z, hx] at h
    have e := (HO.ins.inj (Option.some.inj h)).2.2
    have := rf_num r.1 r.2
    rw [← e] at this
    cases this
theorem RL.len {C : Addr} {H : Hp} {vs : List V} {rs : List Rt} (h : RL C H vs rs) : vs.length = rs.length := by
  induction h with
  | nil => rfl
  | cons _ _ ih => rw [List.length_cons, List.length_cons, ih]
theorem RL.snoc {C : Addr} {H : Hp} {vs : List V} {rs : List Rt} {p : Addr} {r : Rt} (h : RL C H vs rs) (hp : RatAt C H p r.1 r.2) : RL C H (vs ++ [.ref p]) (rs ++ [r]) := by
  induction h with
  | nil => exact .cons hp .nil
  | cons h _ ih => exact .cons h ih
theorem RL.get {C : Addr} {H : Hp} {vs : List V} {rs : List Rt} (h : RL C H vs rs) : ∀ {i : Nat} {r : Rt}, rs[i]? = some r → ∃ p, vs[i]? = some (.ref p) ∧ RatAt C H p r.1 r.2 := by
  induction h with
  | nil => intro i r e; simp at e
  | @cons p r vs rs h _ ih =>
    intro i q e
    cases i with
    | zero => simp at e; subst e; exact ⟨p, rfl, h⟩
    | succ j => simp at e; obtain ⟨p', a, b⟩ := ih e; exact ⟨p', by simpa using a, b⟩
theorem RL.refs {C : Addr} {H : Hp} {vs : List V} {rs : List Rt} (h : RL C H vs rs) : ∃ ps : List Addr, vs = ps.map V.ref ∧ ps.length = rs.length ∧ ∀ (i : Nat) p r, ps[i]? = some p → rs[i]? = some r → RatAt C H p r.1 r.2 := by
  induction h with
  | nil => exact ⟨[], rfl, rfl, fun i p r e => by simp at e⟩
  | @cons p r vs rs h _ ih =>
    obtain ⟨ps, h1, h2, h3⟩ := ih
    refine ⟨p :: ps, by rw [h1]; rfl, by rw [List.length_cons, List.length_cons, h2], fun i q s e1 e2 => ?_⟩
    cases i with
    | zero => simp at e1 e2; subst e1 e2; exact h
    | succ j => exact h3 j q s (by simpa using e1) (by simpa using e2)
def LA (C : Addr) (H : Hp) (a : Addr) (rs : List Rt) : Prop := ∃ vs, H a = some (.lst vs) ∧ RL C H vs rs
theorem LA.keep {C : Addr} {H H' : Hp} {a : Addr} {rs : List Rt} (h : LA C H a rs) (k : Keep [] H H') : LA C H' a rs := by
  obtain ⟨vs, h1, h2⟩ := h
  exact ⟨vs, k _ _ h1 (by simp), h2.keep (KI.of k)⟩
/-- lots that a plan takes -/
structure LotsOk (rs : List Rt) : Prop where
  B : ∃ B : Nat, 0 < B ∧ B < 2 ^ 1800 ∧ ∀ r ∈ rs, 0 < r.2 ∧ r.2.natAbs ∣ B ∧ r.1.natAbs < 2 ^ 300
  sum : (comN rs).sum = (comD rs : Nat)
  nn : ∀ n ∈ comN rs, 0 ≤ n
  ne : rs ≠ []
  len : rs.length ≤ 1000
abbrev Ent2 := List Ev × List Rt
inductive PE (C : Addr) (H : Hp) : List Ent → List Ent2 → Prop
  | nil : PE C H [] []
  | cons {b l : Addr} {xs : List Ent} {t : List Ent2} {L : List Ev} {rs : List Rt} : TD H (.ref b) (dView L) → LA C H l rs → PE C H xs t → PE C H ((keyV L, b, .ref l) :: xs) ((L, rs) :: t)
def look (t : List Ent2) (L : List Ev) : Option (List Rt) := (t.find? fun e => decide (e.1 = L)).map (·.2)
theorem PE.look {C : Addr} {H : Hp} {xs : List Ent} {t : List Ent2} (h : PE C H xs t) (L : List Ev) : (∃ rs l, look t L = some rs ∧ valN xs (keyV L) = some (.ref l) ∧ LA C H l rs) ∨ (look t L = none ∧ valN xs (keyV L) = none) := by
  induction h with
  | nil => exact .inr ⟨rfl, rfl⟩
  | @cons b l xs t M rs hb hl _ ih =>
    by_cases e : M = L
    · have e1 : keyV M = keyV L := by rw [e]
      refine .inl ⟨rs, l, ?_, valN_pos (p := (keyV M, b, .ref l)) e1, hl⟩
      unfold My.look
      rw [List.find?_cons, decide_eq_true e]; rfl
    · have e1 : ¬ keyV M = keyV L := fun z => e (keyV_inj z)
      rw [valN_neg (p := (keyV M, b, .ref l)) e1]
      have e2 : My.look ((M, rs) :: t) L = My.look t L := by
        unfold My.look
        rw [List.find?_cons, decide_eq_false e]
      rw [e2]
      exact ih
theorem PE.nk {C : Addr} {H : Hp} {xs : List Ent} {t : List Ent2} (h : PE C H xs t) : ∀ x ∈ xs, NK H x.1 (.ref x.2.1) ∧ x.1.depth ≤ 8 := by
  induction h with
  | nil => intro x hx; cases hx
  | cons hb _ _ ih =>
    intro x hx
    rcases List.mem_cons.mp hx with e | e
    · subst e; exact ⟨nk_view hb, depth_kv _⟩
    · exact ih x e
theorem PE.keep {C : Addr} {H H' : Hp} (k : KI H H') (kl : ∀ b ys, H b = some (.lst ys) → H' b = some (.lst ys)) {xs : List Ent} {t : List Ent2} (h : PE C H xs t) : PE C H' xs t := by
  induction h with
  | nil => exact .nil
  | cons hb hl _ ih =>
    obtain ⟨vs, h1, h2⟩ := hl
    exact .cons (hb.tk k.tk) ⟨vs, kl _ _ h1, h2.keep k⟩ ih
theorem PE.snoc {C : Addr} {H : Hp} {xs : List Ent} {t : List Ent2} {b l : Addr} {L : List Ev} {rs : List Rt} (h : PE C H xs t) (hb : TD H (.ref b) (dView L)) (hl : LA C H l rs) : PE C H (xs ++ [(keyV L, b, .ref l)]) (t ++ [(L, rs)]) := by
  induction h with
  | nil => exact .cons hb hl .nil
  | cons a b' _ ih => exact .cons a b' ih
theorem PE.len {C : Addr} {H : Hp} {xs : List Ent} {t : List Ent2} (h : PE C H xs t) : xs.length = t.length := by
  induction h with
  | nil => rfl
  | cons _ _ _ ih => rw [List.length_cons, List.length_cons, ih]
def PlanAt (P : Program) (w : World) (CP CR : Addr) (H : Hp) (x : Addr) (t : List Ent2) : Prop := ∃ dx d xs, H x = some (.ins CP dx [("table", .ref d)]) ∧ H d = some (ndO P w d xs) ∧ PE CR H xs t
theorem PlanAt.keep {P : Program} {w : World} {CP CR : Addr} {H H' : Hp} {x : Addr} {t : List Ent2} (h : PlanAt P w CP CR H x t) (k : Keep [] H H') : PlanAt P w CP CR H' x t := by
  obtain ⟨dx, d, xs, h1, h2, h3⟩ := h
  exact ⟨dx, d, xs, k _ _ h1 (by simp), k _ _ h2 (by simp), h3.keep (KI.of k) fun b ys q => k _ _ q (by simp)⟩
/-- the entries that are given: pairs of a view and a list of lots -/
inductive GL (C : Addr) (H : Hp) : List V → List Ent2 → Prop
  | nil : GL C H [] []
  | cons {q l : Addr} {vw : V} {vs : List V} {t : List Ent2} {L : List Ev} {rs : List Rt} : H q = some (.tup [vw, .ref l]) → TD H vw (dView L) → LA C H l rs → GL C H vs t → GL C H (.ref q :: vs) ((L, rs) :: t)
theorem GL.keep {C : Addr} {H H' : Hp} (k : KI H H') (kl : ∀ b ys, H b = some (.lst ys) → H' b = some (.lst ys)) {vs : List V} {t : List Ent2} (h : GL C H vs t) : GL C H' vs t := by
  induction h with
  | nil => exact .nil
  | cons hq hv hl _ ih =>
    obtain ⟨us, h1, h2⟩ := hl
    exact .cons (k.1 _ _ hq) (hv.tk k.tk) ⟨us, kl _ _ h1, h2.keep k⟩ ih
theorem GL.len {C : Addr} {H : Hp} {vs : List V} {t : List Ent2} (h : GL C H vs t) : vs.length = t.length := by
  induction h with
  | nil => rfl
  | cons _ _ _ _ ih => rw [List.length_cons, List.length_cons, ih]
theorem GL.snoc {C : Addr} {H : Hp} {vs : List V} {t : List Ent2} {q l : Addr} {vw : V} {L : List Ev} {rs : List Rt} (h : GL C H vs t) (hq : H q = some (.tup [vw, .ref l])) (hv : TD H vw (dView L)) (hl : LA C H l rs) : GL C H (vs ++ [.ref q]) (t ++ [(L, rs)]) := by
  induction h with
  | nil => exact .cons hq hv hl .nil
  | cons a b c _ ih => exact .cons a b c ih
theorem GL.get {C : Addr} {H : Hp} {vs : List V} {t : List Ent2} (h : GL C H vs t) : ∀ {i : Nat} {v : V}, vs[i]? = some v → ∃ q l vw L rs, v = .ref q ∧ t[i]? = some (L, rs) ∧ H q = some (.tup [vw, .ref l]) ∧ TD H vw (dView L) ∧ LA C H l rs := by
  induction h with
  | nil => intro i v e; simp at e
  | @cons q l vw vs t L rs a b c _ ih =>
    intro i v e
    cases i with
    | zero => simp at e; subst e; exact ⟨q, l, vw, L, rs, rfl, rfl, a, b, c⟩
    | succ j => simp at e; obtain ⟨q', l', vw', L', rs', e1, e2, e3, e4, e5⟩ := ih e; exact ⟨q', l', vw', L', rs', e1, by simpa using e2, e3, e4, e5⟩
def rs0 (c : Nat) : List Rt := (List.range c).map fun k => (if k = 0 then (1 : Int) else 0, (1 : Int))
def lotsAt (t : List Ent2) (L : List Ev) (c : Nat) : List Rt := match look t L with
  | some rs => if rs.length = c then rs else rs0 c
  | none => rs0 c
def sp_are_lots (C : Addr) : Sp := fun vs H Q _ => ∃ (a : Addr) (rs : List Rt), vs = [.ref a] ∧ LA C H a rs ∧ LotsOk rs ∧ ∀ H', Keep [] H H' → Q (.bl true) H'
def sp_plan (P : Program) (w : World) (CP CR : Addr) : Sp := fun vs H Q _ => ∃ (x dx a : Addr) (es : List V) (t : List Ent2), vs = [.ref x, .ref a] ∧ H x = some (.ins CP dx []) ∧ H a = some (.lst es) ∧ GL CR H es t ∧ (∀ e ∈ t, LotsOk e.2) ∧ (t.map (·.1)).Nodup ∧ t.length ≤ 1000 ∧ ∀ H', PlanAt P w CP CR H' x t → Keep [x] H H' → Q .non H'
def sp_lots_at (P : Program) (w : World) (CP CR : Addr) : Sp := fun vs H Q _ => ∃ (x : Addr) (v : V) (t : List Ent2) (L : List Ev) (c : Nat), vs = [.ref x, v, .int c] ∧ PlanAt P w CP CR H x t ∧ TD H v (dView L) ∧ c ≤ 1000 ∧ (∀ e ∈ t, e.2.length ≤ 1000) ∧ ∀ l H', H l = none → LA CR H' l (lotsAt t L c) → Keep [] H H' → Q (.ref l) H'
theorem red_one (n : Int) : redN n 1 = n ∧ redD n 1 = 1 := by
  have e : sg n 1 = 1 := by unfold sg; rw [if_neg (by decide)]; show ((Nat.gcd n.natAbs 1 : Nat) : Int) = 1; rw [Nat.gcd_one_right]; rfl
  unfold redN redD
  rw [e]
  exact ⟨Int.fdiv_one n, rfl⟩
theorem rs0_succ (i : Nat) : rs0 (i + 1) = rs0 i ++ [(if i = 0 then (1 : Int) else 0, (1 : Int))] := by
  unfold rs0
  rw [List.range_succ, List.map_append]; rfl
theorem rs0_len (c : Nat) : (rs0 c).length = c := by unfold rs0; rw [List.length_map, List.length_range]
theorem lotsAt_some {t : List Ent2} {L : List Ev} {c : Nat} {rs : List Rt} (h : look t L = some rs) (hl : rs.length = c) : lotsAt t L c = rs := by unfold lotsAt; rw [h]; exact if_pos hl
theorem lotsAt_not {t : List Ent2} {L : List Ev} {c : Nat} {rs : List Rt} (h : look t L = some rs) (hl : rs.length ≠ c) : lotsAt t L c = rs0 c := by unfold lotsAt; rw [h]; exact if_neg hl
theorem lotsAt_none {t : List Ent2} {L : List Ev} {c : Nat} (h : look t L = none) : lotsAt t L c = rs0 c := by unfold lotsAt; rw [h]

/-! entries of weights over a whole -/
abbrev WT := List Ev × List Int × Int
def wri (ws : List Int) (W : Int) : List Rt := ws.map fun w => (redN w W, redD w W)
def lotB (ws : List Int) (W : Int) : Bool := decide (ws.sum = W) && ws.all fun w => decide (0 ≤ w)
structure WK (ws : List Int) (W : Int) : Prop where
  pos : 1 ≤ W
  len : ws.length ≤ 5
  sm : ∀ w ∈ ws, w.natAbs < 2 ^ 200
  W : W.natAbs < 2 ^ 200
theorem wri_length (ws : List Int) (W : Int) : (wri ws W).length = ws.length := by unfold wri; rw [List.length_map]
theorem wri_dvd {ws : List Int} {W : Int} (h : 1 ≤ W) : ∀ r ∈ wri ws W, r.2.natAbs ∣ W.natAbs := fun r hr => by
  obtain ⟨w, _, rfl⟩ := List.mem_map.mp hr
  have := red_dvd (n := w) (d := W) (by omega)
  rwa [← Int.natAbs_dvd_natAbs] at this
theorem wri_small {ws : List Int} {W : Int} (h : WK ws W) : ∀ r ∈ wri ws W, 0 < r.2 ∧ r.2.natAbs ∣ W.natAbs ∧ r.1.natAbs < 2 ^ 300 := fun r hr => by
  have hd := wri_dvd h.pos r hr
  obtain ⟨w, hw, rfl⟩ := List.mem_map.mp hr
  have hp := h.pos
  refine ⟨redD_pos (by omega), hd, ?_⟩
  have h1 := red_abs_n (n := w) (d := W) (by omega)
  exact Nat.lt_of_le_of_lt h1 (Nat.lt_trans (h.sm w hw) (Nat.pow_lt_pow_right (by decide) (by decide)))
theorem comD_pos {ws : List Int} {W : Int} (h : 1 ≤ W) : 0 < comD (wri ws W) := Nat.pos_of_dvd_of_pos (comD_of (wri_dvd h)) (by omega)
def cN (ws : List Int) (W : Int) (w : Int) : Int := redN w W * ((comD (wri ws W) : Nat) : Int).fdiv (redD w W)
theorem comN_wri (ws : List Int) (W : Int) : comN (wri ws W) = ws.map (cN ws W) := by
  show (ws.map _).map _ = _
  rw [List.map_map]; rfl
theorem cN_mul {ws : List Int} {W : Int} (h : 1 ≤ W) {w : Int} (hw : w ∈ ws) : cN ws W w * W = w * ((comD (wri ws W) : Nat) : Int) := by
  have hr : (redN w W, redD w W) ∈ wri ws W := List.mem_map.mpr ⟨w, hw, rfl⟩
  have h1 : (redD w W).natAbs ∣ comD (wri ws W) := comD_mem hr
  have h2 : redD w W ∣ ((comD (wri ws W) : Nat) : Int) := by
    rw [← Int.natAbs_dvd_natAbs]; simpa using h1
  obtain ⟨q, hq⟩ := h2
  have hne : redD w W ≠ 0 := by have := redD_pos (n := w) (d := W) (by omega); omega
  unfold cN
  rw [fdiv_of_mul hne hq]
  have hc := red_cross (n := w) (d := W) (by omega)
  rw [hq]
  calc redN w W * q * W = (redN w W * W) * q := by rw [Int.mul_assoc, Int.mul_comm q, ← Int.mul_assoc]
    _ = (w * redD w W) * q := by rw [hc]
    _ = w * (redD w W * q) := Int.mul_assoc ..
theorem cN_sum {ws : List Int} {W : Int} (h : 1 ≤ W) : (comN (wri ws W)).sum * W = ws.sum * ((comD (wri ws W) : Nat) : Int) := by
  rw [comN_wri]
  have all : ∀ us : List Int, (∀ u ∈ us, u ∈ ws) → (us.map (cN ws W)).sum * W = us.sum * ((comD (wri ws W) : Nat) : Int) := by
    intro us
    induction us with
    | nil => intro _; simp
    | cons u us ih =>
      intro hu
      rw [List.map_cons, List.sum_cons, List.sum_cons, Int.add_mul, ih fun x hx => hu x (List.mem_cons_of_mem _ hx), cN_mul h (hu u (List.mem_cons_self ..)), Int.add_mul]
  exact all ws fun _ h => h
theorem sum_iff {ws : List Int} {W : Int} (h : 1 ≤ W) : (comN (wri ws W)).sum = ((comD (wri ws W) : Nat) : Int) ↔ ws.sum = W := by
  have e := cN_sum (ws := ws) h
  have hp := comD_pos (ws := ws) h
  constructor
  · intro z
    rw [z, Int.mul_comm] at e
    exact (Int.eq_of_mul_eq_mul_right (by omega) e).symm
  · intro z
    rw [z, Int.mul_comm W] at e
    exact Int.eq_of_mul_eq_mul_right (by omega) e
theorem nn_iff {ws : List Int} {W : Int} (h : 1 ≤ W) {w : Int} (hw : w ∈ ws) : 0 ≤ cN ws W w ↔ 0 ≤ w := by
  have e := cN_mul h hw
  have hp : (0 : Int) < ((comD (wri ws W) : Nat) : Int) := by have := comD_pos (ws := ws) h; omega
  constructor
  · intro z
    rcases Int.lt_or_le w 0 with q | q
    · have h1 := Int.mul_neg_of_neg_of_pos q hp
      have h2 : 0 ≤ cN ws W w * W := Int.mul_nonneg z (by omega)
      omega
    · exact q
  · intro z
    rcases Int.lt_or_le (cN ws W w) 0 with q | q
    · have h1 := Int.mul_neg_of_neg_of_pos q (show (0 : Int) < W by omega)
      have h2 : 0 ≤ w * ((comD (wri ws W) : Nat) : Int) := Int.mul_nonneg z (by omega)
      omega
    · exact q
theorem all_nn {ws : List Int} {W : Int} (h : 1 ≤ W) : ((comN (wri ws W)).all fun n => decide (0 ≤ n)) = ws.all fun w => decide (0 ≤ w) := by
  rw [comN_wri, List.all_map, Bool.eq_iff_iff, List.all_eq_true, List.all_eq_true]
  constructor
  · intro z w hw
    exact decide_eq_true ((nn_iff h hw).mp (of_decide_eq_true (z w hw)))
  · intro z w hw
    exact decide_eq_true ((nn_iff h hw).mpr (of_decide_eq_true (z w hw)))
/-! the first entry that is none -/
def tabI (es : List WT) : List Ent2 := es.map fun e => (e.1, wri e.2.1 e.2.2)
def badI (es : List WT) (i : Nat) : Bool := match es[i]? with
  | some e => decide (e.1 ∈ (es.take i).map (·.1)) || (decide (e.2.1 = []) || !lotB e.2.1 e.2.2)
  | none => false
def badAt (es : List WT) : Option Nat := (List.range es.length).find? (badI es)
theorem badAt_some {es : List WT} {k : Nat} (hk : k < es.length) (hb : badI es k = true) (h : ∀ j, j < k → badI es j = false) : badAt es = some k := by
  unfold badAt
  rw [List.find?_range_eq_some]
  exact ⟨hb, List.mem_range.mpr hk, fun j hj => by rw [h j hj]; rfl⟩
theorem badAt_none {es : List WT} (h : ∀ j, j < es.length → badI es j = false) : badAt es = none := by
  unfold badAt
  rw [List.find?_eq_none]
  intro j hj
  rw [h j (List.mem_range.mp hj)]; decide
theorem tabI_get {es : List WT} {i : Nat} {L : List Ev} {rs : List Rt} (h : (tabI es)[i]? = some (L, rs)) : ∃ ws W, es[i]? = some (L, ws, W) ∧ rs = wri ws W := by
  unfold tabI at h
  rw [List.getElem?_map] at h
  obtain ⟨⟨L', ws, W⟩, h1, h2⟩ := Option.map_eq_some_iff.mp h
  cases h2
  exact ⟨ws, W, h1, rfl⟩
theorem tabI_take (es : List WT) (i : Nat) : (tabI es).take i = tabI (es.take i) := by unfold tabI; rw [List.map_take]
theorem tabI_views (es : List WT) : (tabI es).map (·.1) = es.map (·.1) := by unfold tabI; rw [List.map_map]; rfl
structure EK (es : List WT) : Prop where
  len : es.length ≤ 10
  ok : ∀ e ∈ es, WK e.2.1 e.2.2
  ev : ∀ e ∈ es, ∀ v ∈ e.1, OkE v
/-! a plan whose lists are new -/
inductive PN (C : Addr) (N : Addr → Prop) (H : Hp) : List Ent → List Ent2 → Prop
  | nil : PN C N H [] []
  | cons {b l : Addr} {xs : List Ent} {t : List Ent2} {L : List Ev} {rs : List Rt} : TD H (.ref b) (dView L) → LA C H l rs → N l → PN C N H xs t → PN C N H ((keyV L, b, .ref l) :: xs) ((L, rs) :: t)
theorem PN.pe {C : Addr} {N : Addr → Prop} {H : Hp} {xs : List Ent} {t : List Ent2} (h : PN C N H xs t) : PE C H xs t := by
  induction h with
  | nil => exact .nil
  | cons a b _ _ ih => exact .cons a b ih
theorem PN.keep {C : Addr} {N : Addr → Prop} {H H' : Hp} (k : KI H H') (kl : ∀ b ys, N b → H b = some (.lst ys) → H' b = some (.lst ys)) {xs : List Ent} {t : List Ent2} (h : PN C N H xs t) : PN C N H' xs t := by
  induction h with
  | nil => exact .nil
  | cons hb hl n _ ih =>
    obtain ⟨vs, h1, h2⟩ := hl
    exact .cons (hb.tk k.tk) ⟨vs, kl _ _ n h1, h2.keep k⟩ n ih
theorem PN.snoc {C : Addr} {N : Addr → Prop} {H : Hp} {xs : List Ent} {t : List Ent2} {b l : Addr} {L : List Ev} {rs : List Rt} (h : PN C N H xs t) (hb : TD H (.ref b) (dView L)) (hl : LA C H l rs) (n : N l) : PN C N H (xs ++ [(keyV L, b, .ref l)]) (t ++ [(L, rs)]) := by
  induction h with
  | nil => exact .cons hb hl n .nil
  | cons a b' m _ ih => exact .cons a b' m ih
def PlanN (P : Program) (w : World) (CP CR : Addr) (N : Addr → Prop) (H : Hp) (x : Addr) (t : List Ent2) : Prop := ∃ dx d xs, H x = some (.ins CP dx [("table", .ref d)]) ∧ N d ∧ H d = some (ndO P w d xs) ∧ PN CR N H xs t
theorem PlanN.plan {P : Program} {w : World} {CP CR : Addr} {N : Addr → Prop} {H : Hp} {x : Addr} {t : List Ent2} (h : PlanN P w CP CR N H x t) : PlanAt P w CP CR H x t := by
  obtain ⟨dx, d, xs, h1, _, h2, h3⟩ := h
  exact ⟨dx, d, xs, h1, h2, h3.pe⟩
theorem look_mem {t : List Ent2} {L : List Ev} : (look t L).isSome = decide (L ∈ t.map (·.1)) := by
  unfold look
  rw [Option.isSome_map, Bool.eq_iff_iff, List.find?_isSome, decide_eq_true_iff, List.mem_map]
  constructor
  · rintro ⟨e, he, h⟩; exact ⟨e, he, of_decide_eq_true h⟩
  · rintro ⟨e, he, h⟩; exact ⟨e, he, decide_eq_true h⟩
inductive GN (C : Addr) (N : Addr → Prop) (H : Hp) : List V → List Ent2 → Prop
  | nil : GN C N H [] []
  | cons {q l : Addr} {vw : V} {vs : List V} {t : List Ent2} {L : List Ev} {rs : List Rt} : H q = some (.tup [vw, .ref l]) → TD H vw (dView L) → LA C H l rs → N l → GN C N H vs t → GN C N H (.ref q :: vs) ((L, rs) :: t)
theorem GN.keep {C : Addr} {N : Addr → Prop} {H H' : Hp} (k : KI H H') (kl : ∀ b ys, N b → H b = some (.lst ys) → H' b = some (.lst ys)) {vs : List V} {t : List Ent2} (h : GN C N H vs t) : GN C N H' vs t := by
  induction h with
  | nil => exact .nil
  | cons hq hv hl n _ ih =>
    obtain ⟨us, h1, h2⟩ := hl
    exact .cons (k.1 _ _ hq) (hv.tk k.tk) ⟨us, kl _ _ n h1, h2.keep k⟩ n ih
theorem GN.gl {C : Addr} {N : Addr → Prop} {H : Hp} {vs : List V} {t : List Ent2} (h : GN C N H vs t) : GL C H vs t := by
  induction h with
  | nil => exact .nil
  | cons a b c _ _ ih => exact .cons a b c ih
theorem GN.len {C : Addr} {N : Addr → Prop} {H : Hp} {vs : List V} {t : List Ent2} (h : GN C N H vs t) : vs.length = t.length := h.gl.len
theorem GN.snoc {C : Addr} {N : Addr → Prop} {H : Hp} {vs : List V} {t : List Ent2} {q l : Addr} {vw : V} {L : List Ev} {rs : List Rt} (h : GN C N H vs t) (hq : H q = some (.tup [vw, .ref l])) (hv : TD H vw (dView L)) (hl : LA C H l rs) (n : N l) : GN C N H (vs ++ [.ref q]) (t ++ [(L, rs)]) := by
  induction h with
  | nil => exact .cons hq hv hl n .nil
  | cons a b c m _ ih => exact .cons a b c m ih
def sp_alots (C : Addr) : Sp := fun vs H Q _ => ∃ (a : Addr) (ws : List Int) (W : Int), vs = [.ref a] ∧ LA C H a (wri ws W) ∧ WK ws W ∧ ∀ H', Keep [] H H' → Q (.bl (lotB ws W)) H'
def sp_planX (P : Program) (w : World) (CP CR CB : Addr) : Sp := fun vs H Q E => ∃ (x dx a : Addr) (gs : List V) (es : List WT), vs = [.ref x, .ref a] ∧ H x = some (.ins CP dx []) ∧ H a = some (.lst gs) ∧ GL CR H gs (tabI es) ∧ EK es ∧
  (badAt es = none → ∀ H', PlanN P w CP CR (fun b => H b = none) H' x (tabI es) → Keep [x] H H' → Q .non H') ∧
  (∀ i, badAt es = some i → ∀ d H', H d = none → H' d = some (.xd [(("place" : Str), .int (i : Nat))]) → Keep [x] H H' → E (.ref CB) (some d) H')
def sp_pent (P : Program) (w : World) (CP CR : Addr) : Sp := fun vs H Q _ => ∃ (x : Addr) (t : List Ent2), vs = [.ref x] ∧ PlanAt P w CP CR H x t ∧ t.length ≤ 1000 ∧ ∀ l gs H', H l = none → H' l = some (.lst gs) → GN CR (fun b => b ≠ l ∧ H b = none) H' gs t → Keep [] H H' → Q (.ref l) H'

theorem take_snoc {α : Type} {l : List α} {i : Nat} {x : α} (h : l[i]? = some x) : l.take (i + 1) = l.take i ++ [x] := by
  obtain ⟨h1, h2⟩ := List.getElem?_eq_some_iff.mp h
  rw [List.take_succ_eq_append_getElem h1, h2]
theorem PE.get {C : Addr} {H : Hp} {xs : List Ent} {t : List Ent2} (h : PE C H xs t) : ∀ {i : Nat} {x : Ent}, xs[i]? = some x → ∃ L rs l, t[i]? = some (L, rs) ∧ TD H (.ref x.2.1) (dView L) ∧ x.2.2 = .ref l ∧ LA C H l rs := by
  induction h with
  | nil => intro i x e; simp at e
  | @cons b l xs t L rs hb hl _ ih =>
    intro i x e
    cases i with
    | zero => simp at e; subst e; exact ⟨L, rs, l, rfl, hb, rfl, hl⟩
    | succ j => simp at e; obtain ⟨L', rs', l', e1, e2, e3, e4⟩ := ih e; exact ⟨L', rs', l', by simpa using e1, e2, e3, e4⟩
theorem all_id (l : List Int) : ((l.map fun n => decide (0 ≤ n)).all id) = l.all fun n => decide (0 ≤ n) := by rw [List.all_map]; rfl
section
variable {P : Program} {w : World} {K : PySem.W.Frag} {mg : Str → Option Value} {base : Heap} {C_Ratio : Addr} {C_Plan : Addr} {C_GameError : Addr} {C_BadMove : Addr} {C_BadPaper : Addr} {C_BadRatio : Addr} {C_BadText : Addr} {C_BadPlan : Addr} {f_BadPlan___init : Addr}
theorem ok_are_lots {f : Addr} {fd : FuncData} (D : C8.Def K mg "are_lots" s_are_lots f fd) (b : Binds K fd ["ratios"] []) (T : Txt K mg C_Ratio C_Plan C_GameError C_BadMove C_BadPaper C_BadRatio C_BadText C_BadPlan) (c_common : C8.Cal P w K mg base 1 "common" (sp_common K C_Ratio) []) : C8.Cal P w K mg base 2 "are_lots" (sp_alots C_Ratio) [] := by
  refine cal0 D b .nil sc_are_lots (fun vs H Q E h => ?_) (fun cdv A outer s H vs Q E hr h => ?_)
  · obtain ⟨a, ws, W, rfl, _⟩ := h
    rfl
  · obtain ⟨a, ws, W, rfl, ⟨vs, ha, hrl⟩, hok, k⟩ := h
    refine ⟨_, (pss_cons (ps_asg (pe_c c_common hr (by first | exact Nat.le_refl _ | decide | omega) rfl (pa_cons (pv 0) pa_nil)) (pg_tup (by rfl) (pgs_cons (pg_name (i := 1) sc_are_lots.nd rfl (by first | exact Or.inl rfl | exact Or.inr rfl)) (pgs_cons (pg_name (i := 2) sc_are_lots.nd rfl (by first | exact Or.inl rfl | exact Or.inr rfl)) pgs_nil))))
(pss_one (ps_ret (pe_and (pe_cmpR op_eq (pe_callB (cr_sum rfl) (by rfl) T.n_sum bo_sum (pa_cons (pv 1) pa_nil)) (pv 2) (nomark _)) (pe_one (pe_callB (cr_all rfl) (by rfl) T.n_all bo_all (pa_cons (pe_lc (own := [("weight", 3)]) (g := gName 3) (tt := tYes) rfl sc_are_lots.nd (pi_list (pv 1)) (blkOk_by (N := ["ratios", "weights", "den", "weight"]) (sc := fnScope s_are_lots) (by decide +kernel)) (fun _ _ _ _ _ => pg_name (i := 3) sc_are_lots.nd rfl (by first | exact Or.inl rfl | exact Or.inr rfl)) (fun _ _ _ _ _ => pts_nil) (fun _ _ _ _ _ => (pe_cmpR op_ge (pv 3) pe_int (nomark _)))) pa_nil))))))), ?_⟩
    obtain ⟨ps, rfl, hpl, hpr⟩ := hrl.refs
    have hp := hok.pos
    have hlen := hok.len
    refine ⟨_, rfl, a, ps, wri ws W, W.natAbs, rfl, SqL.of ha, hpl, hpr, wri_small hok, by omega, Nat.lt_trans hok.W (Nat.pow_lt_pow_right (by decide) (by decide)), by rw [wri_length]; omega, fun l t H1 nl K1 hl ht => ?_⟩
    refine ⟨t, _, rfl, SqT.of ht, rfl, _, _, rfl, _, _, rfl, rfl, ?_⟩
    refine ⟨_, rfl, l, _, rfl, SqL.of hl, _, rfl, rfl, _, rfl, ?_⟩
    by_cases hs : (comN (wri ws W)).sum = ((comD (wri ws W) : Nat) : Int)
    · have hs' := (sum_iff hp).mp hs
      rw [hs]
      refine iteDT rfl ⟨_, rfl, l, rfl, ⟨_, SqL.of hl⟩, fun D nD => ?_⟩
      have hcl : (comN (wri ws W)).length = ws.length := by rw [comN_wri, List.length_map]
      refine lc_list (K := K) (a := l) (xs := (comN (wri ws W)).map V.int) (fun i H' => H' D = some (.lst ((((comN (wri ws W)).take i).map fun n => decide (0 ≤ n)).map V.bl)) ∧ Keep [] H1 H') ⟨upd_same, Keep.new nD⟩ (fun i H' _ ⟨_, kk⟩ => SqL.of (kk _ _ hl (by simp))) ?_ ?_
      · rintro i x H' hx ⟨hD, kk⟩
        obtain ⟨z, hz, rfl⟩ := ints_get hx
        have hi := (List.getElem?_eq_some_iff.mp hx).1
        rw [List.length_map, hcl] at hi
        refine ⟨rfl, yes_then ⟨_, rfl, _, _, rfl, rfl, _, hD, smallL (by simp; omega), ?_, kk.then_own nD⟩⟩
        rw [upd_same, take_snoc hz, List.map_append, List.map_append]; rfl
      · rintro H' ⟨hD, kk⟩
        rw [List.length_map, List.take_length] at hD
        refine ⟨D, _, rfl, SqL.of hD, ?_⟩
        rw [all_id, all_nn hp]
        have e : lotB ws W = ws.all fun w => decide (0 ≤ w) := by unfold lotB; rw [decide_eq_true hs', Bool.true_and]
        rw [← e]
        exact k _ (K1.trans kk)
    · have hs' : ¬ ws.sum = W := fun z => hs ((sum_iff hp).mpr z)
      refine iteDF (fun z => hs (V.int.inj z)) ?_
      have e : lotB ws W = false := by unfold lotB; rw [decide_eq_false hs', Bool.false_and]
      show Q (.bl false) H1
      rw [← e]
      exact k _ K1
theorem ok_pent {f : Addr} {fd : FuncData} (M : Meth K C_Plan "entries" f) (F : C8.Fun K "entries" "Plan.entries" s_Plan_entries f fd) (b : Binds K fd ["self"] []) (T : Txt K mg C_Ratio C_Plan C_GameError C_BadMove C_BadPaper C_BadRatio C_BadText C_BadPlan) : C8.Met P w K mg base 1 C_Plan "entries" (sp_pent P w C_Plan C_Ratio) [] := by
  refine met0 T.cl_Plan M F b sc_Plan_entries (fun vs H Q E h => ?_) (fun cdv A outer s H vs Q E hr h => ?_)
  · obtain ⟨x, t, rfl, _⟩ := h
    rfl
  · obtain ⟨x, t, rfl, hP, ht, k⟩ := h
    refine ⟨_, (pss_one (ps_ret (pe_lock (pe_lc (own := [("view", 1), ("lots", 2)]) (g := (gTup K 2 (gCons (gName 1) (gCons (gName 2) gNil)))) (tt := tYes) rfl sc_Plan_entries.nd (pi_itemsN (P := P) (w := w) (pe_fldK (K := K) (pv 0) rfl)) (blkOk_by (N := ["self", "view", "lots"]) (sc := fnScope s_Plan_entries) (by decide +kernel)) (fun _ _ _ _ _ => pg_tupK (K := K) (n := 2) (t := (gCons (gName 1) (gCons (gName 2) gNil))) (pgs_cons (pg_name (i := 1) sc_Plan_entries.nd rfl (by first | exact Or.inl rfl | exact Or.inr rfl)) (pgs_cons (pg_name (i := 2) sc_Plan_entries.nd rfl (by first | exact Or.inl rfl | exact Or.inr rfl)) pgs_nil))) (fun _ _ _ _ _ => pts_nil) (fun _ _ _ _ _ => (pe_tup (pa_cons (pv 1) (pa_cons (pe_callTy (call_list_ofK (K := K)) (by rfl) T.n_list bo_list (pa_cons (pv 2) pa_nil)) pa_nil)))))))), ?_⟩
    obtain ⟨dx, d, xs, hx, hd, hpe⟩ := hP
    refine ⟨d, _, hd, trivial, fun od => ?_⟩
    have kd : Keep [d] H (upd H d (.frz od (ndO P w d xs))) := Keep.at_ (by simp)
    have ki := KI.at_ hd kd (fun _ z => nomatch z) (fun _ _ _ z => nomatch z)
    have kl : ∀ b ys, H b = some (.lst ys) → upd H d (.frz od (ndO P w d xs)) b = some (.lst ys) := fun b ys hb => by rw [upd_ne (ne_of hb hd (by intro z; cases z))]; exact hb
    have hpe2 := hpe.keep ki kl
    have hx2 := ki.2 _ _ _ _ hx
    have hd2 : upd H d (.frz od (ndO P w d xs)) d = some (.frz od (ndO P w d xs)) := upd_same
    have back : ∀ b o, H b = some o → b ≠ d → upd H d (.frz od (ndO P w d xs)) b = some o := fun b o hb nb => by rw [upd_ne nb]; exact hb
    generalize upd H d (.frz od (ndO P w d xs)) = H2 at *
    have none_of : ∀ b, H2 b = none → H b = none := fun b nb => by
      have nbd : b ≠ d := (ne_of_none hd2 nb).symm
      cases e : H b with
      | none => rfl
      | some o => have := back b o e nbd; rw [nb] at this; cases this
    refine ⟨_, rfl, x, C_Plan, dx, _, _, rfl, hx2, T.cl_Plan, T.a_Plan_table, rfl, d, od, xs, rfl, hd2, fun D nD => ?_⟩
    have hpl := hpe.len
    refine lc_it walk_itemsN (fun i H' => ∃ gs, H' D = some (.lst gs) ∧ GN C_Ratio (fun b => b ≠ D ∧ H b = none) H' gs (t.take i) ∧ Keep [] H2 H') ⟨[], upd_same, .nil, Keep.new nD⟩ (fun i H' _ ⟨_, _, _, kk⟩ => kk _ _ hd2 (by simp)) ?_ ?_
    · rintro i y H3 H4 hi ⟨gs, hgs, hgn, k3⟩ ⟨T1, y1, y2, rfl, nT, rfl, hy1, hy2⟩
      have hxi : xs[i]? = some xs[i] := List.getElem?_eq_getElem hi
      obtain ⟨L, rs, l0, hti, hvw, hyl, ⟨ys, hys, hrl⟩⟩ := hpe2.get hxi
      replace hy1 : (xs[i]?).map (fun x => V.ref x.2.1) = some y1 := hy1
      replace hy2 : (xs[i]?).map (fun x => x.2.2) = some y2 := hy2
      rw [hxi] at hy1 hy2
      have e1 : y1 = .ref xs[i].2.1 := (Option.some.inj hy1).symm
      have e2 : y2 = .ref l0 := by rw [← hyl]; exact (Option.some.inj hy2).symm
      subst e1 e2
      have k4 := Keep.new (W := []) (o := .tup [.ref xs[i].2.1, .ref l0]) nT
      have hys4 := (k3.trans k4) _ _ hys (by simp)
      refine ⟨T1, _, rfl, SqT.of upd_same, rfl, _, _, rfl, _, _, rfl, rfl, rfl, yes_then ⟨_, rfl, _, rfl, l0, ys, rfl, .inl (SqL.of hys4), fun l2 nl2 => And.intro (by show 2 ≤ sizeLine; decide) <| fun q nq => ?_⟩⟩
      have k5 := Keep.new (W := []) (o := .lst ys) nl2
      have k6 := Keep.new (W := []) (o := .tup [.ref xs[i].2.1, .ref l2]) nq
      have k46 := (k4.trans k5).trans k6
      have hgs6 := k46 _ _ hgs (by simp)
      have n2D : l2 ≠ D := (ne_of_none (k4 _ _ hgs (by simp)) nl2).symm
      have n2H : H l2 = none := none_of l2 ((k3.trans k4).free nl2)
      have ki6 := KI.lst (o := .lst (gs ++ [.ref q])) hgs6
      have hgl := hgn.len
      rw [List.length_take] at hgl
      obtain ⟨hil, hie⟩ := List.getElem?_eq_some_iff.mp hti
      refine ⟨gs, hgs6, smallL (by omega), gs ++ [.ref q], upd_same, ?_, (k3.trans k46).then_own nD⟩
      rw [List.take_succ_eq_append_getElem hil, hie]
      refine ((hgn.keep (KI.of k46) fun b zs _ hb => k46 _ _ hb (by simp)).keep ki6 fun b zs nb hb => by rw [upd_ne nb.1]; exact hb).snoc (ki6.1 _ _ upd_same) (((hvw.tk k3.tk).tk k46.tk).tk ki6.1) ⟨ys, ?_, ((hrl.keep (KI.of k3)).keep (KI.of k46)).keep ki6⟩ ⟨n2D, n2H⟩
      rw [upd_ne n2D]
      exact k6 _ _ upd_same (by simp)
    · rintro H3 ⟨gs, hgs, hgn, k3⟩
      have hd3 := k3 _ _ hd2 (by simp)
      refine ⟨hd3, ?_⟩
      have kout : Keep [] H (upd H3 d (ndO P w d xs)) := fun b o hb _ => by
        by_cases e : b = d
        · subst e; rw [upd_same]; rw [hd] at hb; exact hb
        · rw [upd_ne e]; exact k3 _ _ (back b o hb e) (by simp)
      have kiO : KI H3 (upd H3 d (ndO P w d xs)) := KI.at_ hd3 (Keep.at_ (by simp)) (fun _ z => nomatch z) (fun _ _ _ z => nomatch z)
      have klO : ∀ b ys, H3 b = some (.lst ys) → upd H3 d (ndO P w d xs) b = some (.lst ys) := fun b ys hb => by rw [upd_ne (ne_of hb hd3 (by intro z; cases z))]; exact hb
      rw [hpl, List.take_length] at hgn
      exact k D gs _ (none_of D nD) (klO _ _ hgs) (hgn.keep kiO fun b ys _ hb => klO b ys hb) kout
end

theorem freeK {x : Addr} {H H' : Hp} {d : Addr} {o : HO} (k : Keep [x] H H') (n : H' d = none) (hx : H' x = some o) : H d = none := by
  cases e : H d with
  | none => rfl
  | some p =>
    have := k _ _ e (by simp; exact (ne_of_none hx n).symm)
    rw [n] at this; cases this
theorem badI_new {es : List WT} {i : Nat} {L : List Ev} {ws : List Int} {W : Int} (h : es[i]? = some (L, ws, W)) : badI es i = (decide (L ∈ (es.take i).map (·.1)) || (decide (ws = []) || !lotB ws W)) := by unfold badI; rw [h]
section
variable {P : Program} {w : World} {K : PySem.W.Frag} {mg : Str → Option Value} {base : Heap} {C_Ratio : Addr} {C_Plan : Addr} {C_GameError : Addr} {C_BadMove : Addr} {C_BadPaper : Addr} {C_BadRatio : Addr} {C_BadText : Addr} {C_BadPlan : Addr} {f_BadPlan___init : Addr}
theorem ok_plan {f : Addr} {fd : FuncData} (M : Mk K C_Plan f) (F : C8.Fun K "__init__" "Plan.__init__" s_Plan___init f fd) (b : Binds K fd ["self", "entries"] []) (T : Txt K mg C_Ratio C_Plan C_GameError C_BadMove C_BadPaper C_BadRatio C_BadText C_BadPlan) (X_BadPlan : SupX_BadPlan.Txt P K mg "BadPlan" C_BadPlan f_BadPlan___init) (c_are_lots : C8.Cal P w K mg base 2 "are_lots" (sp_alots C_Ratio) []) : MakX P w K mg base 3 "Plan" C_Plan (sp_planX P w C_Plan C_Ratio C_BadPlan) := by
  refine ⟨f, fd, ["self", "entries"], M, fnx F sc_Plan___init (fun vs H Q E h => ?_) (fun cdv A outer s H vs Q E hr h => ?_), T.m_Plan, b⟩
  · obtain ⟨x, dx, a, gs, es, rfl, _⟩ := h
    rfl
  · obtain ⟨x, dx, a, gs, es, rfl, hx, ha, hg, hek, k, kE⟩ := h
    refine ⟨_, (pss_cons (ps_fld (pv 0) (pe_nnew (P := P) (w := w)) rfl)
(pss_one (ps_for (passes_of rfl) rfl (pi_enum (by rfl) T.n_enumerate (pa_cons (pv 1) pa_nil)) (pg_tup (by rfl) (pgs_cons (pg_name (i := 2) sc_Plan___init.nd rfl (by first | exact Or.inl rfl | exact Or.inr rfl)) (pgs_cons (pg_name (i := 3) sc_Plan___init.nd rfl (by first | exact Or.inl rfl | exact Or.inr rfl)) pgs_nil)))
  (pss_cons (ps_asg (pv 3) (pg_tup (by rfl) (pgs_cons (pg_name (i := 4) sc_Plan___init.nd rfl (by first | exact Or.inl rfl | exact Or.inr rfl)) (pgs_cons (pg_name (i := 5) sc_Plan___init.nd rfl (by first | exact Or.inl rfl | exact Or.inr rfl)) pgs_nil))))
  (pss_cons (ps_if (PW.pt (pw_or (pt_cmp (pc_nin (P := P) (w := w) (un65 hr) (pv 4) (pe_fld (pv 0) rfl))) (pw_or (pt_not (pt_truth (pv 5) (by intro _; rfl))) (pw_or1 (pt_not (pt_val (pe_c c_are_lots hr (by first | exact Nat.le_refl _ | decide | omega) rfl (pa_cons (pv 5) pa_nil))))))))
    (pss_one (SupX_BadPlan.ps_raiseE rfl X_BadPlan hr (takes_of rfl rfl rfl rfl) (pa_cons (pv 2) pa_nil)))
    pss_nil)
  (pss_one (ps_nput (P := P) (w := w) (un65 hr) (pe_fld (pv 0) rfl) (pv 4) (pe_callTy call_list_of (by rfl) T.n_list bo_list (pa_cons (pv 5) pa_nil)) (by rfl)))))))), ?_⟩
    refine fun d nd => ?_
    have k0 : Keep [] H (upd H d (ndO P w d [])) := Keep.new nd
    have hx0 := k0 _ _ hx (by simp)
    refine ⟨_, rfl, x, C_Plan, dx, [], rfl, hx0, T.cl_Plan, T.a_Plan_table, by show 0 < 1000; decide, ?_⟩
    have nxd : x ≠ d := ne_of_none hx nd
    have k1 : Keep [x] H (upd (upd H d (ndO P w d [])) x (.ins C_Plan dx [("table", .ref d)])) := (k0.mono (by simp)).then_at (by simp)
    have hx1 : upd (upd H d (ndO P w d [])) x (.ins C_Plan dx [("table", .ref d)]) x = some (.ins C_Plan dx [("table", .ref d)]) := upd_same
    have hd1 : upd (upd H d (ndO P w d [])) x (.ins C_Plan dx [("table", .ref d)]) d = some (ndO P w d []) := by rw [upd_ne nxd.symm]; exact upd_same
    have hxl : ∀ {b : Addr} {ys : List V}, H b = some (.lst ys) → b ≠ x := fun h => ne_of h hx (by intro z; cases z)
    have ha1 := k1 _ _ ha (by simpa using hxl ha)
    have hgl := hg.len
    have htl : (tabI es).length = es.length := by unfold tabI; rw [List.length_map]
    have hel := hek.len
    refine ⟨_, rfl, a, gs, rfl, SqL.of ha1, for_it walk_enum (fun i σ H' => ∃ xs o2 o3 o4 o5, σ = [some (.ref x), some (.ref a), o2, o3, o4, o5] ∧ H' x = some (.ins C_Plan dx [("table", .ref d)]) ∧ H' d = some (ndO P w d xs) ∧ PN C_Ratio (fun b => H b = none) H' xs ((tabI es).take i) ∧ Keep [x] H H' ∧ ∀ j, j < i → badI es j = false) ⟨[], _, _, _, _, rfl, hx1, hd1, .nil, k1, fun j h => absurd h (Nat.not_lt_zero _)⟩ (fun i σ H' _ ⟨_, _, _, _, _, _, _, _, _, kk, _⟩ => SqL.of (kk _ _ ha (by simpa using hxl ha))) ?_ ?_⟩
    · rintro i v σ H2 H3 hi ⟨xs, o2, o3, o4, o5, rfl, hx2, hd2, hpn, k2, hno⟩ ⟨T1, y1, y2, rfl, nT, rfl, hy1, hy2⟩
      obtain ⟨q, l, vw, L, rs, rfl, hti, hq, hvw, ⟨ys, hl, hrl⟩⟩ := hg.get hy2
      obtain ⟨ws, W, hei, rfl⟩ := tabI_get hti
      obtain rfl : V.int ((i : Nat) : Int) = y1 := Option.some.inj hy1
      have kT := Keep.new (W := []) (o := .tup [.int (i : Nat), .ref q]) nT
      have hT : upd H2 T1 (.tup [.int (i : Nat), .ref q]) T1 = some (.tup [.int (i : Nat), .ref q]) := upd_same
      generalize upd H2 T1 (.tup [.int (i : Nat), .ref q]) = H3 at *
      have k3 := k2.trans (kT.mono (by simp))
      have nq : q ≠ x := ne_of hq hx (by intro z; cases z)
      have hq3 := k3 _ _ hq (by simpa using nq)
      have hl3 := k3 _ _ hl (by simpa using hxl hl)
      have hx3 := kT _ _ hx2 (by simp)
      have hd3 := kT _ _ hd2 (by simp)
      have tk3 : TK H H3 := fun b zs hb => k3 _ _ hb (by simpa using (show b ≠ x from ne_of hb hx (by intro z; cases z)))
      have hvw3 := hvw.tk tk3
      have hpn3 := hpn.keep (KI.of kT) fun b zs _ hb => kT _ _ hb (by simp)
      have hpe3 := hpn3.pe
      refine ⟨T1, _, rfl, SqT.of hT, rfl, _, _, rfl, _, _, rfl, rfl, ?_⟩
      refine ⟨_, rfl, q, _, rfl, SqT.of hq3, rfl, _, _, rfl, _, _, rfl, rfl, ?_⟩
      obtain ⟨bb, vxs, rfl, hbb, hvv, hvl⟩ := td_grow hvw3
      have hnd3 : NDat P w H3 d xs := ⟨.inl hd3, hpe3.nk⟩
      have hval : (valN xs (keyV L)).isSome = decide (L ∈ (es.take i).map (·.1)) := by
        rw [← tabI_views, ← tabI_take, ← look_mem]
        rcases hpe3.look L with ⟨rs', l', h1, h2, _⟩ | ⟨h1, h2⟩
        · rw [h1, h2]; rfl
        · rw [h1, h2]; rfl
      have hbi := badI_new hei
      have hlo := hek.ok _ (List.mem_of_getElem? hei)
      have hil := (List.getElem?_eq_some_iff.mp hei).1
      have hrl3 : RL C_Ratio H3 ys (wri ws W) := hrl.keepx k3 hx
      have hys := hrl3.len
      rw [wri_length] at hys
      have bad : ∀ H', Keep [] H3 H' → badI es i = true → ∀ dd, H' dd = none → E (.ref C_BadPlan) (some dd) (upd H' dd (.xd [(("place" : Str), .int (i : Nat))])) := fun H' kk hb dd ndd =>
        kE i (badAt_some hil hb hno) dd _ (freeK (k3.trans (kk.mono (by simp))) ndd (kk _ _ hx3 (by simp))) upd_same ((k3.trans (kk.mono (by simp))).trans ((Keep.new (W := []) (o := .xd [(("place" : Str), .int (i : Nat))]) ndd).mono (by simp)))
      refine ⟨_, rfl, _, rfl, x, C_Plan, dx, _, _, rfl, hx3, T.cl_Plan, T.a_Plan_table, rfl, d, _, rfl, ⟨xs, keyV L, bb, hnd3, rfl, nk_view hvw3, depth_kv _, rfl⟩, _, rfl, ?_⟩
      refine iteB (fun e => ?_) (fun e => ?_)
      · have e : (valN xs (keyV L)).isSome = true := e
        rw [hval] at e
        exact ⟨_, rfl, _, rfl, bad H3 (Keep.refl _ _) (by rw [hbi, e]; rfl)⟩
      have e : (valN xs (keyV L)).isSome = false := e
      have hnone : valN xs (keyV L) = none := by
        cases z : valN xs (keyV L) with
        | none => rfl
        | some _ => rw [z] at e; cases e
      rw [hval] at e
      by_cases hw : ws = []
      · refine ⟨_, rfl, false, ?_, iteT ⟨_, rfl, _, rfl, bad H3 (Keep.refl _ _) (by rw [hbi, e, decide_eq_true hw]; rfl)⟩⟩
        refine .inl ⟨ys, SqL.of hl3, ?_⟩
        rw [hw] at hys
        rw [List.length_eq_zero_iff.mp hys]; rfl
      refine ⟨_, rfl, true, ?_, iteF ?_⟩
      · refine .inl ⟨ys, SqL.of hl3, ?_⟩
        cases ys with
        | nil => exact absurd (List.length_eq_zero_iff.mp hys.symm) hw
        | cons _ _ => rfl
      refine ⟨_, rfl, l, ws, W, rfl, ⟨ys, hl3, hrl3⟩, hlo, fun H4 k4 => ⟨_, rfl, ?_⟩⟩
      refine iteB (fun e2 => ?_) (fun e2 => ?_)
      · have e2 : (!lotB ws W) = true := e2
        exact ⟨_, rfl, _, rfl, bad H4 k4 (by rw [hbi, e, decide_eq_false hw, e2]; rfl)⟩
      have e2 : (!lotB ws W) = false := e2
      have good : badI es i = false := by rw [hbi, e, decide_eq_false hw, e2]; rfl
      have hl4 := k4 _ _ hl3 (by simp)
      refine ⟨_, rfl, l, ys, rfl, .inl (SqL.of hl4), fun l2 nl2 => ?_⟩
      have k5 := k4.trans (Keep.new (W := []) (o := .lst ys) nl2)
      have hl5 : upd H4 l2 (.lst ys) l2 = some (.lst ys) := upd_same
      have nl2H : H l2 = none := freeK (k3.trans (k4.mono (by simp))) nl2 (k4 _ _ hx3 (by simp))
      generalize upd H4 l2 (.lst ys) = H5 at *
      have hx5 := k5 _ _ hx3 (by simp)
      have hd5 := k5 _ _ hd3 (by simp)
      have hv5 := hvw3.tk k5.tk
      have hpn5 := hpn3.keep (KI.of k5) fun b zs _ hb => k5 _ _ hb (by simp)
      have hrl5 := hrl3.keep (KI.of k5)
      have hpl := hpn5.pe.len
      rw [List.length_take, htl] at hpl
      refine ⟨_, rfl, x, C_Plan, dx, _, _, rfl, hx5, T.cl_Plan, T.a_Plan_table, rfl, _, rfl, d, _, rfl, ⟨xs, keyV L, bb, ⟨.inl hd5, hpn5.pe.nk⟩, hd5, rfl, nk_view hv5, depth_kv _, smallL (by omega), rfl⟩, ?_⟩
      have kd : Keep [d] H5 (upd H5 d (ndO P w d (putN xs (keyV L) bb (.ref l2)))) := Keep.at_ (by simp)
      have ki := KI.at_ hd5 kd (fun _ z => nomatch z) (fun _ _ _ z => nomatch z)
      have kl : ∀ b zs, H5 b = some (.lst zs) → upd H5 d (ndO P w d (putN xs (keyV L) bb (.ref l2))) b = some (.lst zs) := fun b zs hb => by
        rw [upd_ne (ne_of hb hd5 (by intro z; cases z))]; exact hb
      refine ⟨putN xs (keyV L) bb (.ref l2), _, _, _, _, rfl, ki.2 _ _ _ _ hx5, upd_same, ?_, ?_, fun j hj => ?_⟩
      · have et : (tabI es).take (i + 1) = (tabI es).take i ++ [(L, wri ws W)] := take_snoc hti
        rw [et, putN_new hnone]
        rw [putN_new hnone] at ki kl
        exact (hpn5.keep ki fun b zs _ hb => kl b zs hb).snoc (hv5.tk ki.tk) ⟨ys, kl _ _ hl5, hrl5.keep ki⟩ nl2H
      · intro b o hb nb
        have nbd : b ≠ d := ne_of_none hb nd
        rw [upd_ne nbd]
        exact k5 _ _ (k3 _ _ hb nb) (by simp)
      · rcases Nat.lt_or_ge j i with z | z
        · exact hno j z
        · have : j = i := by omega
          subst this
          exact good
    · rintro σ H2 ⟨xs, o2, o3, o4, o5, rfl, hx2, hd2, hpn, k2, hno⟩
      have hgn : gs.length = es.length := by rw [hgl, htl]
      refine k (badAt_none fun j hj => hno j (by omega)) H2 ⟨dx, d, xs, hx2, nd, hd2, ?_⟩ k2
      rw [show (tabI es).take gs.length = tabI es by rw [hgl, List.take_length]] at hpn
      exact hpn
end

theorem ixN_n {n j : Nat} (hj : j < n) : ixN n (j : Int) = some j := by
  unfold ixN
  rw [if_pos (by omega), if_pos (by omega)]
  rfl
/-! the law's weights -/
def sp_weights : Sp := fun vs H Q _ => ∃ c y : Int, vs = [.int c, .int y] ∧ ∀ t l ws W H', WK ws W → H l = none → H t = none → H' l = some (.lst (ws.map V.int)) → H' t = some (.tup [.ref l, .int W]) → Keep [] H H' → Q (.ref t) H'
structure WI (H : Hp) (n : Nat) (H' : Hp) (l : Addr) (ws : List Int) (W : Int) : Prop where
  new : H l = none
  at_ : H' l = some (.lst (ws.map V.int))
  keep : Keep [] H H'
  len : ws.length ≤ 5
  ne : 0 < ws.length
  sm : ∀ w ∈ ws, w.natAbs ≤ n
  W : W.natAbs ≤ n
def WIn (c y : Int) (H : Hp) (n : Nat) (σ : List (Option V)) (H' : Hp) : Prop := ∃ o3 o4 o6 o7 l ws W, σ = [some (.int c), some (.int y), some (.ref l), o3, o4, some (.int W), o6, o7, none] ∧ WI H n H' l ws W
theorem WIn.mono {c y : Int} {H : Hp} {n m : Nat} (h : n ≤ m) {σ : List (Option V)} {H' : Hp} (w : WIn c y H n σ H') : WIn c y H m σ H' := by
  obtain ⟨o3, o4, o6, o7, l, ws, W, e, i⟩ := w
  exact ⟨o3, o4, o6, o7, l, ws, W, e, i.new, i.at_, i.keep, i.len, i.ne, fun w hw => Nat.le_trans (i.sm w hw) h, Nat.le_trans i.W h⟩
theorem sum_abs {n : Nat} : ∀ {ws : List Int}, (∀ w ∈ ws, w.natAbs ≤ n) → ws.sum.natAbs ≤ ws.length * n
  | [], _ => by simp
  | w :: ws, h => by
    have h1 := h w (List.mem_cons_self ..)
    have h2 := sum_abs fun x hx => h x (List.mem_cons_of_mem _ hx)
    rw [List.sum_cons, List.length_cons, Nat.add_mul, Nat.one_mul]
    omega
theorem divOk (c : Int) {d : Int} (h : 0 < d) (h2 : d < 1000) : CDivG c d := ⟨by omega, Nat.lt_trans (log2_lt9 (b := 10) (by omega) (by decide)) (by decide)⟩
section
variable {P : Program} {w : World} {K : PySem.W.Frag} {mg : Str → Option Value} {base : Heap} {C_Ratio : Addr} {C_Plan : Addr} {C_GameError : Addr} {C_BadMove : Addr} {C_BadPaper : Addr} {C_BadRatio : Addr} {C_BadText : Addr} {C_BadPlan : Addr} {f_BadPlan___init : Addr}
theorem ok_weights {f : Addr} {fd : FuncData} (D : C8.Def K mg "_law_weights" s_law_weights f fd) (b : Binds K fd ["cell", "way"] []) (T : Txt K mg C_Ratio C_Plan C_GameError C_BadMove C_BadPaper C_BadRatio C_BadText C_BadPlan) : C8.Cal P w K mg base 1 "_law_weights" sp_weights [] := by
  refine cal0 D b .nil sc_law_weights (fun vs H Q E h => ?_) (fun cdv A outer s H vs Q E hr h => ?_)
  · obtain ⟨c, y, rfl, _⟩ := h
    rfl
  · obtain ⟨c, y, rfl, k⟩ := h
    refine ⟨_, (pss_cons (ps_set (i := 2) sc_law_weights.nd rfl (by first | exact Or.inl rfl | exact Or.inr rfl) (pe_lst pa_nil))
(pss_cons (ps_set (i := 3) sc_law_weights.nd rfl (by first | exact Or.inl rfl | exact Or.inr rfl) (pe_op op_fdivG (pv 0) pe_int))
(pss_cons (ps_for PassesOwn.never rfl (pi_range1 (by rfl) T.n_range (pa_cons (pe_op op_add pe_int (pe_op op_mod (pe_callTy call_int1 (by rfl) T.n_int bo_int (pa_cons (pv 0) pa_nil)) pe_int)) pa_nil)) (pg_name (i := 4) sc_law_weights.nd rfl (by first | exact Or.inl rfl | exact Or.inr rfl))
  (pss_cons (ps_expr (pe_bm PySem.F.plainAttrs_list PySem.F.slot_list_append PySem.F.type_list_append mt_append (pv 2) (pa_cons (pe_op op_mod (pv 3) pe_int) pa_nil)))
  (pss_one (ps_set (i := 3) sc_law_weights.nd rfl (by first | exact Or.inl rfl | exact Or.inr rfl) (pe_op op_fdivG (pv 3) pe_int)))))
(pss_cons (ps_set (i := 5) sc_law_weights.nd rfl (by first | exact Or.inl rfl | exact Or.inr rfl) (pe_callB (cr_sum rfl) (by rfl) T.n_sum bo_sum (pa_cons (pv 2) pa_nil)))
(pss_cons (ps_if (pt_cmpR op_eq (pe_op op_mod (pe_callTy call_int1 (by rfl) T.n_int bo_int (pa_cons (pv 1) pa_nil)) pe_int) pe_int (nomark _))
  (pss_one (ps_ret (pe_tup (pa_cons (pe_lst pa_nil) (pa_cons pe_int pa_nil)))))
  pss_nil)
(pss_cut (ps_if (pt_cmpR op_eq (pe_op op_mod (pe_callTy call_int1 (by rfl) T.n_int bo_int (pa_cons (pv 1) pa_nil)) pe_int) pe_int (nomark _))
  (pss_cons (ps_set (i := 6) sc_law_weights.nd rfl (by first | exact Or.inl rfl | exact Or.inr rfl) (pe_op op_mod (pe_op op_fdivG (pv 1) pe_int) (pe_callB call_len_seq (by rfl) T.n_len bo_len (pa_cons (pv 2) pa_nil))))
  (pss_cons (ps_asg (pe_op op_sub (pe_op op_sub (pe_ix ix_list (pv 2) (pv 6) (fun _ _ => rfl)) (pv 5)) pe_int) (pg_sub (pv 2) (pv 6) set_list))
  (pss_one (ps_set (i := 2) sc_law_weights.nd rfl (by first | exact Or.inl rfl | exact Or.inr rfl) (pe_ix ix_tup (pe_tup (pa_cons (pe_op op_cat (pv 2) (pe_lst (pa_cons (pe_op op_add (pv 5) pe_int) pa_nil))) (pa_cons (pe_op op_cat (pe_lst (pa_cons (pe_op op_add (pv 5) pe_int) pa_nil)) (pv 2)) pa_nil))) (pe_op op_mod (pe_op op_fdivG (pv 1) pe_int) pe_int) (fun _ _ => rfl))))))
  pss_nil)
(pss_cut (ps_if (pt_cmpR op_eq (pe_op op_mod (pe_callTy call_int1 (by rfl) T.n_int bo_int (pa_cons (pv 1) pa_nil)) pe_int) pe_int (nomark _))
  (pss_one (ps_set (i := 5) sc_law_weights.nd rfl (by first | exact Or.inl rfl | exact Or.inr rfl) (pe_op op_add (pv 5) pe_int)))
  pss_nil)
(pss_cut (ps_if (pt_cmpR op_eq (pe_op op_mod (pe_callTy call_int1 (by rfl) T.n_int bo_int (pa_cons (pv 1) pa_nil)) pe_int) pe_int (nomark _))
  (pss_cons (ps_set (i := 7) sc_law_weights.nd rfl (by first | exact Or.inl rfl | exact Or.inr rfl) (pe_ix ix_tup (pe_tup (pa_cons pe_int (pa_cons (pe_op op_pow pe_int pe_int) (pa_cons (pe_op op_pow pe_int pe_int) pa_nil)))) (pe_op op_mod (pe_callTy call_int1 (by rfl) T.n_int bo_int (pa_cons (pe_op op_fdivG (pv 1) pe_int) pa_nil)) pe_int) (fun _ _ => rfl)))
  (pss_cons (ps_setLc (i := 2) (own := [("weight", 8)]) (g := gName 8) (tt := tYes) rfl sc_law_weights.nd rfl rfl (sw_true rfl rfl rfl (by decide +kernel)) (pi_list (pv 2)) (blkOk_by (N := ["cell", "way", "weights", "left", "k", "whole", "at", "great", "weight"]) (sc := fnScope s_law_weights) (by decide +kernel)) (fun _ _ _ _ _ => pg_name (i := 8) sc_law_weights.nd rfl (by first | exact Or.inl rfl | exact Or.inr rfl)) (fun _ _ _ _ _ => pts_nil) (fun _ _ _ _ _ => (pe_op op_mulO (pv 7) (pv 8))))
  (pss_one (ps_set (i := 5) sc_law_weights.nd rfl (by first | exact Or.inl rfl | exact Or.inr rfl) (pe_op op_add (pe_op op_mulO (pv 7) (pv 5)) (pe_ix ix_tup (pe_tup (pa_cons pe_int (pa_cons (pe_un un_neg pe_int) pa_nil))) (pe_op op_mod (pe_callTy call_int1 (by rfl) T.n_int bo_int (pa_cons (pe_op op_fdivG (pv 1) pe_int) pa_nil)) pe_int) (fun _ _ => rfl)))))))
  pss_nil)
(pss_cut (ps_if (pt_cmpR op_eq (pe_op op_mod (pe_callTy call_int1 (by rfl) T.n_int bo_int (pa_cons (pv 1) pa_nil)) pe_int) pe_int (nomark _))
  (pss_one (ps_set (i := 5) sc_law_weights.nd rfl (by first | exact Or.inl rfl | exact Or.inr rfl) (pe_op op_sub (pv 5) pe_int)))
  pss_nil)
(pss_cut (ps_if (pt_cmpR op_lt (pv 5) pe_int (nomark _))
  (pss_cons (ps_set (i := 2) sc_law_weights.nd rfl (by first | exact Or.inl rfl | exact Or.inr rfl) (pe_op op_cat (pe_lst (pa_cons pe_int pa_nil)) (pe_slice sl_list (pv 2) (po_some pe_int) po_none)))
  (pss_one (ps_set (i := 5) sc_law_weights.nd rfl (by first | exact Or.inl rfl | exact Or.inr rfl) pe_int)))
  pss_nil)
(pss_one (ps_ret (pe_tup (pa_cons (pv 2) (pa_cons (pv 5) pa_nil))))))))))))))), ?_⟩
    refine And.intro (by show 0 ≤ sizeLine; decide) <| fun l nl => ?_
    have k0 := Keep.new (W := []) (o := .lst []) nl
    have m4 : (0 : Int) ≤ c % 4 := Int.emod_nonneg _ (by decide)
    have m4' : c % 4 < 4 := Int.emod_lt_of_pos _ (by decide)
    refine ⟨_, rfl, _, _, rfl, rfl, divOk c (by decide) (by decide), ?_⟩
    refine ⟨_, rfl, .inl ⟨_, rfl, _, _, rfl, rfl, by show (0 : Int) < 4; decide, _, _, rfl, rfl, ?_⟩⟩
    refine ⟨1 + c % 4, rfl, by omega, by omega, for_range (lo := 0) (n := (1 + c % 4).toNat) (fun i σ H' => ∃ (z : Int) (o4 : Option V) (ws : List Int), σ = [some (.int c), some (.int y), some (.ref l), some (.int z), o4, none, none, none, none] ∧ H' l = some (.lst (ws.map V.int)) ∧ Keep [] H H' ∧ ws.length = i ∧ ∀ w ∈ ws, w.natAbs ≤ 4) ⟨_, _, [], rfl, upd_same, k0, rfl, fun w hw => by cases hw⟩ ?_ ?_⟩
    · rintro i σ H' hi ⟨z, o4, ws, rfl, hl, kk, hwl, hws⟩
      have m5 : (0 : Int) ≤ z % 5 := Int.emod_nonneg _ (by decide)
      have m5' : z % 5 < 5 := Int.emod_lt_of_pos _ (by decide)
      refine ⟨_, rfl, .inl ⟨rfl, _, SqL.of hl⟩, _, rfl, _, _, rfl, rfl, by show (0 : Int) < 5; decide, l, _, _, rfl, rfl, hl, by rw [List.length_map]; exact smallL (by omega), ?_⟩
      refine ⟨_, rfl, _, _, rfl, rfl, divOk z (by decide) (by decide), ?_⟩
      refine ⟨_, _, ws ++ [z % 5], rfl, by rw [upd_same, List.map_append]; rfl, kk.then_own nl, by rw [List.length_append, hwl]; rfl, fun w hw => ?_⟩
      rcases List.mem_append.mp hw with hw | hw
      · exact hws w hw
      · rw [List.mem_singleton.mp hw]; omega
    · rintro σ H1 ⟨z, o4, ws, rfl, hl, kk, hwl, hws⟩
      refine ⟨_, rfl, l, ws, rfl, SqL.of hl, ?_⟩
      have hsum := sum_abs hws
      have I0 : WI H 16 H1 l ws ws.sum := ⟨nl, hl, kk, by omega, by omega, fun w hw => Nat.le_trans (hws w hw) (by decide), by
        have : ws.length * 4 ≤ 4 * 4 := Nat.mul_le_mul_right 4 (by omega)
        omega⟩
      refine ⟨_, rfl, .inl ⟨_, rfl, _, _, rfl, rfl, by show (0 : Int) < 9; decide, rfl, _, rfl, iteD (fun _ => ?_) (fun _ => ?_)⟩⟩
      · refine And.intro (by show 0 ≤ sizeLine; decide) <| fun l1 n1 => ?_
        have kk1 := kk.trans (Keep.new (W := []) (o := .lst []) n1)
        refine ⟨by show 2 ≤ sizeLine; decide, fun t nt => ?_⟩
        refine k t l1 [] 1 _ ⟨by decide, by decide, (fun w hw => by cases hw), Nat.lt_of_lt_of_le (show (1 : Int).natAbs < 2 ^ 7 by decide) (Nat.pow_le_pow_right (by decide) (by decide))⟩ (kk.free n1) (kk1.free nt) ?_ upd_same (kk1.then_new nt)
        rw [upd_ne (ne_of_none upd_same nt)]; exact upd_same
      -- way 2
      refine ⟨WIn c y H 50, ?_, ?_⟩
      · refine ⟨_, rfl, .inl ⟨_, rfl, _, _, rfl, rfl, by show (0 : Int) < 9; decide, rfl, _, rfl, iteD (fun _ => ?_) (fun _ => ⟨_, _, _, _, l, ws, ws.sum, rfl, nl, hl, kk, I0.len, I0.ne, fun w hw => Nat.le_trans (I0.sm w hw) (by decide), Nat.le_trans I0.W (by decide)⟩)⟩⟩
        have hw0 : (0 : Int) < ((ws.map V.int).length : Int) := by rw [List.length_map]; have := I0.ne; omega
        refine ⟨_, rfl, _, _, rfl, rfl, divOk y (by decide) (by decide), _, rfl, l, _, rfl, .inl (SqL.of hl), _, _, rfl, rfl, hw0, ?_⟩
        have a0 : (0 : Int) ≤ y.fdiv 9 % ((ws.map V.int).length : Int) := Int.emod_nonneg _ (by omega)
        have a1 : y.fdiv 9 % ((ws.map V.int).length : Int) < ((ws.map V.int).length : Int) := Int.emod_lt_of_pos _ hw0
        obtain ⟨j, hj⟩ := Int.eq_ofNat_of_zero_le a0
        rw [hj] at a1
        dsimp only
        rw [hj]
        rw [List.length_map] at a1
        have hjl : j < ws.length := by omega
        have hjx : ws[j]? = some ws[j] := List.getElem?_eq_getElem hjl
        have wj := I0.sm _ (List.getElem_mem hjl)
        have W0 := I0.W
        refine ⟨_, rfl, _, rfl, _, _, _, _, rfl, rfl, SqL.of hl, atI_nat (v := V.int ws[j]) (by rw [List.getElem?_map, hjx]; rfl), _, rfl, _, _, rfl, rfl, _, _, rfl, rfl, _, rfl, _, rfl, l, _, _, j, rfl, rfl, hl, ixN_n (by rw [List.length_map]; exact hjl), ?_⟩
        have kS := kk.then_own (o := .lst ((ws.map V.int).set j (.int (ws[j] - ws.sum - 1)))) nl
        have hS : upd H1 l (.lst ((ws.map V.int).set j (.int (ws[j] - ws.sum - 1)))) l = some (.lst ((ws.set j (ws[j] - ws.sum - 1)).map V.int)) := by rw [upd_same, List.map_set]
        have smS : ∀ w ∈ ws.set j (ws[j] - ws.sum - 1), w.natAbs ≤ 50 := fun w hw => by
          rcases List.mem_or_eq_of_mem_set hw with hw | hw
          · exact Nat.le_trans (I0.sm w hw) (by decide)
          · rw [hw]; omega
        have lnS : (ws.set j (ws[j] - ws.sum - 1)).length = ws.length := List.length_set ..
        generalize upd H1 l (.lst ((ws.map V.int).set j (.int (ws[j] - ws.sum - 1)))) = H2 at *
        generalize ws.set j (ws[j] - ws.sum - 1) = wt at *
        refine ⟨_, rfl, _, rfl, _, _, rfl, rfl, And.intro (by show 1 ≤ sizeLine; decide) <| fun p1 np1 => ?_⟩
        have k1 := kS.then_new (o := .lst [.int (ws.sum + 1)]) np1
        refine ⟨l, p1, _, _, rfl, rfl, by rw [upd_ne (ne_of_none hS np1)]; exact hS, upd_same, smallM (by rw [List.length_map, lnS]; have := I0.len; show _ + 1 ≤ _; omega), fun c1 nc1 => ?_⟩
        have k2 := k1.then_new (o := .lst (wt.map V.int ++ [.int (ws.sum + 1)])) nc1
        refine ⟨_, rfl, _, _, rfl, rfl, And.intro (by show 1 ≤ sizeLine; decide) <| fun p2 np2 => ?_⟩
        have k3 := k2.then_new (o := .lst [.int (ws.sum + 1)]) np2
        have hl1 := (Keep.new (W := []) (o := .lst [.int (ws.sum + 1)]) np1) _ _ hS (by simp)
        have hl2 := (Keep.new (W := []) (o := .lst (wt.map V.int ++ [.int (ws.sum + 1)])) nc1) _ _ hl1 (by simp)
        have hl3 := (Keep.new (W := []) (o := .lst [.int (ws.sum + 1)]) np2) _ _ hl2 (by simp)
        have l5 := I0.len
        refine ⟨_, rfl, p2, l, _, _, rfl, rfl, upd_same, hl3, smallM (by rw [List.length_map, lnS]; show 1 + _ ≤ _; omega), fun c2 nc2 => ?_⟩
        have k4 := k3.then_new (o := .lst ([.int (ws.sum + 1)] ++ wt.map V.int)) nc2
        refine And.intro (by show 2 ≤ sizeLine; decide) <| fun tp ntp => ?_
        have k5 := k4.then_new (o := .tup [.ref c1, .ref c2]) ntp
        have hc1 : upd (upd (upd (upd (upd H2 p1 (.lst [.int (ws.sum + 1)])) c1 (.lst (wt.map V.int ++ [.int (ws.sum + 1)]))) p2 (.lst [.int (ws.sum + 1)])) c2 (.lst ([.int (ws.sum + 1)] ++ wt.map V.int))) tp (.tup [.ref c1, .ref c2]) c1 = some (.lst ((wt ++ [ws.sum + 1]).map V.int)) := by
          rw [List.map_append]
          exact (Keep.new (W := []) (o := .tup [.ref c1, .ref c2]) ntp) _ _ ((Keep.new (W := []) (o := .lst ([.int (ws.sum + 1)] ++ wt.map V.int)) nc2) _ _ ((Keep.new (W := []) (o := .lst [.int (ws.sum + 1)]) np2) _ _ upd_same (by simp)) (by simp)) (by simp)
        have hc2 : upd (upd (upd (upd (upd H2 p1 (.lst [.int (ws.sum + 1)])) c1 (.lst (wt.map V.int ++ [.int (ws.sum + 1)]))) p2 (.lst [.int (ws.sum + 1)])) c2 (.lst ([.int (ws.sum + 1)] ++ wt.map V.int))) tp (.tup [.ref c1, .ref c2]) c2 = some (.lst (((ws.sum + 1) :: wt).map V.int)) :=
          (Keep.new (W := []) (o := .tup [.ref c1, .ref c2]) ntp) _ _ upd_same (by simp)
        have htp : upd (upd (upd (upd (upd H2 p1 (.lst [.int (ws.sum + 1)])) c1 (.lst (wt.map V.int ++ [.int (ws.sum + 1)]))) p2 (.lst [.int (ws.sum + 1)])) c2 (.lst ([.int (ws.sum + 1)] ++ wt.map V.int))) tp (.tup [.ref c1, .ref c2]) tp = some (.tup [.ref c1, .ref c2]) := upd_same
        have nc1H := k1.free nc1
        have nc2H := k3.free nc2
        generalize upd (upd (upd (upd (upd H2 p1 (.lst [.int (ws.sum + 1)])) c1 (.lst (wt.map V.int ++ [.int (ws.sum + 1)]))) p2 (.lst [.int (ws.sum + 1)])) c2 (.lst ([.int (ws.sum + 1)] ++ wt.map V.int))) tp (.tup [.ref c1, .ref c2]) = H3 at *
        refine ⟨_, rfl, _, _, rfl, rfl, divOk y (by decide) (by decide), _, _, rfl, rfl, by show (0 : Int) < 2; decide, ?_⟩
        have b0 : (0 : Int) ≤ y.fdiv 90 % 2 := Int.emod_nonneg _ (by decide)
        have b1 : y.fdiv 90 % 2 < 2 := Int.emod_lt_of_pos _ (by decide)
        have lw : wt.length ≤ 4 := by rw [lnS, hwl]; omega
        dsimp only
        rcases (by omega : y.fdiv 90 % 2 = 0 ∨ y.fdiv 90 % 2 = 1) with e | e
        · rw [e]
          refine ⟨_, _, _, _, rfl, rfl, SqT.of htp, rfl, ⟨_, _, _, _, c1, wt ++ [ws.sum + 1], ws.sum, rfl, nc1H, hc1, k5, by rw [List.length_append]; show _ + 1 ≤ 5; omega, by rw [List.length_append]; show 0 < _ + 1; omega, fun w hw => ?_, by omega⟩⟩
          rcases List.mem_append.mp hw with hw | hw
          · exact smS w hw
          · rw [List.mem_singleton.mp hw]; omega
        · rw [e]
          refine ⟨_, _, _, _, rfl, rfl, SqT.of htp, rfl, ⟨_, _, _, _, c2, (ws.sum + 1) :: wt, ws.sum, rfl, nc2H, hc2, k5, by rw [List.length_cons]; omega, by rw [List.length_cons]; omega, fun w hw => ?_, by omega⟩⟩
          rcases List.mem_cons.mp hw with hw | hw
          · rw [hw]; omega
          · exact smS w hw
      clear I0 hsum hws hl kk hwl
      rintro σ H2 hσ
      -- way 3
      refine ⟨WIn c y H 60, ?_, ?_⟩
      · obtain ⟨o3, o4, o6, o7, l, ws, W, rfl, I⟩ := hσ
        have hW := I.W
        refine ⟨_, rfl, .inl ⟨_, rfl, _, _, rfl, rfl, by show (0 : Int) < 9; decide, rfl, _, rfl, iteD (fun _ => ?_) (fun _ => WIn.mono (by decide) ⟨_, _, _, _, _, _, _, rfl, I⟩)⟩⟩
        exact ⟨_, rfl, _, _, rfl, rfl, _, _, _, _, l, ws, W + 1, rfl, I.new, I.at_, I.keep, I.len, I.ne, fun w hw => Nat.le_trans (I.sm w hw) (by decide), by omega⟩
      rintro σ H3 hσ
      -- way 4
      refine ⟨WIn c y H (10 ^ 23), ?_, ?_⟩
      · obtain ⟨o3, o4, o6, o7, l, ws, W, rfl, I⟩ := hσ
        have hW := I.W
        have e23 : (60 : Nat) ≤ 10 ^ 23 := by decide
        refine ⟨_, rfl, .inl ⟨_, rfl, _, _, rfl, rfl, by show (0 : Int) < 9; decide, rfl, _, rfl, iteD (fun _ => ?_) (fun _ => WIn.mono e23 ⟨_, _, _, _, _, _, _, rfl, I⟩)⟩⟩
        have b0 : (0 : Int) ≤ y.fdiv 9 % 3 := Int.emod_nonneg _ (by decide)
        have b1 : y.fdiv 9 % 3 < 3 := Int.emod_lt_of_pos _ (by decide)
        refine ⟨_, _, rfl, rfl, by exact ⟨by decide, by decide, by decide⟩, _, _, rfl, rfl, by exact ⟨by decide, by decide, by decide⟩, And.intro (by show 3 ≤ sizeLine; decide) <| fun tp ntp => ?_⟩
        have kt := I.keep.then_new (o := .tup [.int 1000, .int (10 ^ 9), .int (10 ^ 20)]) ntp
        have hlt := (Keep.new (W := []) (o := .tup [.int 1000, .int (10 ^ 9), .int (10 ^ 20)]) ntp) _ _ I.at_ (by simp)
        have htp : upd H3 tp (.tup [.int 1000, .int (10 ^ 9), .int (10 ^ 20)]) tp = some (.tup [.int 1000, .int (10 ^ 9), .int (10 ^ 20)]) := upd_same
        refine ⟨_, rfl, _, _, rfl, rfl, divOk y (by decide) (by decide), .inl ⟨_, rfl, _, _, rfl, rfl, by show (0 : Int) < 3; decide, ?_⟩⟩
        obtain ⟨g, hg1, hg2⟩ : ∃ g : Int, g.natAbs ≤ 10 ^ 20 ∧ atI [V.int 1000, V.int (10 ^ 9), V.int (10 ^ 20)] (y.fdiv 9 % 3) = some (.int g) := by
          rcases (by omega : y.fdiv 9 % 3 = 0 ∨ y.fdiv 9 % 3 = 1 ∨ y.fdiv 9 % 3 = 2) with e | e | e <;> rw [e]
          · exact ⟨1000, by decide, rfl⟩
          · exact ⟨10 ^ 9, by decide, rfl⟩
          · exact ⟨10 ^ 20, by decide, rfl⟩
        refine ⟨_, _, _, _, rfl, rfl, SqT.of htp, hg2, ?_⟩
        refine ⟨_, rfl, l, rfl, ⟨_, SqL.of hlt⟩, fun D nD => ?_⟩
        have lnI := I.len
        refine lc_list (K := K) (a := l) (xs := ws.map V.int) (fun i H' => H' D = some (.lst (((ws.take i).map (g * ·)).map V.int)) ∧ Keep [] (upd H3 tp (.tup [.int 1000, .int (10 ^ 9), .int (10 ^ 20)])) H') ⟨upd_same, Keep.new nD⟩ (fun i H' _ ⟨_, kk⟩ => SqL.of (kk _ _ hlt (by simp))) ?_ ?_
        · rintro i x H' hx ⟨hD, kk⟩
          obtain ⟨z, hz, rfl⟩ := ints_get hx
          have hi := (List.getElem?_eq_some_iff.mp hz).1
          have hzb := I.sm z (List.mem_of_getElem? hz)
          refine ⟨rfl, yes_then ⟨_, rfl, _, rfl, _, _, rfl, rfl, CMul.ok (.inr ⟨by omega, by omega⟩), _, hD, smallL (by simp; omega), ?_, kk.then_own nD⟩⟩
          rw [upd_same, take_snoc hz, List.map_append, List.map_append]; rfl
        · rintro H5 ⟨hD, k5⟩
          rw [List.length_map, List.take_length] at hD
          refine ⟨_, rfl, _, rfl, _, _, rfl, rfl, CMul.ok (.inr ⟨by omega, by omega⟩), _, rfl, And.intro (by show 2 ≤ sizeLine; decide) <| fun tq ntq => ?_⟩
          have kq := k5.then_new (o := .tup [.int 1, .int (-1)]) ntq
          have hDq := (Keep.new (W := []) (o := .tup [.int 1, .int (-1)]) ntq) _ _ hD (by simp)
          have htq : upd H5 tq (.tup [.int 1, .int (-1)]) tq = some (.tup [.int 1, .int (-1)]) := upd_same
          generalize upd H5 tq (.tup [.int 1, .int (-1)]) = H6 at *
          refine ⟨_, rfl, _, _, rfl, rfl, divOk y (by decide) (by decide), .inl ⟨_, rfl, _, _, rfl, rfl, by show (0 : Int) < 2; decide, ?_⟩⟩
          have d0 : (0 : Int) ≤ y.fdiv 27 % 2 := Int.emod_nonneg _ (by decide)
          have d1 : y.fdiv 27 % 2 < 2 := Int.emod_lt_of_pos _ (by decide)
          obtain ⟨s, hs1, hs2⟩ : ∃ s : Int, s.natAbs ≤ 1 ∧ atI [V.int 1, V.int (-1)] (y.fdiv 27 % 2) = some (.int s) := by
            rcases (by omega : y.fdiv 27 % 2 = 0 ∨ y.fdiv 27 % 2 = 1) with e | e <;> rw [e]
            · exact ⟨1, by decide, rfl⟩
            · exact ⟨-1, by decide, rfl⟩
          have prod : ∀ z : Int, z.natAbs ≤ 60 → (g * z).natAbs ≤ 10 ^ 20 * 60 := fun z hz => by
            rw [Int.natAbs_mul]; exact Nat.mul_le_mul hg1 hz
          refine ⟨_, _, _, _, rfl, rfl, SqT.of htq, hs2, _, _, rfl, rfl, _, _, _, _, D, ws.map (g * ·), g * W + s, rfl, kt.free nD, hDq, kt.trans kq, by rw [List.length_map]; exact I.len, by rw [List.length_map]; exact I.ne, fun w hw => ?_, ?_⟩
          · obtain ⟨z, hz, rfl⟩ := List.mem_map.mp hw
            have := prod z (I.sm z hz)
            exact Nat.le_trans this (by decide)
          · have h1 := prod W hW
            have e1 : (10 : Nat) ^ 20 * 60 + 1 ≤ 10 ^ 23 := by decide
            have e2 := Int.natAbs_add_le (g * W) s
            omega
      rintro σ H4 hσ
      -- way 5
      refine ⟨WIn c y H (10 ^ 24), ?_, ?_⟩
      · obtain ⟨o3, o4, o6, o7, l, ws, W, rfl, I⟩ := hσ
        have hW := I.W
        have e23 : (10 : Nat) ^ 23 + 1 ≤ 10 ^ 24 := by decide
        refine ⟨_, rfl, .inl ⟨_, rfl, _, _, rfl, rfl, by show (0 : Int) < 9; decide, rfl, _, rfl, iteD (fun _ => ?_) (fun _ => WIn.mono (Nat.le_of_succ_le e23) ⟨_, _, _, _, _, _, _, rfl, I⟩)⟩⟩
        exact ⟨_, rfl, _, _, rfl, rfl, _, _, _, _, l, ws, W - 1, rfl, I.new, I.at_, I.keep, I.len, I.ne, fun w hw => Nat.le_trans (I.sm w hw) (by omega), by omega⟩
      rintro σ H5 hσ
      have lg : (10 : Nat) ^ 24 < 2 ^ 200 := Nat.lt_trans (show (10 : Nat) ^ 24 < 2 ^ 90 by decide) (Nat.pow_lt_pow_right (by decide) (by decide))
      refine ⟨fun σ H' => WIn c y H (10 ^ 24) σ H' ∧ ∃ W, σ[5]? = some (some (.int W)) ∧ 1 ≤ W, ?_, ?_⟩
      · obtain ⟨o3, o4, o6, o7, l, ws, W, rfl, I⟩ := hσ
        refine ⟨_, rfl, _, _, rfl, rfl, _, rfl, iteD (fun _ => ?_) (fun h => ⟨⟨_, _, _, _, _, _, _, rfl, I⟩, W, rfl, by omega⟩)⟩
        have e24 : (1 : Nat) ≤ 10 ^ 24 := by decide
        refine And.intro (by show 1 ≤ sizeLine; decide) <| fun p np => ?_
        have kp := I.keep.then_new (o := .lst [.int 1]) np
        have hlp := (Keep.new (W := []) (o := .lst [.int 1]) np) _ _ I.at_ (by simp)
        have hpp : upd H5 p (.lst [.int 1]) p = some (.lst [.int 1]) := upd_same
        generalize upd H5 p (.lst [.int 1]) = H6 at *
        refine ⟨_, rfl, _, rfl, l, _, rfl, SqL.of hlp, fun q nq => ?_⟩
        obtain ⟨ts, ets, hts1, hts2⟩ : ∃ ts : List Int, cutV (ws.map V.int) (some 1) none = ts.map V.int ∧ ts.length + 1 ≤ ws.length ∧ ∀ x ∈ ts, x ∈ ws := by
          refine ⟨(ws.drop (min 1 ws.length)).take (ws.length - min 1 ws.length), ?_, ?_, fun x hx => List.mem_of_mem_drop (List.mem_of_mem_take hx)⟩
          · unfold cutV
            rw [show (some (1 : Int)) = some ((1 : Nat) : Int) from rfl, HT.sIx_nat, HT.sIx_none, List.length_map, List.map_take, List.map_drop]
          · have := I.ne
            rw [List.length_take, List.length_drop]; omega
        rw [ets]
        have kq := kp.then_new (o := .lst (ts.map V.int)) nq
        have hpq := (Keep.new (W := []) (o := .lst (ts.map V.int)) nq) _ _ hpp (by simp)
        have l5 := I.len
        refine ⟨p, q, _, _, rfl, rfl, hpq, upd_same, smallM (by rw [List.length_map]; show 1 + _ ≤ _; omega), fun cc ncc => ?_⟩
        refine ⟨⟨_, _, _, _, cc, 1 :: ts, 1, rfl, kq.free ncc, upd_same, kq.then_new ncc, by rw [List.length_cons]; omega, by rw [List.length_cons]; omega, fun w hw => ?_, e24⟩, 1, rfl, by decide⟩
        rcases List.mem_cons.mp hw with hw | hw
        · rw [hw]; exact e24
        · exact I.sm w (hts2 w hw)
      rintro σ H6 ⟨⟨o3, o4, o6, o7, l, ws, W, rfl, I⟩, W', hW', h1⟩
      obtain rfl : W = W' := V.int.inj (Option.some.inj (Option.some.inj hW'))
      refine ⟨_, rfl, _, rfl, And.intro (by show 2 ≤ sizeLine; decide) <| fun t nt => ?_⟩
      exact k t l ws W _ ⟨h1, I.len, fun w hw => Nat.lt_of_le_of_lt (I.sm w hw) lg, Nat.lt_of_le_of_lt I.W lg⟩ I.new (I.keep.free nt) ((Keep.new (W := []) (o := .tup [.ref l, .int W]) nt) _ _ I.at_ (by simp)) upd_same (I.keep.then_new nt)
end

theorem tyI {C : Addr} (i : InsC K C) {H : Hp} {p dx : Addr} {fs : List (Str × V)} (h : H p = some (.ins C dx fs)) : TyX K H (.ref p) (.ref C) := .base (.ins h i.cl i.ha i.hn i.htk i.hm)
theorem eqv_view {L M : List Ev} (h : ∀ e ∈ L, OkE e) : PyData.eqv (dView L) (dView M) = decide (L = M) := by
  by_cases z : L = M
  · subst z
    rw [decide_eq_true rfl]
    exact SeqAt.eqv_refl _ (SeqAt.canLay_of_shaped (shaped_view h))
  · rw [decide_eq_false z]
    cases q : PyData.eqv (dView L) (dView M) with
    | false => rfl
    | true => exact absurd (dView_inj (eqv_pl _ _ (pl_view L) (pl_view M) q)) z
theorem mem_views {f : List (List Ev)} {M : List Ev} (hf : ∀ L ∈ f, ∀ e ∈ L, OkE e) : ((f.map dView).any fun z => PyData.eqv z (dView M)) = decide (M ∈ f) := by
  rw [List.any_map]
  induction f with
  | nil => rfl
  | cons a l ih =>
    rw [List.any_cons, ih fun x hx => hf x (List.mem_cons_of_mem _ hx)]
    show (PyData.eqv (dView a) (dView M) || _) = _
    rw [eqv_view (hf a (List.mem_cons_self ..))]
    by_cases h : a = M
    · subst h; simp
    · have h' : ¬ M = a := fun z => h z.symm
      simp [h, h']
theorem depth_view (L : List Ev) : (dView L).depth ≤ 10 := by
  have := depth_evs L
  simp only [dView, PyData.depth]
  omega
/-! the law's views and rows -/
inductive RW (N : Addr → Prop) (H : Hp) : List V → List WT → Prop
  | nil : RW N H [] []
  | cons {q l : Addr} {vs : List V} {es : List WT} {L : List Ev} {ws : List Int} {W : Int} : H q = some (.tup [.ref l, .int W]) → H l = some (.lst (ws.map V.int)) → N l → RW N H vs es → RW N H (.ref q :: vs) ((L, ws, W) :: es)
theorem RW.keepN {N : Addr → Prop} {H H' : Hp} (tk : TK H H') (kl : ∀ b ys, N b → H b = some (.lst ys) → H' b = some (.lst ys)) {vs : List V} {es : List WT} (h : RW N H vs es) : RW N H' vs es := by
  induction h with
  | nil => exact .nil
  | cons a b n _ ih => exact .cons (tk _ _ a) (kl _ _ n b) n ih
theorem RW.keep {N : Addr → Prop} {H H' : Hp} (k : Keep [] H H') {vs : List V} {es : List WT} (h : RW N H vs es) : RW N H' vs es := h.keepN k.tk fun b ys _ hb => k _ _ hb (by simp)
theorem RW.all {N : Addr → Prop} {H : Hp} {vs : List V} {es : List WT} (h : RW N H vs es) : RW (fun _ => True) H vs es := by
  induction h with
  | nil => exact .nil
  | cons a b _ _ ih => exact .cons a b trivial ih
theorem RW.len {N : Addr → Prop} {H : Hp} {vs : List V} {es : List WT} (h : RW N H vs es) : vs.length = es.length := by
  induction h with
  | nil => rfl
  | cons _ _ _ _ ih => rw [List.length_cons, List.length_cons, ih]
theorem RW.get {N : Addr → Prop} {H : Hp} {vs : List V} {es : List WT} (h : RW N H vs es) : ∀ {i : Nat} {L : List Ev} {ws : List Int} {W : Int}, es[i]? = some (L, ws, W) → ∃ q l, vs[i]? = some (.ref q) ∧ H q = some (.tup [.ref l, .int W]) ∧ H l = some (.lst (ws.map V.int)) := by
  induction h with
  | nil => intro i L ws W e; simp at e
  | @cons q l vs es L ws W a b _ _ ih =>
    intro i L' ws' W' e
    cases i with
    | zero => simp at e; obtain ⟨_, rfl, rfl⟩ := e; exact ⟨q, l, rfl, a, b⟩
    | succ j => simp at e; obtain ⟨q', l', e1, e2, e3⟩ := ih e; exact ⟨q', l', by simpa using e1, e2, e3⟩
theorem RW.snoc {N : Addr → Prop} {H : Hp} {vs : List V} {es : List WT} {q l : Addr} {L : List Ev} {ws : List Int} {W : Int} (h : RW N H vs es) (hq : H q = some (.tup [.ref l, .int W])) (hl : H l = some (.lst (ws.map V.int))) (n : N l) : RW N H (vs ++ [.ref q]) (es ++ [(L, ws, W)]) := by
  induction h with
  | nil => exact .cons hq hl n .nil
  | cons a b m _ ih => exact .cons a b m ih
def VR (H : Hp) (v r : Addr) (es : List WT) : Prop := ∃ vs rs, H v = some (.lst vs) ∧ TDs H vs (es.map fun e => dView e.1) ∧ H r = some (.lst rs) ∧ RW (fun _ => True) H rs es
theorem VR.keep {H H' : Hp} {v r : Addr} {es : List WT} (h : VR H v r es) (k : Keep [] H H') : VR H' v r es := by
  obtain ⟨vs, rs, h1, h2, h3, h4⟩ := h
  exact ⟨vs, rs, k _ _ h1 (by simp), h2.tk k.tk, k _ _ h3 (by simp), h4.keep k⟩
theorem es_view {H : Hp} {vs : List V} {es : List WT} (h : TDs H vs (es.map fun e => dView e.1)) {i : Nat} {L : List Ev} {ws : List Int} {W : Int} (e : es[i]? = some (L, ws, W)) : ∃ v, vs[i]? = some v ∧ TD H v (dView L) := h.get (by rw [List.getElem?_map, e]; rfl)
def optV : Option Nat → V
  | some k => .int (k : Nat)
  | none => .non
def sp_bad : Sp := fun vs H Q _ => ∃ v r es, vs = [.ref v, .ref r] ∧ VR H v r es ∧ EK es ∧ ∀ H', Keep [] H H' → Q (optV (badAt es)) H'
def sp_told (P : Program) (w : World) (CP CR : Addr) : Sp := fun vs H Q _ => ∃ x v r es, vs = [.ref x, .ref v, .ref r] ∧ PlanAt P w CP CR H x (tabI es) ∧ VR H v r es ∧ EK es ∧ ∀ H', Keep [] H H' → Q (.bl true) H'
def sp_req (C : Addr) : Sp := fun vs H Q _ => ∃ (a b : Addr) (n d n' d' : Int), vs = [.ref a, .ref b] ∧ RatAt C H a n d ∧ RatAt C H b n' d' ∧ Q (.bl (decide (n = n' ∧ d = d'))) H
theorem neOwn_of {K : PySem.W.Frag} {C a b : Addr} {H : Hp} {xs ys : List V} {rs : List Rt} {Q : VK} (ha : H a = some (.lst xs)) (hb : H b = some (.lst ys)) (h1 : RL C H xs rs) (h2 : RL C H ys rs) (q : Q (.bl false) H) : rNeOwn K C (sp_req C) (.ref a) (.ref b) H Q := by
  have l1 := h1.len
  have l2 := h2.len
  refine ⟨a, b, xs, ys, rfl, rfl, SqL.of ha, SqL.of hb, by omega, fun i p p' e1 e2 => ?_, q⟩
  have hi := (List.getElem?_eq_some_iff.mp e1).1
  obtain ⟨c, x1, r1⟩ := h1.get (i := i) (List.getElem?_eq_getElem (by omega))
  obtain ⟨d, x2, r2⟩ := h2.get (i := i) (List.getElem?_eq_getElem (by omega))
  rw [e1] at x1
  rw [e2] at x2
  cases x1
  cases x2
  obtain ⟨dx, g1⟩ := id r1
  obtain ⟨dy, g2⟩ := id r2
  exact ⟨c, d, dx, dy, _, _, rfl, rfl, g1, g2, c, d, _, _, _, _, rfl, r1, r2, by rw [decide_eq_true (And.intro rfl rfl)], rfl⟩
theorem wri_take {ws : List Int} {W : Int} {i : Nat} {z : Int} (h : ws[i]? = some z) : wri (ws.take (i + 1)) W = wri (ws.take i) W ++ [(redN z W, redD z W)] := by
  unfold wri
  rw [take_snoc h, List.map_append]; rfl
theorem big8 {n : Nat} (h : n < 2 ^ 200) : n < 2 ^ 8000 := Nat.lt_trans h (Nat.pow_lt_pow_right (by decide) (by decide))
theorem eqv_same {d : PyData} (h : SeqAt.shaped d = true) : PyData.eqv d d = true := SeqAt.eqv_refl _ (SeqAt.canLay_of_shaped h)
def sp_isint : Sp := fun vs H Q _ => ∃ z : Int, vs = [.int z] ∧ Q (.bl true) H
section
variable {P : Program} {w : World} {K : PySem.W.Frag} {mg : Str → Option Value} {base : Heap} {C_Ratio : Addr} {C_Plan : Addr} {C_GameError : Addr} {C_BadMove : Addr} {C_BadPaper : Addr} {C_BadRatio : Addr} {C_BadText : Addr} {C_BadPlan : Addr} {f_BadPlan___init : Addr}
theorem ok_bad {f : Addr} {fd : FuncData} (D : C8.Def K mg "_law_bad" s_law_bad f fd) (b : Binds K fd ["views", "rows"] []) (T : Txt K mg C_Ratio C_Plan C_GameError C_BadMove C_BadPaper C_BadRatio C_BadText C_BadPlan) : C8.Cal P w K mg base 1 "_law_bad" sp_bad [] := by
  refine cal0 D b .nil sc_law_bad (fun vs H Q E h => ?_) (fun cdv A outer s H vs Q E hr h => ?_)
  · obtain ⟨v, r, es, rfl, _⟩ := h
    rfl
  · obtain ⟨v, r, es, rfl, hVR, hek, k⟩ := h
    refine ⟨_, (pss_cons (ps_for PassesOwn.never rfl (pi_range1 (by rfl) T.n_range (pa_cons (pe_callB call_len_seq (by rfl) T.n_len bo_len (pa_cons (pv 1) pa_nil)) pa_nil)) (pg_name (i := 2) sc_law_bad.nd rfl (by first | exact Or.inl rfl | exact Or.inr rfl))
  (pss_cons (ps_set (i := 3) sc_law_bad.nd rfl (by first | exact Or.inl rfl | exact Or.inr rfl) (pe_ix ix_tup (pe_ix ix_list (pv 1) (pv 2) (fun _ _ => rfl)) pe_int (fun _ _ => rfl)))
  (pss_one (ps_if (PW.pt (pw_or (pt_cmpR (op_inD (un65 hr)) (pe_ix ix_list (pv 0) (pv 2) (fun _ _ => rfl)) (pe_slice sl_list (pv 0) po_none (po_some (pv 2))) (by rfl)) (pw_or (pt_cmpR op_eq (pe_callB call_len_seq (by rfl) T.n_len bo_len (pa_cons (pv 3) pa_nil)) pe_int (nomark _)) (pw_or (pt_cmpR op_lt (pe_callB (cr_min rfl) (by rfl) T.n_min bo_min (pa_cons (pv 3) pa_nil)) pe_int (nomark _)) (pw_or1 (pt_cmpR op_ne (pe_callB (cr_sum rfl) (by rfl) T.n_sum bo_sum (pa_cons (pv 3) pa_nil)) (pe_ix ix_tup (pe_ix ix_list (pv 1) (pv 2) (fun _ _ => rfl)) pe_int (fun _ _ => rfl)) (nomark _)))))))
    (pss_one (ps_ret (pv 2)))
    pss_nil))))
(pss_one (ps_ret pe_non))), ?_⟩
    obtain ⟨vs, rs, hv, hvs, hr', hrs⟩ := id hVR
    have hrl := hrs.len
    have hvl := hvs.length
    rw [List.length_map] at hvl
    have h10 := hek.len
    refine ⟨_, rfl, r, rs, rfl, .inl (SqL.of hr'), _, rfl, by omega, by omega, for_range (lo := 0) (n := rs.length) (fun i σ H' => ∃ o2 o3, σ = [some (.ref v), some (.ref r), o2, o3] ∧ Keep [] H H' ∧ ∀ j, j < i → badI es j = false) ⟨_, _, rfl, Keep.refl _ _, fun j h => absurd h (Nat.not_lt_zero _)⟩ ?_ ?_⟩
    · rintro i σ H1 hi ⟨o2, o3, rfl, kk, hno⟩
      have e0 : (0 : Int) + (i : Int) = (i : Int) := by omega
      rw [e0]
      have hie : i < es.length := by omega
      obtain ⟨⟨L, ws, W⟩, hei⟩ : ∃ e, es[i]? = some e := ⟨_, List.getElem?_eq_getElem hie⟩
      obtain ⟨q, l, hq, hqt, hl⟩ := hrs.get hei
      obtain ⟨vw, hvw, hvd⟩ := es_view hvs hei
      have hwk := hek.ok _ (List.mem_of_getElem? hei)
      have hok := hek.ev _ (List.mem_of_getElem? hei)
      have hbi : badI es i = (decide (L ∈ (es.take i).map (·.1)) || (decide (ws = []) || !lotB ws W)) := by unfold badI; rw [hei]
      refine ⟨_, rfl, _, rfl, _, _, _, _, rfl, rfl, SqL.of (kk _ _ hr' (by simp)), atI_nat hq, _, _, _, _, rfl, rfl, SqT.of (kk _ _ hqt (by simp)), rfl, ?_⟩
      refine ⟨_, rfl, _, rfl, _, _, _, _, rfl, rfl, SqL.of (kk _ _ hv (by simp)), atI_nat hvw, _, rfl, _, rfl, _, rfl, v, _, rfl, SqL.of (kk _ _ hv (by simp)), fun p np => ?_⟩
      have ecut : cutV vs none (some ((i : Nat) : Int)) = vs.take i := by
        unfold cutV
        rw [HT.sIx_nat, HT.sIx_none, Nat.min_eq_left (by omega)]
        show (vs.drop 0).take (i - 0) = _
        rw [List.drop_zero, Nat.sub_zero]
      rw [ecut]
      have kp := kk.then_new (o := .lst (vs.take i)) np
      have hpp : upd H1 p (.lst (vs.take i)) p = some (.lst (vs.take i)) := upd_same
      generalize upd H1 p (.lst (vs.take i)) = H2 at *
      have hts : TDs H2 (vs.take i) (((es.take i).map (·.1)).map dView) := by
        have := (hvs.tk kp.tk).take i
        rw [← List.map_take] at this
        rw [List.map_map]
        exact this
      have hokt : ∀ M ∈ (es.take i).map (·.1), ∀ e ∈ M, OkE e := fun M hM => by
        obtain ⟨e, he, rfl⟩ := List.mem_map.mp hM
        exact hek.ev e (List.mem_of_mem_take he)
      refine ⟨_, _, (hvd.tk kp.tk).dp, .lst (SqL.of hpp) hts.dp, shaped_view hok, shaped_list (fun d hd => ?_) (fun d hd => ?_), _, rfl, ?_⟩
      · obtain ⟨M, hM, rfl⟩ := List.mem_map.mp hd
        exact shaped_view (hokt M hM)
      · obtain ⟨M, hM, rfl⟩ := List.mem_map.mp hd
        exact depth_view M
      rw [mem_views hokt]
      have fin : badI es i = true → ∀ σ : List (Option V), σ[2]? = some (some (.int (i : Nat))) → Q (.int (i : Nat)) H2 := fun hb _ _ => by
        have := k H2 kp
        rw [badAt_some hie hb hno] at this
        exact this
      have hl2 := kp _ _ hl (by simp)
      refine iteD (fun e => ?_) (fun e => ?_)
      · exact ⟨_, rfl, fin (by rw [hbi, decide_eq_true e]; rfl) [none, none, some (.int (i : Nat))] rfl⟩
      refine ⟨_, rfl, l, _, rfl, .inl (SqL.of hl2), rfl, _, rfl, iteD (fun e2 => ?_) (fun e2 => ?_)⟩
      · have hw : ws = [] := by
          have := V.int.inj e2
          rw [List.length_map] at this
          exact List.length_eq_zero_iff.mp (by omega)
        exact ⟨_, rfl, fin (by rw [hbi, decide_eq_true hw]; simp) [none, none, some (.int (i : Nat))] rfl⟩
      have hw : ¬ ws = [] := fun z => e2 (by rw [z]; rfl)
      have hw0 : 0 < ws.length := List.length_pos_iff.mpr hw
      refine ⟨_, rfl, l, ws, rfl, SqL.of hl2, hw0, fun m hm1 hm2 => ⟨_, _, rfl, rfl, _, rfl, iteD (fun e3 => ?_) (fun e3 => ?_)⟩⟩
      · have : lotB ws W = false := by
          unfold lotB
          have : (ws.all fun w => decide (0 ≤ w)) = false := by
            rw [List.all_eq_false]
            exact ⟨m, hm1, by simp; omega⟩
          rw [this, Bool.and_false]
        exact ⟨_, rfl, fin (by rw [hbi, this]; simp) [none, none, some (.int (i : Nat))] rfl⟩
      have hall : (ws.all fun w => decide (0 ≤ w)) = true := List.all_eq_true.mpr fun x hx => decide_eq_true (by have := hm2 x hx; omega)
      refine ⟨_, rfl, l, ws, rfl, SqL.of hl2, _, rfl, _, rfl, _, _, _, _, rfl, rfl, SqL.of (kp _ _ hr' (by simp)), atI_nat hq, _, _, _, _, rfl, rfl, SqT.of (kp _ _ hqt (by simp)), rfl, rfl, _, rfl, iteN (fun e4 => ?_) (fun e4 => ?_)⟩
      · have : lotB ws W = false := by
          unfold lotB
          rw [decide_eq_false (fun z => e4 (by rw [z])), Bool.false_and]
        exact ⟨_, rfl, fin (by rw [hbi, this]; simp) [none, none, some (.int (i : Nat))] rfl⟩
      have : lotB ws W = true := by unfold lotB; rw [hall, decide_eq_true (V.int.inj e4)]; rfl
      refine ⟨_, _, rfl, kp, fun j hj => ?_⟩
      rcases Nat.lt_or_ge j i with z | z
      · exact hno j z
      · have : j = i := by omega
        subst this
        rw [hbi, this, decide_eq_false e, decide_eq_false hw]; rfl
    · rintro σ H1 ⟨o2, o3, rfl, kk, hno⟩
      have := k H1 kk
      rw [badAt_none fun j hj => hno j (by omega)] at this
      exact this
theorem ok_req {f : Addr} {fd : FuncData} (me : Meth K C_Ratio "__eq__" f) (F : C8.Fun K "__eq__" "Ratio.__eq__" s_Ratio___eq f fd) (b : Binds K fd ["self", "other"] []) (T : Txt K mg C_Ratio C_Plan C_GameError C_BadMove C_BadPaper C_BadRatio C_BadText C_BadPlan) : Own P w K mg base 1 C_Ratio "__eq__" (sp_req C_Ratio) := by
  refine ⟨f, fd, ["self", "other"], me.at_, me.fn, C8.fn0 F sc_Ratio___eq (fun vs H Q E h => ?_) (fun cdv A outer s H vs Q E hr h => ?_), b⟩
  · obtain ⟨a, b, n, d, n', d', rfl, _⟩ := h
    rfl
  · obtain ⟨a, b, n, d, n', d', rfl, ⟨dx, h1⟩, ⟨dy, h2⟩, k⟩ := h
    refine ⟨_, (pss_one (ps_ret (pe_and (pe_callB call_isi (by rfl) T.n_isinstance bo_isinstance (pa_cons (pv 1) (pa_cons (pe_glob (v := .ref _) rfl T.m_Ratio rfl) pa_nil))) (pe_and (pe_cmpR op_eq (pe_fld (pv 0) rfl) (pe_fld (pv 1) rfl) (nomark _)) (pe_one (pe_cmpR op_eq (pe_fld (pv 0) rfl) (pe_fld (pv 1) rfl) (nomark _))))))), ?_⟩
    refine ⟨_, rfl, _, _, _, _, _, rfl, .own _, tyI T.i_Ratio h2, kitSelf, _, rfl, iteT ?_⟩
    refine ⟨_, rfl, a, C_Ratio, dx, _, _, rfl, h1, T.cl_Ratio, T.a_Ratio_num, rf_num n d, _, rfl, b, C_Ratio, dy, _, _, rfl, h2, T.cl_Ratio, T.a_Ratio_num, rf_num n' d', rfl, _, rfl, ?_⟩
    refine iteD (fun e => ?_) (fun e => ?_)
    · refine ⟨_, rfl, a, C_Ratio, dx, _, _, rfl, h1, T.cl_Ratio, T.a_Ratio_den, rf_den n d, _, rfl, b, C_Ratio, dy, _, _, rfl, h2, T.cl_Ratio, T.a_Ratio_den, rf_den n' d', rfl, ?_⟩
      have e1 : n = n' := V.int.inj e
      by_cases e2 : d = d'
      · rw [decide_eq_true ⟨e1, e2⟩] at k
        rw [decide_eq_true (by rw [e2])]; exact k
      · rw [decide_eq_false (fun z => e2 z.2)] at k
        rw [decide_eq_false (fun z => e2 (V.int.inj z))]; exact k
    · have e1 : ¬ n = n' := fun z => e (by rw [z])
      rw [decide_eq_false (fun z => e1 z.1)] at k
      exact k
theorem ok_ltold {f : Addr} {fd : FuncData} (D : C8.Def K mg "_law_told" s_law_told f fd) (b : Binds K fd ["plan", "views", "rows"] []) (T : Txt K mg C_Ratio C_Plan C_GameError C_BadMove C_BadPaper C_BadRatio C_BadText C_BadPlan) (c_Ratio2 : C8.Mak P w K mg base 1 "Ratio" C_Ratio (sp_rat C_Ratio) []) (c_Ratio_eq : Own P w K mg base 1 C_Ratio "__eq__" (sp_req C_Ratio))
    (c_Plan_entries : C8.Met P w K mg base 1 C_Plan "entries" (sp_pent P w C_Plan C_Ratio) []) : C8.Cal P w K mg base 4 "_law_told" (sp_told P w C_Plan C_Ratio) [] := by
  refine cal0 D b .nil sc_law_told (fun vs H Q E h => ?_) (fun cdv A outer s H vs Q E hr h => ?_)
  · obtain ⟨x, v, r, es, rfl, _⟩ := h
    rfl
  · obtain ⟨x, v, r, es, rfl, hP, hVR, hek, k⟩ := h
    refine ⟨_, (pss_cons (ps_set (i := 3) sc_law_told.nd rfl (by first | exact Or.inl rfl | exact Or.inr rfl) (pe_mt0 c_Plan_entries hr (by first | exact Nat.le_refl _ | decide | omega) (pv 0)))
(pss_cons (ps_if (PW.pt (pw_or (pt_not (pt_val (pe_callB call_isi (by rfl) T.n_isinstance bo_isinstance (pa_cons (pv 3) (pa_cons (pe_bltn (v := .ty "list") (by rfl) T.n_list bo_list rfl) pa_nil))))) (pw_or1 (pt_cmpR op_ne (pe_callB call_len_seq (by rfl) T.n_len bo_len (pa_cons (pv 3) pa_nil)) (pe_callB call_len_seq (by rfl) T.n_len bo_len (pa_cons (pv 2) pa_nil)) (nomark _)))))
  (pss_one (ps_ret pe_bl))
  pss_nil)
(pss_cons (ps_for PassesOwn.never rfl (pi_range1 (by rfl) T.n_range (pa_cons (pe_callB call_len_seq (by rfl) T.n_len bo_len (pa_cons (pv 2) pa_nil)) pa_nil)) (pg_name (i := 4) sc_law_told.nd rfl (by first | exact Or.inl rfl | exact Or.inr rfl))
  (pss_cons (ps_if (PW.pt (pw_or (pt_not (pt_val (pe_callB call_isi (by rfl) T.n_isinstance bo_isinstance (pa_cons (pe_ix ix_list (pv 3) (pv 4) (fun _ _ => rfl)) (pa_cons (pe_bltn (v := .ty "tuple") (by rfl) T.n_tuple bo_tuple rfl) pa_nil))))) (pw_or (pt_cmpR (op_neD hr.units) (pe_ix ix_tup (pe_ix ix_list (pv 3) (pv 4) (fun _ _ => rfl)) pe_int (fun _ _ => rfl)) (pe_ix ix_list (pv 1) (pv 4) (fun _ _ => rfl)) (nomark _)) (pw_or1 (pt_not (pt_val (pe_callB call_isi (by rfl) T.n_isinstance bo_isinstance (pa_cons (pe_ix ix_tup (pe_ix ix_list (pv 3) (pv 4) (fun _ _ => rfl)) pe_int (fun _ _ => rfl)) (pa_cons (pe_bltn (v := .ty "list") (by rfl) T.n_list bo_list rfl) pa_nil)))))))))
    (pss_one (ps_ret pe_bl))
    pss_nil)
  (pss_one (ps_if (pt_cmpR (op_neOwn c_Ratio_eq hr (by first | decide | omega)) (pe_ix ix_tup (pe_ix ix_list (pv 3) (pv 4) (fun _ _ => rfl)) pe_int (fun _ _ => rfl)) (pe_lc (own := [("weight", 5)]) (g := gName 5) (tt := tYes) rfl sc_law_told.nd (pi_list (pe_ix ix_tup (pe_ix ix_list (pv 2) (pv 4) (fun _ _ => rfl)) pe_int (fun _ _ => rfl))) (blkOk_by (N := ["plan", "views", "rows", "told", "k", "weight"]) (sc := fnScope s_law_told) (by decide +kernel)) (fun _ _ _ _ _ => pg_name (i := 5) sc_law_told.nd rfl (by first | exact Or.inl rfl | exact Or.inr rfl)) (fun _ _ _ _ _ => pts_nil) (fun _ _ _ _ _ => (pe_mk c_Ratio2 hr (by first | exact Nat.le_refl _ | decide | omega) rfl (pa_cons (pv 5) (pa_cons (pe_ix (ix_tupK (K := K)) (pe_ix (ix_listK (K := K)) (pv 2) (pv 4) (fun _ _ => rfl)) pe_int (fun _ _ => rfl)) pa_nil))))) (nomark _))
    (pss_one (ps_ret pe_bl))
    pss_nil))))
(pss_one (ps_ret pe_bl))))), ?_⟩
    have htl : (tabI es).length = es.length := by unfold tabI; rw [List.length_map]
    have h10 := hek.len
    have kTL : PySem.W.kitOne K (.type "list") (.type "list") = some true := kit_ty (by decide +kernel)
    have kTT : PySem.W.kitOne K (.type "tuple") (.type "tuple") = some true := kit_ty (by decide +kernel)
    obtain ⟨px, pd, pxs, hxp, hpd, hpe⟩ := id hP
    refine ⟨_, rfl, x, px, _, rfl, hxp, rfl, x, tabI es, rfl, hP, by omega, fun l gs H1 nl hl hgn k1 => ?_⟩
    have hVR1 := hVR.keep k1
    obtain ⟨vs, rs, hv, hvs, hr', hrs⟩ := id hVR1
    have hgl := hgn.gl.len
    have hrl := hrs.len
    refine ⟨_, rfl, _, _, _, _, _, rfl, .ty _, .base (.lst hl), kTL, _, rfl, iteF ?_⟩
    refine ⟨_, rfl, l, gs, rfl, .inl (SqL.of hl), _, rfl, r, rs, rfl, .inl (SqL.of hr'), rfl, _, rfl, iteNF (by rw [hgl, hrl, htl]) ?_⟩
    refine ⟨_, rfl, r, rs, rfl, .inl (SqL.of hr'), _, rfl, by omega, by omega, for_range (lo := 0) (n := rs.length) (fun i σ H' => ∃ o4, σ = [some (.ref x), some (.ref v), some (.ref r), some (.ref l), o4, none] ∧ Keep [] H1 H') ⟨_, rfl, Keep.refl _ _⟩ ?_ ?_⟩
    · rintro i σ H2 hi ⟨o4, rfl, kk⟩
      have e0 : (0 : Int) + (i : Int) = (i : Int) := by omega
      rw [e0]
      have hie : i < es.length := by omega
      obtain ⟨⟨L, ws, W⟩, hei⟩ : ∃ e, es[i]? = some e := ⟨_, List.getElem?_eq_getElem hie⟩
      obtain ⟨q, wl, hq, hqt, hwl⟩ := (hrs.keep kk).get hei
      obtain ⟨vw, hvw, hvd⟩ := es_view (hvs.tk kk.tk) hei
      have hwk := hek.ok _ (List.mem_of_getElem? hei)
      have hok := hek.ev _ (List.mem_of_getElem? hei)
      have hgi : gs[i]? = some gs[i] := List.getElem?_eq_getElem (by omega)
      obtain ⟨g, gl, gv, L', rs', hge, hgt, hgq, hgv, hgla⟩ := hgn.gl.get hgi
      obtain ⟨ws', W', hei', rfl⟩ := tabI_get hgt
      rw [hei] at hei'
      obtain ⟨rfl, rfl, rfl⟩ : L = L' ∧ ws = ws' ∧ W = W' := by
        have := Option.some.inj hei'
        simpa using this
      rw [hge] at hgi
      have hl2 := kk _ _ hl (by simp)
      have hr2 := kk _ _ hr' (by simp)
      have hv2 := kk _ _ hv (by simp)
      have hgq2 := kk _ _ hgq (by simp)
      have hgv2 := hgv.tk kk.tk
      obtain ⟨us, hus, hur⟩ := hgla.keep kk
      have shV := shaped_view hok
      refine ⟨_, rfl, _, rfl, _, _, _, _, rfl, rfl, SqL.of hl2, atI_nat hgi, _, _, _, _, _, rfl, .ty _, .base (.tup hgq2), kTT, _, rfl, iteF ?_⟩
      refine ⟨_, rfl, _, rfl, _, _, _, _, rfl, rfl, SqL.of hl2, atI_nat hgi, _, _, _, _, rfl, rfl, SqT.of hgq2, rfl, _, rfl, _, rfl, _, _, _, _, rfl, rfl, SqL.of hv2, atI_nat hvw, dView L, dView L, hgv2.dp, hvd.dp, shV, shV, _, rfl, ?_⟩
      rw [eqv_same shV]
      refine iteF ?_
      refine ⟨_, rfl, _, rfl, _, _, _, _, rfl, rfl, SqL.of hl2, atI_nat hgi, _, _, _, _, rfl, rfl, SqT.of hgq2, rfl, _, _, _, _, _, rfl, .ty _, .base (.lst hus), kTL, _, rfl, iteF ?_⟩
      refine ⟨_, rfl, _, rfl, _, _, _, _, rfl, rfl, SqL.of hl2, atI_nat hgi, _, _, _, _, rfl, rfl, SqT.of hgq2, rfl, ?_⟩
      refine ⟨_, rfl, _, rfl, _, _, _, _, rfl, rfl, SqL.of hr2, atI_nat hq, _, _, _, _, rfl, rfl, SqT.of hqt, rfl, wl, rfl, ⟨_, SqL.of hwl⟩, fun D nD => ?_⟩
      refine lc_list (K := K) (a := wl) (xs := ws.map V.int) (fun j H' => ∃ ys, H' D = some (.lst ys) ∧ RL C_Ratio H' ys (wri (ws.take j) W) ∧ Keep [] H2 H') ⟨[], upd_same, .nil, Keep.new nD⟩ (fun j H' _ ⟨_, _, _, k3⟩ => SqL.of (k3 _ _ hwl (by simp))) ?_ ?_
      · rintro j y H3 hy ⟨ys, hD, hys, k3⟩
        obtain ⟨z, hz, rfl⟩ := ints_get hy
        have hjl := (List.getElem?_eq_some_iff.mp hz).1
        have hyl := hys.len
        rw [wri_length, List.length_take] at hyl
        have hp : 1 ≤ W := hwk.pos
        have hw5 : ws.length ≤ 5 := hwk.len
        refine ⟨rfl, yes_then ⟨_, rfl, _, rfl, _, rfl, _, _, _, _, rfl, rfl, SqL.of (k3 _ _ hr2 (by simp)), atI_nat hq, _, _, _, _, rfl, rfl, SqT.of (k3 _ _ hqt (by simp)), rfl, fun x' dx' nx ndx ne => ⟨x', dx', z, W, rfl, by omega, big8 hwk.W, upd_same, fun H9 K9 hx9 => ⟨rfl, ?_⟩⟩⟩⟩
        have km := keep_made nx ndx K9
        have hD9 := km _ _ hD (by simp)
        refine ⟨ys, hD9, smallL (by omega), ys ++ [.ref x'], upd_same, ?_, (k3.trans km).then_own nD⟩
        rw [wri_take hz]
        exact ((hys.keep (KI.of km)).keep (KI.lst hD9)).snoc ⟨dx', (KI.lst (o := .lst (ys ++ [.ref x'])) hD9).2 _ _ _ _ hx9⟩
      · rintro H3 ⟨ys, hD, hys, k3⟩
        rw [List.length_map, List.take_length] at hys
        exact neOwn_of (k3 _ _ hus (by simp)) hD (hur.keep (KI.of k3)) hys ⟨_, rfl, iteF ⟨_, rfl, kk.trans k3⟩⟩
    · rintro σ H2 ⟨o4, rfl, kk⟩
      exact k H2 (k1.trans kk)
theorem ok_isint {f : Addr} {fd : FuncData} (D : C8.Def K mg "_law_is_integer" s_law_is_integer f fd) (b : Binds K fd ["actual"] []) (T : Txt K mg C_Ratio C_Plan C_GameError C_BadMove C_BadPaper C_BadRatio C_BadText C_BadPlan) : C8.Cal P w K mg base 1 "_law_is_integer" sp_isint [] := by
  refine cal0 D b .nil sc_law_is_integer (fun vs H Q E h => ?_) (fun cdv A outer s H vs Q E hr h => ?_)
  · obtain ⟨z, rfl, _⟩ := h
    rfl
  · obtain ⟨z, rfl, k⟩ := h
    refine ⟨_, (pss_one (ps_ret (pe_and (pe_callB call_isi (by rfl) T.n_isinstance bo_isinstance (pa_cons (pv 0) (pa_cons (pe_bltn (v := .ty "int") (by rfl) T.n_int bo_int rfl) pa_nil))) (pe_one (pe_not (pe_callB call_isi (by rfl) T.n_isinstance bo_isinstance (pa_cons (pv 0) (pa_cons (pe_bltn (v := .ty "bool") (by rfl) T.n_bool bo_bool rfl) pa_nil)))))))), ?_⟩
    have kII : PySem.W.kitOne K (.type "int") (.type "int") = some true := kit_ty (by decide +kernel)
    have kIB : PySem.W.kitOne K (.type "int") (.type "bool") = some false := kit_ty (by decide +kernel)
    exact ⟨_, rfl, _, _, _, _, _, rfl, .ty _, .base (.int z), kII, _, rfl, iteT ⟨_, rfl, _, _, _, _, _, rfl, .ty _, .base (.int z), kIB, _, rfl, k⟩⟩
end

section
variable {P : Program} {w : World} {K : PySem.W.Frag} {mg : Str → Option Value} {base : Heap} {C_Ratio : Addr} {C_Plan : Addr} {C_GameError : Addr} {C_BadMove : Addr} {C_BadPaper : Addr} {C_BadRatio : Addr} {C_BadText : Addr} {C_BadPlan : Addr} {f_BadPlan___init : Addr}
theorem ok_isintQ {f : Addr} {fd : FuncData} (D : C8.Def K mg "_law_is_integer" s_law_is_integer f fd) (b : Binds K fd ["actual"] []) (T : Txt K mg C_Ratio C_Plan C_GameError C_BadMove C_BadPaper C_BadRatio C_BadText C_BadPlan) : SuC.CalQ P w K mg base 1 "_law_is_integer" sp_isint := by
  refine SuC.cal_of D.fn D.mgf D.kp b sc_law_is_integer (fun vs H Q E h => ?_) (fun cdv A outer s H vs Q p h => ?_)
  · obtain ⟨z, rfl, _⟩ := h
    rfl
  · obtain ⟨z, rfl, k⟩ := h
    refine ⟨_, (pss_one (ps_ret (pe_and (pe_callB call_isi (by rfl) T.n_isinstance bo_isinstance (pa_cons (pv 0) (pa_cons (pe_bltn (v := .ty "int") (by rfl) T.n_int bo_int rfl) pa_nil))) (pe_one (pe_not (pe_callB call_isi (by rfl) T.n_isinstance bo_isinstance (pa_cons (pv 0) (pa_cons (pe_bltn (v := .ty "bool") (by rfl) T.n_bool bo_bool rfl) pa_nil)))))))), ?_⟩
    have kII : PySem.W.kitOne K (.type "int") (.type "int") = some true := kit_ty (by decide +kernel)
    have kIB : PySem.W.kitOne K (.type "int") (.type "bool") = some false := kit_ty (by decide +kernel)
    exact ⟨_, rfl, _, _, _, _, _, rfl, .ty _, .base (.int z), kII, _, rfl, iteT ⟨_, rfl, _, _, _, _, _, rfl, .ty _, .base (.int z), kIB, _, rfl, k⟩⟩
end

/-! the law -/
def sp_law (K : PySem.W.Frag) : Sp := fun vs H Q _ => ∃ (a : Addr) (ns : List Int), vs = [.ref a] ∧ SqL K H a (ns.map V.int) ∧ ∀ H', Q (.bl true) H'
theorem EK.snoc {es : List WT} (h : EK es) {m : Int} {ws : List Int} {W : Int} (hw : WK ws W) (hl : es.length < 10) : EK (es ++ [([(("round" : Str), [0]), (("move" : Str), [m, 3])], ws, W)]) := ⟨by rw [List.length_append]; show _ + 1 ≤ 10; omega, fun e he => by
  rcases List.mem_append.mp he with he | he
  · exact h.ok e he
  · rw [List.mem_singleton.mp he]; exact hw, fun e he v hv => by
  rcases List.mem_append.mp he with he | he
  · exact h.ev e he v hv
  · rw [List.mem_singleton.mp he] at hv
    rcases List.mem_cons.mp hv with rfl | hv
    · exact ok_round _
    · rw [List.mem_singleton.mp hv]; exact ok_move _⟩
/-- the lists of the entries -/
theorem GN.lists {C : Addr} {N : Addr → Prop} {H : Hp} {vs : List V} {t : List Ent2} (h : GN C N H vs t) : ∃ ls : List Addr, (∀ l ∈ ls, N l ∧ ∃ us rs, H l = some (.lst us) ∧ us.length = rs.length ∧ (∃ L, (L, rs) ∈ t)) ∧ ∀ (i : Nat) v, vs[i]? = some v → ∃ q vw l, v = .ref q ∧ H q = some (.tup [vw, .ref l]) ∧ l ∈ ls := by
  induction h with
  | nil => exact ⟨[], (fun l h => by cases h), fun i v e => by simp at e⟩
  | @cons q l vw vs t L rs hq hv hl n _ ih =>
    obtain ⟨ls, h1, h2⟩ := ih
    obtain ⟨us, hu, hr⟩ := hl
    refine ⟨l :: ls, fun x hx => ?_, fun i v e => ?_⟩
    · rcases List.mem_cons.mp hx with rfl | hx
      · exact ⟨n, us, rs, hu, hr.len, L, List.mem_cons_self ..⟩
      · obtain ⟨m, us', rs', a, b, L', c⟩ := h1 x hx
        exact ⟨m, us', rs', a, b, L', List.mem_cons_of_mem _ c⟩
    · cases i with
      | zero => simp at e; subst e; exact ⟨q, vw, l, rfl, hq, List.mem_cons_self ..⟩
      | succ j => simp at e; obtain ⟨q', vw', l', a, b, c⟩ := h2 j v e; exact ⟨q', vw', l', a, b, List.mem_cons_of_mem _ c⟩
theorem tabI_len {es : List WT} (h : EK es) : ∀ L rs, (L, rs) ∈ tabI es → rs.length ≤ 5 := fun L rs hm => by
  obtain ⟨e, he, z⟩ := List.mem_map.mp hm
  cases z
  rw [wri_length]
  exact (h.ok e he).len
/-- a heap without some places -/
def cutL (H : Hp) (W : List Addr) : Hp := fun b => if b ∈ W then none else H b
theorem cutL_of {H : Hp} {W : List Addr} {b : Addr} {o : HO} (h : H b = some o) (n : b ∉ W) : cutL H W b = some o := by unfold cutL; rw [if_neg n]; exact h
theorem cutL_none {H : Hp} {W : List Addr} {b : Addr} (h : b ∈ W) : cutL H W b = none := by unfold cutL; rw [if_pos h]
theorem cutL_keep (H : Hp) (W : List Addr) : Keep [] (cutL H W) H := fun b o h _ => by
  unfold cutL at h
  split at h
  · cases h
  · exact h
theorem PN.mono {C : Addr} {N M : Addr → Prop} {H : Hp} (f : ∀ b, N b → M b) {xs : List Ent} {t : List Ent2} (h : PN C N H xs t) : PN C M H xs t := by
  induction h with
  | nil => exact .nil
  | cons a b n _ ih => exact .cons a b (f _ n) ih
/-- while the lists are spoilt -/
structure MI (G H7 : Hp) (g tl : Addr) (gs ts : List V) (W : List Addr) (n : Nat) (H' : Hp) : Prop where
  hg : H' g = some (.lst gs)
  ht : H' tl = some (.lst ts)
  tk : TK H7 H'
  sz : ∀ l ∈ W, ∃ us, H' l = some (.lst us) ∧ us.length ≤ n
  keep : Keep [] G H'
theorem MI.kept {G H7 : Hp} {g tl : Addr} {gs ts : List V} {W : List Addr} {n : Nat} {H' H'' : Hp} (m : MI G H7 g tl gs ts W n H') (k : Keep [] H' H'') : MI G H7 g tl gs ts W n H'' :=
  ⟨k _ _ m.hg (by simp), k _ _ m.ht (by simp), fun b xs h => k _ _ (m.tk b xs h) (by simp), fun l hl => (m.sz l hl).imp fun us h => ⟨k _ _ h.1 (by simp), h.2⟩, m.keep.trans k⟩
theorem MI.app {G H7 : Hp} {g tl : Addr} {gs ts : List V} {W : List Addr} {n : Nat} {H' : Hp} {l : Addr} {us : List V} (m : MI G H7 g tl gs ts W n H') (v : V) (hl : H' l = some (.lst us)) (hw : us.length ≤ n) (ng : l ≠ g) (nt : l ≠ tl) (nG : G l = none) : MI G H7 g tl gs ts W (n + 1) (upd H' l (.lst (us ++ [v]))) := by
  refine ⟨by rw [upd_ne ng.symm]; exact m.hg, by rw [upd_ne nt.symm]; exact m.ht, fun b xs h => TK.lst hl _ _ (m.tk b xs h), fun x hx => ?_, m.keep.then_own nG⟩
  by_cases e : x = l
  · subst e
    exact ⟨_, upd_same, by rw [List.length_append]; show _ + 1 ≤ _; omega⟩
  · obtain ⟨us', h1, h2⟩ := m.sz x hx
    exact ⟨us', by rw [upd_ne e]; exact h1, by omega⟩
section
variable {P : Program} {w : World} {K : PySem.W.Frag} {mg : Str → Option Value} {base : Heap} {C_Ratio : Addr} {C_Plan : Addr} {C_GameError : Addr} {C_BadMove : Addr} {C_BadPaper : Addr} {C_BadRatio : Addr} {C_BadText : Addr} {C_BadPlan : Addr} {f_BadPlan___init : Addr}
theorem ok_law {f : Addr} {fd : FuncData} (F : C8.Fun K "law" "law" s_law f fd) (T : Txt K mg C_Ratio C_Plan C_GameError C_BadMove C_BadPaper C_BadRatio C_BadText C_BadPlan) (c_law_weights : C8.Cal P w K mg base 1 "_law_weights" sp_weights []) (c_law_bad : C8.Cal P w K mg base 1 "_law_bad" sp_bad []) (c_law_told : C8.Cal P w K mg base 4 "_law_told" (sp_told P w C_Plan C_Ratio) []) (c_law_is_integer : SuC.CalQ P w K mg base 1 "_law_is_integer" sp_isint)
    (c_Ratio : C8.Mak P w K mg base 1 "Ratio" C_Ratio (sp_rat C_Ratio) [.int 1]) (c_Ratio2 : C8.Mak P w K mg base 1 "Ratio" C_Ratio (sp_rat C_Ratio) []) (c_Ratio_eq : Own P w K mg base 1 C_Ratio "__eq__" (sp_req C_Ratio)) (c_Plan : MakX P w K mg base 3 "Plan" C_Plan (sp_planX P w C_Plan C_Ratio C_BadPlan)) (c_Plan_entries : C8.Met P w K mg base 1 C_Plan "entries" (sp_pent P w C_Plan C_Ratio) []) :
    FnOk P w K mg base C8.CX0 5 f fd ["script"] (sp_law K) := by
  refine fn0 F sc_law (fun vs H Q E h => ?_) (fun cdv A outer s H vs Q E hr h => ?_)
  · obtain ⟨a, ns, rfl, _⟩ := h
    rfl
  · obtain ⟨a, ns, rfl, hS, k⟩ := h
    refine ⟨_, (pss_cons (ps_set (i := 1) sc_law.nd rfl (by first | exact Or.inl rfl | exact Or.inr rfl) (pe_lst pa_nil))
(pss_cons (ps_set (i := 2) sc_law.nd rfl (by first | exact Or.inl rfl | exact Or.inr rfl) (pe_lst pa_nil))
(pss_cons (ps_for PassesOwn.never rfl (pi_range1 (by rfl) T.n_range (pa_cons (pe_callB (call_min2 rfl) (by rfl) T.n_min bo_min (pa_cons pe_int (pa_cons (pe_op op_fdiv (pe_callB call_len_seq (by rfl) T.n_len bo_len (pa_cons (pv 0) pa_nil)) pe_int) pa_nil))) pa_nil)) (pg_name (i := 3) sc_law.nd rfl (by first | exact Or.inl rfl | exact Or.inr rfl))
  (pss_cons (ps_expr (pe_bm PySem.F.plainAttrs_list PySem.F.slot_list_append PySem.F.type_list_append mt_append (pv 1) (pa_cons (pe_tup (pa_cons (pe_tup (pa_cons pe_str (pa_cons pe_int pa_nil))) (pa_cons (pe_tup (pa_cons pe_str (pa_cons (pe_op op_mod (pe_callTy call_int1 (by rfl) T.n_int bo_int (pa_cons (pe_ix ix_list (pv 0) (pe_op op_mul pe_int (pv 3)) (fun _ _ => rfl)) pa_nil)) pe_int) (pa_cons pe_int pa_nil)))) pa_nil))) pa_nil)))
  (pss_one (ps_expr (pe_bm PySem.F.plainAttrs_list PySem.F.slot_list_append PySem.F.type_list_append mt_append (pv 2) (pa_cons (pe_c c_law_weights hr (by first | exact Nat.le_refl _ | decide | omega) rfl (pa_cons (pe_ix ix_list (pv 0) (pe_op op_add (pe_op op_mul pe_int (pv 3)) pe_int) (fun _ _ => rfl)) (pa_cons (pe_ix ix_list (pv 0) (pe_op op_add (pe_op op_mul pe_int (pv 3)) pe_int) (fun _ _ => rfl)) pa_nil))) pa_nil))))))
(pss_cons (ps_set (i := 4) sc_law.nd rfl (by first | exact Or.inl rfl | exact Or.inr rfl) (pe_lst pa_nil))
(pss_cons (ps_for PassesOwn.never rfl (pi_range1 (by rfl) T.n_range (pa_cons (pe_callB call_len_seq (by rfl) T.n_len bo_len (pa_cons (pv 2) pa_nil)) pa_nil)) (pg_name (i := 3) sc_law.nd rfl (by first | exact Or.inl rfl | exact Or.inr rfl))
  (pss_one (ps_expr (pe_bm PySem.F.plainAttrs_list PySem.F.slot_list_append PySem.F.type_list_append mt_append (pv 4) (pa_cons (pe_tup (pa_cons (pe_ix ix_list (pv 1) (pv 3) (fun _ _ => rfl)) (pa_cons (pe_lc (own := [("weight", 11)]) (g := gName 11) (tt := tYes) rfl sc_law.nd (pi_list (pe_ix ix_tup (pe_ix ix_list (pv 2) (pv 3) (fun _ _ => rfl)) pe_int (fun _ _ => rfl))) (blkOk_by (N := ["script", "views", "rows", "k", "given", "bad", "plan", "e", "told", "kept", "shown", "weight"]) (sc := fnScope s_law) (by decide +kernel)) (fun _ _ _ _ _ => pg_name (i := 11) sc_law.nd rfl (by first | exact Or.inl rfl | exact Or.inr rfl)) (fun _ _ _ _ _ => pts_nil) (fun _ _ _ _ _ => (pe_mk c_Ratio2 hr (by first | exact Nat.le_refl _ | decide | omega) rfl (pa_cons (pv 11) (pa_cons (pe_ix (ix_tupK (K := K)) (pe_ix (ix_listK (K := K)) (pv 2) (pv 3) (fun _ _ => rfl)) pe_int (fun _ _ => rfl)) pa_nil))))) pa_nil))) pa_nil)))))
(pss_cons (ps_set (i := 5) sc_law.nd rfl (by first | exact Or.inl rfl | exact Or.inr rfl) (pe_c c_law_bad hr (by first | exact Nat.le_refl _ | decide | omega) rfl (pa_cons (pv 1) (pa_cons (pv 2) pa_nil))))
(pss_cons (ps_try_as (i := 7) rfl rfl sc_law.nd rfl rfl ⟨rfl, by decide, .inl T.m_GameError⟩ takes0 (fun W pn xe tk ps =>
  (pss_one (ps_set (i := 6) sc_law.nd rfl (by first | exact Or.inl rfl | exact Or.inr rfl) (pe_mkS c_Plan hr (by first | exact Nat.le_refl _ | decide | omega) rfl tk (pa_cons (pv 4) pa_nil)))))
  (fun a oe cls d pn hz hf =>
  (pss_cons (ps_if (pt_val (pe_callB (call_isXT hz hf) (by rfl) T.n_isinstance bo_isinstance (pa_cons (pv 7) (pa_cons (pe_tup (pa_cons (pe_glob (v := .ref _) rfl T.m_BadMove rfl) (pa_cons (pe_glob (v := .ref _) rfl T.m_BadPaper rfl) (pa_cons (pe_glob (v := .ref _) rfl T.m_BadRatio rfl) (pa_cons (pe_glob (v := .ref _) rfl T.m_BadText rfl) pa_nil))))) pa_nil))))
    (pss_one (ps_ret pe_bl))
    pss_nil)
  (pss_one (ps_ret (pe_and (pe_cmpR op_notN (pv 5) pe_non (nomark _)) (pe_and (pe_callB (call_isX hz hf) (by rfl) T.n_isinstance bo_isinstance (pa_cons (pv 7) (pa_cons (pe_glob (v := .ref _) rfl T.m_BadPlan rfl) pa_nil))) (pe_and (SuC.pe_cQ c_law_is_integer hr (by first | exact Nat.le_refl _ | decide | omega) rfl (pa_cons (pe_xf T.f_BadPlan T.no_BadPlan hz hf (pv 7)) pa_nil)) (pe_one (pe_cmpR op_eq (pe_xf T.f_BadPlan T.no_BadPlan hz hf (pv 7)) (pv 5) (nomark _)))))))))))
(pss_cons (ps_if (PW.pt (pw_or (pt_cmpR op_notN (pv 5) pe_non (nomark _)) (pw_or1 (pt_not (pt_val (pe_c c_law_told hr (by first | exact Nat.le_refl _ | decide | omega) rfl (pa_cons (pv 6) (pa_cons (pv 1) (pa_cons (pv 2) pa_nil)))))))))
  (pss_one (ps_ret pe_bl))
  pss_nil)
(pss_cons (ps_for PassesOwn.never rfl (pi_range1 (by rfl) T.n_range (pa_cons (pe_callB call_len_seq (by rfl) T.n_len bo_len (pa_cons (pv 2) pa_nil)) pa_nil)) (pg_name (i := 3) sc_law.nd rfl (by first | exact Or.inl rfl | exact Or.inr rfl))
  (pss_one (ps_if (pt_cmpR (op_nePT c_Ratio_eq hr (by first | decide | omega)) (pe_ix ix_list (pv 4) (pv 3) (fun _ _ => rfl)) (pe_tup (pa_cons (pe_ix ix_list (pv 1) (pv 3) (fun _ _ => rfl)) (pa_cons (pe_lc (own := [("weight", 11)]) (g := gName 11) (tt := tYes) rfl sc_law.nd (pi_list (pe_ix ix_tup (pe_ix ix_list (pv 2) (pv 3) (fun _ _ => rfl)) pe_int (fun _ _ => rfl))) (blkOk_by (N := ["script", "views", "rows", "k", "given", "bad", "plan", "e", "told", "kept", "shown", "weight"]) (sc := fnScope s_law) (by decide +kernel)) (fun _ _ _ _ _ => pg_name (i := 11) sc_law.nd rfl (by first | exact Or.inl rfl | exact Or.inr rfl)) (fun _ _ _ _ _ => pts_nil) (fun _ _ _ _ _ => (pe_mk c_Ratio2 hr (by first | exact Nat.le_refl _ | decide | omega) rfl (pa_cons (pv 11) (pa_cons (pe_ix (ix_tupK (K := K)) (pe_ix (ix_listK (K := K)) (pv 2) (pv 3) (fun _ _ => rfl)) pe_int (fun _ _ => rfl)) pa_nil))))) pa_nil))) (nomark _))
    (pss_one (ps_ret pe_bl))
    pss_nil)))
(pss_cons (ps_set (i := 8) sc_law.nd rfl (by first | exact Or.inl rfl | exact Or.inr rfl) (pe_mt0 c_Plan_entries hr (by first | exact Nat.le_refl _ | decide | omega) (pv 6)))
(pss_cons (ps_for PassesOwn.never rfl (pi_range1 (by rfl) T.n_range (pa_cons (pe_callB call_len_seq (by rfl) T.n_len bo_len (pa_cons (pv 2) pa_nil)) pa_nil)) (pg_name (i := 3) sc_law.nd rfl (by first | exact Or.inl rfl | exact Or.inr rfl))
  (pss_cons (ps_set (i := 9) sc_law.nd rfl (by first | exact Or.inl rfl | exact Or.inr rfl) (pe_ix ix_tup (pe_ix ix_list (pv 4) (pv 3) (fun _ _ => rfl)) pe_int (fun _ _ => rfl)))
  (pss_cons (ps_expr (pe_bm PySem.F.plainAttrs_list PySem.F.slot_list_append PySem.F.type_list_append mt_append (pv 9) (pa_cons (pe_mk c_Ratio hr (by first | exact Nat.le_refl _ | decide | omega) rfl (pa_cons pe_int pa_nil)) pa_nil)))
  (pss_cons (ps_set (i := 10) sc_law.nd rfl (by first | exact Or.inl rfl | exact Or.inr rfl) (pe_ix ix_tup (pe_ix ix_list (pv 8) (pv 3) (fun _ _ => rfl)) pe_int (fun _ _ => rfl)))
  (pss_one (ps_expr (pe_bm PySem.F.plainAttrs_list PySem.F.slot_list_append PySem.F.type_list_append mt_append (pv 10) (pa_cons (pe_mk c_Ratio hr (by first | exact Nat.le_refl _ | decide | omega) rfl (pa_cons pe_int pa_nil)) pa_nil))))))))
(pss_cons (ps_expr (pe_bm PySem.F.plainAttrs_list PySem.F.slot_list_append PySem.F.type_list_append mt_append (pv 4) (pa_cons (pe_tup (pa_cons (pe_tup (pa_cons pe_str pa_nil)) (pa_cons (pe_lst (pa_cons (pe_mk c_Ratio hr (by first | exact Nat.le_refl _ | decide | omega) rfl (pa_cons pe_int pa_nil)) pa_nil)) pa_nil))) pa_nil)))
(pss_cons (ps_expr (pe_bm PySem.F.plainAttrs_list PySem.F.slot_list_append PySem.F.type_list_append mt_append (pv 8) (pa_cons (pe_tup (pa_cons (pe_tup (pa_cons pe_str pa_nil)) (pa_cons (pe_lst (pa_cons (pe_mk c_Ratio hr (by first | exact Nat.le_refl _ | decide | omega) rfl (pa_cons pe_int pa_nil)) pa_nil)) pa_nil))) pa_nil)))
(pss_one (ps_ret (pe_and (pe_c c_law_told hr (by first | exact Nat.le_refl _ | decide | omega) rfl (pa_cons (pv 6) (pa_cons (pv 1) (pa_cons (pv 2) pa_nil)))) (pe_and (pe_cmpR op_eq (pe_callB call_len_seq (by rfl) T.n_len bo_len (pa_cons (pv 8) pa_nil)) (pe_op op_add (pe_callB call_len_seq (by rfl) T.n_len bo_len (pa_cons (pv 2) pa_nil)) pe_int) (nomark _)) (pe_one (pe_cmpR (op_eqD hr.units) (pe_ix ix_tup (pe_ix ix_list (pv 8) (pe_un un_neg pe_int) (fun _ _ => rfl)) pe_int (fun _ _ => rfl)) (pe_tup (pa_cons pe_str pa_nil)) (nomark _)))))))))))))))))))), ?_⟩
    refine And.intro (by show 0 ≤ sizeLine; decide) <| fun v nv => ?_
    have kv := Keep.new (W := []) (o := .lst []) nv
    refine And.intro (by show 0 ≤ sizeLine; decide) <| fun r nr => ?_
    have kr := kv.then_new (o := .lst []) nr
    have nvr : v ≠ r := ne_of_none upd_same nr
    have hv0 : upd (upd H v (.lst [])) r (.lst []) v = some (.lst []) := by rw [upd_ne nvr]; exact upd_same
    have hr0 : upd (upd H v (.lst [])) r (.lst []) r = some (.lst []) := upd_same
    have nrH : H r = none := kv.free nr
    generalize upd (upd H v (.lst [])) r (.lst []) = H0 at *
    refine ⟨_, rfl, a, _, rfl, .inl (kr.seqL hS (by simp)), _, _, rfl, rfl, ⟨by decide, by decide⟩, _, _, rfl, ?_⟩
    obtain ⟨n, hn, hn10, hn3⟩ : ∃ n : Nat, (if (((ns.map V.int).length : Int) / 3) < 10 then (((ns.map V.int).length : Int) / 3) else 10) = (n : Int) ∧ n ≤ 10 ∧ 3 * n ≤ ns.length := by
      rw [List.length_map]
      refine ⟨min 10 (ns.length / 3), ?_, by omega, by omega⟩
      split <;> omega
    refine ⟨(n : Int), congrArg (fun z => [V.int z]) hn, by omega, by omega, for_range (lo := 0) (n := n) (fun i σ H' => ∃ (o3 : Option V) (es : List WT) (vs rs : List V), σ = [some (.ref a), some (.ref v), some (.ref r), o3, none, none, none, none, none, none, none, none] ∧ H' v = some (.lst vs) ∧ TDs H' vs (es.map fun e => dView e.1) ∧ H' r = some (.lst rs) ∧ RW (fun b => b ≠ v ∧ b ≠ r) H' rs es ∧ EK es ∧ es.length = i ∧ Keep [] H H') ?_ ?_ ?_⟩
    · exact ⟨_, [], [], [], rfl, hv0, .nil, hr0, .nil, ⟨by decide, (fun e h => by cases h), fun e h => by cases h⟩, rfl, kr⟩
    · rintro i σ H1 hi ⟨o3, es, vs, rs, rfl, hv, hvs, hr', hrs, hek, hel, kk⟩
      have e0 : (0 : Int) + (i : Int) = (i : Int) := by omega
      rw [e0]
      have hvl := hvs.length
      rw [List.length_map] at hvl
      have hrl := hrs.len
      have hS1 := kk.seqL hS (by simp)
      have atn : ∀ j : Nat, j < ns.length → atI (ns.map V.int) ((j : Nat) : Int) = some (.int (ns.getD j 0)) := fun j hj => atI_nat (by rw [List.getElem?_map, List.getElem?_eq_getElem hj, List.getD_eq_getElem?_getD, List.getElem?_eq_getElem hj]; rfl)
      have e3 : (3 : Int) * (i : Int) = ((3 * i : Nat) : Int) := by omega
      refine ⟨_, rfl, .inl ⟨rfl, _, SqL.of hv⟩, And.intro (by show 2 ≤ sizeLine; decide) <| fun t1 nt1 => ?_⟩
      have k1 := Keep.new (W := []) (o := .tup [.str "round", .int 0]) nt1
      refine ⟨_, rfl, _, rfl, _, _, rfl, rfl, .inl ⟨by omega, by omega⟩, _, _, _, _, rfl, rfl, k1.seqL hS1 (by simp), by rw [e3]; exact atn (3 * i) (by omega), .inl ⟨_, rfl, _, _, rfl, rfl, by show (0 : Int) < 6; decide, And.intro (by show 3 ≤ sizeLine; decide) <| fun t2 nt2 => And.intro (by show 2 ≤ sizeLine; decide) <| fun t3 nt3 => ?_⟩⟩
      have kT : Keep [] H1 (upd (upd (upd H1 t1 (.tup [.str "round", .int 0])) t2 (.tup [.str "move", .int (ns.getD (3 * i) 0 % 6), .int 3])) t3 (.tup [.ref t1, .ref t2])) := (k1.then_new nt2).then_new nt3
      have td3 : TD (upd (upd (upd H1 t1 (.tup [.str "round", .int 0])) t2 (.tup [.str "move", .int (ns.getD (3 * i) 0 % 6), .int 3])) t3 (.tup [.ref t1, .ref t2])) (.ref t3) (dView [(("round" : Str), [0]), (("move" : Str), [ns.getD (3 * i) 0 % 6, 3])]) := by
        have h2 := (Keep.new (W := []) (o := .tup [.ref t1, .ref t2]) nt3) _ _ (upd_same (H := upd H1 t1 (.tup [.str "round", .int 0])) (a := t2) (o := .tup [.str "move", .int (ns.getD (3 * i) 0 % 6), .int 3])) (by simp)
        have h1 := (Keep.new (W := []) (o := .tup [.ref t1, .ref t2]) nt3) _ _ ((Keep.new (W := []) (o := .tup [.str "move", .int (ns.getD (3 * i) 0 % 6), .int 3]) nt2) _ _ (upd_same (H := H1) (a := t1) (o := .tup [.str "round", .int 0])) (by simp)) (by simp)
        exact .tup upd_same (.cons (.tup h1 (.cons (.str _) (.cons (.int _) .nil))) (.cons (.tup h2 (.cons (.str _) (.cons (.int _) (.cons (.int _) .nil)))) .nil))
      have hv2 := kT _ _ hv (by simp)
      refine ⟨v, _, _, rfl, rfl, hv2, smallL (by omega), ?_⟩
      generalize upd (upd (upd H1 t1 (.tup [.str "round", .int 0])) t2 (.tup [.str "move", .int (ns.getD (3 * i) 0 % 6), .int 3])) t3 (.tup [.ref t1, .ref t2]) = H2 at *
      have tk3 : TK H2 (upd H2 v (.lst (vs ++ [.ref t3]))) := TK.lst hv2
      have kv3 : ∀ b o, H2 b = some o → b ≠ v → upd H2 v (.lst (vs ++ [.ref t3])) b = some o := fun b o hb nb => by rw [upd_ne nb]; exact hb
      have k3 : Keep [] H (upd H2 v (.lst (vs ++ [.ref t3]))) := (kk.trans kT).then_own nv
      have hv3 : upd H2 v (.lst (vs ++ [.ref t3])) v = some (.lst (vs ++ [.ref t3])) := upd_same
      have hvs3 := ((hvs.tk kT.tk).tk tk3).snoc (td3.tk tk3)
      have hr3 := kv3 _ _ (kT _ _ hr' (by simp)) nvr.symm
      have hrs3 := (hrs.keep kT).keepN tk3 fun b ys nb hb => kv3 b _ hb nb.1
      generalize upd H2 v (.lst (vs ++ [.ref t3])) = H3 at *
      have hS3 := k3.seqL hS (by simp)
      have e31 : (3 : Int) * (i : Int) + 1 = ((3 * i + 1 : Nat) : Int) := by omega
      have e32 : (3 : Int) * (i : Int) + 2 = ((3 * i + 2 : Nat) : Int) := by omega
      refine ⟨_, rfl, .inl ⟨rfl, _, SqL.of hr3⟩, _, rfl, _, rfl, _, _, rfl, rfl, .inl ⟨by omega, by omega⟩, _, _, rfl, rfl, _, _, _, _, rfl, rfl, hS3, by rw [e31]; exact atn (3 * i + 1) (by omega), _, rfl, _, rfl, _, _, rfl, rfl, .inl ⟨by omega, by omega⟩, _, _, rfl, rfl, _, _, _, _, rfl, rfl, hS3, by rw [e32]; exact atn (3 * i + 2) (by omega), _, _, rfl, fun t l ws W H4 hwk nl nt hl ht K4 => ?_⟩
      have hr4 := K4 _ _ hr3 (by simp)
      have hv4 := K4 _ _ hv3 (by simp)
      have nlv : l ≠ v := (ne_of_none hv3 nl).symm
      have nlr : l ≠ r := (ne_of_none hr3 nl).symm
      have tk5 : TK H4 (upd H4 r (.lst (rs ++ [.ref t]))) := TK.lst hr4
      have kr5 : ∀ b o, H4 b = some o → b ≠ r → upd H4 r (.lst (rs ++ [.ref t])) b = some o := fun b o hb nb => by rw [upd_ne nb]; exact hb
      refine ⟨r, _, _, rfl, rfl, hr4, smallL (by omega), _, es ++ [([(("round" : Str), [0]), (("move" : Str), [ns.getD (3 * i) 0 % 6, 3])], ws, W)], vs ++ [.ref t3], rs ++ [.ref t], rfl, kr5 _ _ hv4 nvr, ?_, upd_same, ?_, hek.snoc hwk (by omega), by rw [List.length_append, hel]; rfl, (k3.trans K4).then_own nrH⟩
      · rw [List.map_append]
        exact (hvs3.tk K4.tk).tk tk5
      · exact ((hrs3.keep K4).keepN tk5 fun b ys nb hb => kr5 b _ hb nb.2).snoc (tk5 _ _ ht) (kr5 _ _ hl nlr) ⟨nlv, nlr⟩
    · rintro σ H1 ⟨o3, es, vs, rs, rfl, hv, hvs, hr', hrs, hek, hel, kk⟩
      have hVR : VR H1 v r es := ⟨vs, rs, hv, hvs, hr', hrs.all⟩
      have hrl := hrs.len
      refine And.intro (by show 0 ≤ sizeLine; decide) <| fun g ng => ?_
      have kg := Keep.new (W := []) (o := .lst []) ng
      refine ⟨_, rfl, r, rs, rfl, .inl (SqL.of (kg _ _ hr' (by simp))), _, rfl, by omega, by omega, for_range (lo := 0) (n := rs.length) (fun i σ H' => ∃ (o3 : Option V) (gs : List V), σ = [some (.ref a), some (.ref v), some (.ref r), o3, some (.ref g), none, none, none, none, none, none, none] ∧ H' g = some (.lst gs) ∧ GN C_Ratio (fun b => H1 b = none ∧ b ≠ g) H' gs (tabI (es.take i)) ∧ Keep [] H1 H') ⟨_, [], rfl, upd_same, .nil, kg⟩ ?_ ?_⟩
      · rintro i σ H2 hi ⟨o3, gs, rfl, hg, hgn, k2⟩
        have e0 : (0 : Int) + (i : Int) = (i : Int) := by omega
        rw [e0]
        have hie : i < es.length := by omega
        obtain ⟨⟨L, ws, W⟩, hei⟩ : ∃ e, es[i]? = some e := ⟨_, List.getElem?_eq_getElem hie⟩
        obtain ⟨q, wl, hq, hqt, hwl⟩ := (hrs.keep k2).get hei
        obtain ⟨vw, hvw, hvd⟩ := es_view (hvs.tk k2.tk) hei
        have hwk : WK ws W := hek.ok _ (List.mem_of_getElem? hei)
        have hp : 1 ≤ W := hwk.pos
        have hw5 : ws.length ≤ 5 := hwk.len
        have hr2 := k2 _ _ hr' (by simp)
        have hv2 := k2 _ _ hv (by simp)
        have hgl := hgn.gl.len
        have htl : (tabI (es.take i)).length = i := by unfold tabI; rw [List.length_map, List.length_take]; omega
        refine ⟨_, rfl, .inl ⟨rfl, _, SqL.of hg⟩, _, rfl, _, rfl, _, _, _, _, rfl, rfl, SqL.of hv2, atI_nat hvw, ?_⟩
        refine ⟨_, rfl, _, rfl, _, _, _, _, rfl, rfl, SqL.of hr2, atI_nat hq, _, _, _, _, rfl, rfl, SqT.of hqt, rfl, wl, rfl, ⟨_, SqL.of hwl⟩, fun D nD => ?_⟩
        refine lc_list (K := K) (a := wl) (xs := ws.map V.int) (fun j H' => ∃ ys, H' D = some (.lst ys) ∧ RL C_Ratio H' ys (wri (ws.take j) W) ∧ Keep [] H2 H') ⟨[], upd_same, .nil, Keep.new nD⟩ (fun j H' _ ⟨_, _, _, k3⟩ => SqL.of (k3 _ _ hwl (by simp))) ?_ ?_
        · rintro j y H3 hy ⟨ys, hD, hys, k3⟩
          obtain ⟨z, hz, rfl⟩ := ints_get hy
          have hjl := (List.getElem?_eq_some_iff.mp hz).1
          have hyl := hys.len
          rw [wri_length, List.length_take] at hyl
          refine ⟨rfl, yes_then ⟨_, rfl, _, rfl, _, rfl, _, _, _, _, rfl, rfl, SqL.of (k3 _ _ hr2 (by simp)), atI_nat hq, _, _, _, _, rfl, rfl, SqT.of (k3 _ _ hqt (by simp)), rfl, fun x' dx' nx ndx ne => ⟨x', dx', z, W, rfl, by omega, big8 hwk.W, upd_same, fun H9 K9 hx9 => ⟨rfl, ?_⟩⟩⟩⟩
          have km := keep_made nx ndx K9
          have hD9 := km _ _ hD (by simp)
          refine ⟨ys, hD9, smallL (by omega), ys ++ [.ref x'], upd_same, ?_, (k3.trans km).then_own nD⟩
          rw [wri_take hz]
          exact ((hys.keep (KI.of km)).keep (KI.lst hD9)).snoc ⟨dx', (KI.lst (o := .lst (ys ++ [.ref x'])) hD9).2 _ _ _ _ hx9⟩
        · rintro H3 ⟨ys, hD, hys, k3⟩
          rw [List.length_map, List.take_length] at hys
          refine And.intro (by show 2 ≤ sizeLine; decide) <| fun t nt => ?_
          have kt := Keep.new (W := []) (o := .tup [vw, .ref D]) nt
          have k34 := k3.trans kt
          have hg4 := k34 _ _ hg (by simp)
          have nDg : D ≠ g := (ne_of_none hg nD).symm
          have nDH : H1 D = none := k2.free nD
          have ki := KI.lst (o := .lst (gs ++ [.ref t])) hg4
          refine ⟨g, _, _, rfl, rfl, hg4, smallL (by omega), _, gs ++ [.ref t], rfl, upd_same, ?_, ?_⟩
          · have et : tabI (es.take (i + 1)) = tabI (es.take i) ++ [(L, wri ws W)] := by unfold tabI; rw [take_snoc hei, List.map_append]; rfl
            rw [et]
            refine ((hgn.keep (KI.of k34) fun b ys _ hb => k34 _ _ hb (by simp)).keep ki fun b ys nb hb => by rw [upd_ne nb.2]; exact hb).snoc (ki.1 _ _ upd_same) ((hvd.tk k34.tk).tk ki.1) ⟨ys, ?_, ((hys.keep (KI.of kt))).keep ki⟩ ⟨nDH, nDg⟩
            rw [upd_ne nDg]
            exact kt _ _ hD (by simp)
          · exact (k2.trans k34).then_own ng
      · rintro σ H2 ⟨o3, gs, rfl, hg, hgn, k2⟩
        rw [show es.take rs.length = es by rw [hrl, List.take_length]] at hgn
        have hVR2 := hVR.keep k2
        refine ⟨_, rfl, _, rfl, v, r, es, rfl, hVR2, hek, fun H3 K3 => ?_⟩
        have hg3 := K3 _ _ hg (by simp)
        have hgn3 := hgn.keep (KI.of K3) fun b ys _ hb => K3 _ _ hb (by simp)
        refine ⟨_, rfl, fun x dx nx ndx ne => ⟨x, dx, g, gs, es, rfl, upd_same, ?_, ?_, hek, fun hb H4 hPN k4 => ⟨rfl, ?_⟩, fun i hb d H4 nd hd k4 => ?_⟩⟩
        · exact (Keep.made nx ndx) _ _ hg3 (by simp)
        · exact (hgn3.keep (KI.of (Keep.made nx ndx)) fun b ys _ hb => (Keep.made nx ndx) _ _ hb (by simp)).gl
        · rw [hb]
          have km := keep_made nx ndx k4
          have hP4 := hPN.plan
          have hVR4 := (hVR2.keep K3).keep km
          have htl : (tabI es).length = es.length := by unfold tabI; rw [List.length_map]
          refine ⟨_, rfl, rfl, _, rfl, iteF ⟨_, rfl, _, rfl, _, rfl, x, v, r, es, rfl, hP4, hVR4, hek, fun H5 K5 => ⟨_, rfl, iteF ?_⟩⟩⟩
          have k35 := km.trans K5
          have k15 := (k2.trans K3).trans k35
          have hr5 := k15 _ _ hr' (by simp)
          have hv5 := k15 _ _ hv (by simp)
          refine ⟨_, rfl, r, rs, rfl, .inl (SqL.of hr5), _, rfl, by omega, by omega, for_range (lo := 0) (n := rs.length) (fun i σ H' => ∃ (o3 : Option V), σ = [some (.ref a), some (.ref v), some (.ref r), o3, some (.ref g), some .non, some (.ref x), none, none, none, none, none] ∧ Keep [] H5 H') ⟨_, rfl, Keep.refl _ _⟩ ?_ ?_⟩
          · rintro i σ H6 hi ⟨o3, rfl, k6⟩
            have e0 : (0 : Int) + (i : Int) = (i : Int) := by omega
            rw [e0]
            have hie : i < es.length := by omega
            have k16 := k15.trans k6
            obtain ⟨⟨L, ws, W⟩, hei⟩ : ∃ e, es[i]? = some e := ⟨_, List.getElem?_eq_getElem hie⟩
            obtain ⟨q, wl, hq, hqt, hwl⟩ := (hrs.keep k16).get hei
            obtain ⟨vw, hvw, hvd⟩ := es_view (hvs.tk k16.tk) hei
            have hwk : WK ws W := hek.ok _ (List.mem_of_getElem? hei)
            have hok := hek.ev _ (List.mem_of_getElem? hei)
            have hp : 1 ≤ W := hwk.pos
            have hw5 : ws.length ≤ 5 := hwk.len
            have hgl := hgn.gl.len
            have hgi : gs[i]? = some gs[i] := List.getElem?_eq_getElem (by omega)
            have k36 := k35.trans k6
            obtain ⟨gq, gl, gv, L', rs', hge, hgt, hgq, hgv, hgla⟩ := ((hgn3.keep (KI.of k36) fun b ys _ hb => k36 _ _ hb (by simp)).gl).get hgi
            obtain ⟨ws', W', hei', rfl⟩ := tabI_get hgt
            rw [hei] at hei'
            obtain ⟨rfl, rfl, rfl⟩ : L = L' ∧ ws = ws' ∧ W = W' := by
              have := Option.some.inj hei'
              simpa using this
            rw [hge] at hgi
            have hr6 := k16 _ _ hr' (by simp)
            have hv6 := k16 _ _ hv (by simp)
            have hg6 := k36 _ _ hg3 (by simp)
            obtain ⟨gb, _, rfl, _, _, _⟩ := td_grow hgv
            obtain ⟨vb, _, rfl, _, _, _⟩ := td_grow hvd
            obtain ⟨us, hus, hur⟩ := hgla
            refine ⟨_, rfl, _, rfl, _, _, _, _, rfl, rfl, SqL.of hg6, atI_nat hgi, _, rfl, _, rfl, _, _, _, _, rfl, rfl, SqL.of hv6, atI_nat hvw, ?_⟩
            refine ⟨_, rfl, _, rfl, _, _, _, _, rfl, rfl, SqL.of hr6, atI_nat hq, _, _, _, _, rfl, rfl, SqT.of hqt, rfl, wl, rfl, ⟨_, SqL.of hwl⟩, fun D nD => ?_⟩
            refine lc_list (K := K) (a := wl) (xs := ws.map V.int) (fun j H' => ∃ ys, H' D = some (.lst ys) ∧ RL C_Ratio H' ys (wri (ws.take j) W) ∧ Keep [] H6 H') ⟨[], upd_same, .nil, Keep.new nD⟩ (fun j H' _ ⟨_, _, _, k3⟩ => SqL.of (k3 _ _ hwl (by simp))) ?_ ?_
            · rintro j y H7 hy ⟨ys, hD, hys, k7⟩
              obtain ⟨z, hz, rfl⟩ := ints_get hy
              have hjl := (List.getElem?_eq_some_iff.mp hz).1
              have hyl := hys.len
              rw [wri_length, List.length_take] at hyl
              refine ⟨rfl, yes_then ⟨_, rfl, _, rfl, _, rfl, _, _, _, _, rfl, rfl, SqL.of (k7 _ _ hr6 (by simp)), atI_nat hq, _, _, _, _, rfl, rfl, SqT.of (k7 _ _ hqt (by simp)), rfl, fun x' dx' nx ndx ne => ⟨x', dx', z, W, rfl, by omega, big8 hwk.W, upd_same, fun H9 K9 hx9 => ⟨rfl, ?_⟩⟩⟩⟩
              have km := keep_made nx ndx K9
              have hD9 := km _ _ hD (by simp)
              refine ⟨ys, hD9, smallL (by omega), ys ++ [.ref x'], upd_same, ?_, (k7.trans km).then_own nD⟩
              rw [wri_take hz]
              exact ((hys.keep (KI.of km)).keep (KI.lst hD9)).snoc ⟨dx', (KI.lst (o := .lst (ys ++ [.ref x'])) hD9).2 _ _ _ _ hx9⟩
            · rintro H7 ⟨ys, hD, hys, k7⟩
              rw [List.length_map, List.take_length] at hys
              refine And.intro (by show 2 ≤ sizeLine; decide) <| fun t nt => ?_
              have kt := Keep.new (W := []) (o := .tup [.ref vb, .ref D]) nt
              have k78 := k7.trans kt
              have shV := shaped_view hok
              refine ⟨gq, t, gb, vb, gl, D, dView L, us, ys, rfl, rfl, SqT.of (k78 _ _ hgq (by simp)), SqT.of upd_same, (hgv.tk k78.tk).dp, (hvd.tk k78.tk).dp, shV, neOwn_of (Q := fun _ H' => H' = upd H7 t (.tup [.ref vb, .ref D])) (k78 _ _ hus (by simp)) (kt _ _ hD (by simp)) (hur.keep (KI.of k78)) (hys.keep (KI.of kt)) rfl, SqL.of (k78 _ _ hus (by simp)), SqL.of (kt _ _ hD (by simp)), _, rfl, iteF ⟨_, rfl, k6.trans k78⟩⟩
          · rintro σ H6 ⟨o3, rfl, k6⟩
            have k36 := k35.trans k6
            have k16 := k15.trans k6
            have k46 := K5.trans k6
            have hP6 := hP4.keep k46
            obtain ⟨px, pd, pxs, hxp, npd, hpd, hpn⟩ := id hPN
            have hxp6 := k46 _ _ hxp (by simp)
            refine ⟨_, rfl, x, px, _, rfl, hxp6, rfl, x, tabI es, rfl, hP6, by have := hek.len; omega, fun tl ts H7 ntl htl7 htn k7 => ?_⟩
            obtain ⟨ls, hls1, hls2⟩ := hgn.lists
            obtain ⟨tls, hts1, hts2⟩ := htn.lists
            have k26 := K3.trans k36
            have hgn6 := hgn3.keep (KI.of k36) fun b ys _ hb => k36 _ _ hb (by simp)
            have hg6 := k36 _ _ hg3 (by simp)
            have lsat : ∀ l ∈ ls, H1 l = none ∧ l ≠ g ∧ ∃ us, H2 l = some (.lst us) ∧ us.length ≤ 5 := fun l hl => by
              obtain ⟨⟨n1, n2⟩, us, rs', h1, h2, L, h3⟩ := hls1 l hl
              exact ⟨n1, n2, us, h1, by rw [h2]; exact tabI_len hek L rs' h3⟩
            have tlat : ∀ l ∈ tls, l ≠ tl ∧ H6 l = none ∧ ∃ us, H7 l = some (.lst us) ∧ us.length ≤ 5 := fun l hl => by
              obtain ⟨⟨n1, n2⟩, us, rs', h1, h2, L, h3⟩ := hts1 l hl
              exact ⟨n1, n2, us, h1, by rw [h2]; exact tabI_len hek L rs' h3⟩
            -- the heap without what is spoilt
            have kG6 : Keep [] (cutL H6 (g :: (ls ++ tls))) H6 := cutL_keep _ _
            have out : ∀ b o, H6 b = some o → b ≠ g → b ∉ ls → cutL H6 (g :: (ls ++ tls)) b = some o := fun b o hb n1 n2 => cutL_of hb fun hm => by
              rcases List.mem_cons.mp hm with e | hm
              · exact n1 e
              · rcases List.mem_append.mp hm with e | e
                · exact n2 e
                · rw [(tlat b e).2.1] at hb; cases hb
            have out2 : ∀ b o, H6 b = some o → (∀ ys, o ≠ .lst ys) → cutL H6 (g :: (ls ++ tls)) b = some o := fun b o hb n => out b o hb (ne_of hb hg6 (by intro z; exact n _ z)) fun hm => by
              obtain ⟨_, _, us, h1, _⟩ := lsat b hm
              have h6 := k26 _ _ h1 (by simp)
              rw [hb] at h6
              exact n _ (Option.some.inj h6)
            have k1G : Keep [] H1 (cutL H6 (g :: (ls ++ tls))) := fun b o hb _ => out b o (k16 _ _ hb (by simp)) (ne_of_none hb ng) fun hm => by
              rw [(lsat b hm).1] at hb; cases hb
            have out3 : ∀ b o, H6 b = some o → H3 b = none → cutL H6 (g :: (ls ++ tls)) b = some o := fun b o hb n3 => out b o hb (ne_of_none hg3 n3).symm fun hm => by
              obtain ⟨_, _, us, h1, _⟩ := lsat b hm
              have h3 := K3 _ _ h1 (by simp)
              rw [n3] at h3; cases h3
            have made3 : ∀ b, upd (upd H3 dx (.own x)) x (.ins C_Plan dx []) b = none → H3 b = none := fun b nb => (Keep.made (o := .ins C_Plan dx []) nx ndx).free nb
            have kiG : KI H6 (cutL H6 (g :: (ls ++ tls))) := ⟨fun b xs hb => out2 b _ hb (fun ys z => nomatch z), fun b C dx fs hb => out2 b _ hb (fun ys z => nomatch z)⟩
            have hPG : PlanAt P w C_Plan C_Ratio (cutL H6 (g :: (ls ++ tls))) x (tabI es) := by
              have hpn6 := hpn.keep (KI.of k46) fun b ys _ hb => k46 _ _ hb (by simp)
              exact ⟨px, pd, pxs, kiG.2 _ _ _ _ hxp6, out3 _ _ (k46 _ _ hpd (by simp)) (made3 _ npd), (hpn6.keep kiG fun b ys nb hb => out3 _ _ hb (made3 _ nb)).pe⟩
            have hVRG := hVR.keep k1G
            have gone : ∀ l ∈ g :: (ls ++ tls), cutL H6 (g :: (ls ++ tls)) l = none := fun l hl => cutL_none hl
            have ntlG : cutL H6 (g :: (ls ++ tls)) tl = none := kG6.free ntl
            have kG7 := kG6.trans k7
            generalize cutL H6 (g :: (ls ++ tls)) = G at *
            have ngtl : g ≠ tl := ne_of_none hg6 ntl
            have m0 : MI G H7 g tl gs ts (ls ++ tls) 5 H7 := ⟨k7 _ _ hg6 (by simp), htl7, fun b xs h => h, fun l hl => by
              rcases List.mem_append.mp hl with hl | hl
              · obtain ⟨_, _, us, h1, h2⟩ := lsat l hl
                exact ⟨us, k7 _ _ (k26 _ _ h1 (by simp)) (by simp), h2⟩
              · exact (tlat l hl).2.2, kG7⟩
            have hr7 : H7 r = some (.lst rs) := (k16.trans k7) _ _ hr' (by simp)
            have hgl := hgn.gl.len
            have htsl := htn.gl.len
            refine ⟨_, rfl, r, rs, rfl, .inl (SqL.of hr7), _, rfl, by omega, by omega, for_range (lo := 0) (n := rs.length) (fun i σ H' => ∃ (o3 o9 o10 : Option V), σ = [some (.ref a), some (.ref v), some (.ref r), o3, some (.ref g), some .non, some (.ref x), none, some (.ref tl), o9, o10, none] ∧ MI G H7 g tl gs ts (ls ++ tls) (5 + 2 * i) H') ⟨_, _, _, rfl, m0⟩ ?_ ?_⟩
            · rintro i σ H8 hi ⟨o3, o9, o10, rfl, m⟩
              have e0 : (0 : Int) + (i : Int) = (i : Int) := by omega
              rw [e0]
              have hgi : gs[i]? = some gs[i] := List.getElem?_eq_getElem (by omega)
              have hti : ts[i]? = some ts[i] := List.getElem?_eq_getElem (by omega)
              obtain ⟨q1, vw1, l1, eq1, hq1, hm1⟩ := hls2 i _ hgi
              obtain ⟨q2, vw2, l2, eq2, hq2, hm2⟩ := hts2 i _ hti
              rw [eq1] at hgi
              rw [eq2] at hti
              obtain ⟨n11, n12, us1, h11, h12⟩ := lsat l1 hm1
              obtain ⟨n21, n22, us2, h21, h22⟩ := tlat l2 hm2
              have q17 := (k26.trans k7) _ _ hq1 (by simp)
              have nl1tl : l1 ≠ tl := ne_of_none (k26 _ _ h11 (by simp)) ntl
              have nl2g : l2 ≠ g := (ne_of_none hg6 n22).symm
              have gl1 := gone l1 (List.mem_cons_of_mem _ (List.mem_append_left _ hm1))
              have gl2 := gone l2 (List.mem_cons_of_mem _ (List.mem_append_right _ hm2))
              refine ⟨_, rfl, _, rfl, _, _, _, _, rfl, rfl, SqL.of m.hg, atI_nat hgi, _, _, _, _, rfl, rfl, SqT.of (m.tk _ _ q17), rfl, ?_⟩
              obtain ⟨w1, hw1, hw1l⟩ := m.sz l1 (List.mem_append_left _ hm1)
              refine ⟨_, rfl, .inl ⟨rfl, _, SqL.of hw1⟩, fun x1 dx1 nx1 ndx1 ne1 => ⟨x1, dx1, 1, 1, rfl, by decide, by exact Nat.one_lt_two_pow (by decide), upd_same, fun H9 K9 hx9 => ⟨rfl, ?_⟩⟩⟩
              have km1 := keep_made nx1 ndx1 K9
              have m1 := m.kept km1
              have hw19 := km1 _ _ hw1 (by simp)
              refine ⟨l1, _, _, rfl, rfl, hw19, smallL (by omega), ?_⟩
              have m2 := m1.app (.ref x1) hw19 hw1l n12 nl1tl gl1
              generalize upd H9 l1 (.lst (w1 ++ [V.ref x1])) = H10 at *
              refine ⟨_, rfl, _, rfl, _, _, _, _, rfl, rfl, SqL.of m2.ht, atI_nat hti, _, _, _, _, rfl, rfl, SqT.of (m2.tk _ _ hq2), rfl, ?_⟩
              obtain ⟨w2, hw2, hw2l⟩ := m2.sz l2 (List.mem_append_right _ hm2)
              refine ⟨_, rfl, .inl ⟨rfl, _, SqL.of hw2⟩, fun x2 dx2 nx2 ndx2 ne2 => ⟨x2, dx2, 2, 1, rfl, by decide, by exact Nat.one_lt_two_pow (by decide), upd_same, fun H11 K11 hx11 => ⟨rfl, ?_⟩⟩⟩
              have km2 := keep_made nx2 ndx2 K11
              have m3 := m2.kept km2
              have hw29 := km2 _ _ hw2 (by simp)
              refine ⟨l2, _, _, rfl, rfl, hw29, smallL (by omega), ?_⟩
              have m4 := m3.app (.ref x2) hw29 hw2l nl2g n21 gl2
              exact ⟨_, _, _, rfl, by rw [show 5 + 2 * (i + 1) = 5 + 2 * i + 1 + 1 by omega]; exact m4⟩
            · rintro σ H8 ⟨o3, o9, o10, rfl, m⟩
              have gg := gone g (List.mem_cons_self ..)
              refine ⟨_, rfl, .inl ⟨rfl, _, SqL.of m.hg⟩, And.intro (by show 1 ≤ sizeLine; decide) <| fun t1 nt1 => ?_⟩
              have kt1 := Keep.new (W := []) (o := .tup [.str "spoilt"]) nt1
              have m1 := m.kept kt1
              generalize upd H8 t1 (.tup [.str "spoilt"]) = H9 at *
              refine fun x1 dx1 nx1 ndx1 ne1 => ⟨x1, dx1, 1, 1, rfl, by decide, by exact Nat.one_lt_two_pow (by decide), upd_same, fun H10 K10 hx10 => ⟨rfl, ?_⟩⟩
              have m2 := m1.kept (keep_made nx1 ndx1 K10)
              refine And.intro (by show 1 ≤ sizeLine; decide) <| fun l1 nl1 => ?_
              have m3 := m2.kept (Keep.new (W := []) (o := .lst [.ref x1]) nl1)
              refine And.intro (by show 2 ≤ sizeLine; decide) <| fun t2 nt2 => ?_
              have m4 := m3.kept (Keep.new (W := []) (o := .tup [.ref t1, .ref l1]) nt2)
              generalize upd (upd H10 l1 (.lst [.ref x1])) t2 (.tup [.ref t1, .ref l1]) = H11 at *
              refine ⟨g, _, _, rfl, rfl, m4.hg, smallL (by omega), ?_⟩
              have kg12 := m4.keep.then_own (o := .lst (gs ++ [.ref t2])) gg
              have ht12 : upd H11 g (.lst (gs ++ [.ref t2])) tl = some (.lst ts) := by rw [upd_ne ngtl.symm]; exact m4.ht
              generalize upd H11 g (.lst (gs ++ [.ref t2])) = H12 at *
              refine ⟨_, rfl, .inl ⟨rfl, _, SqL.of ht12⟩, And.intro (by show 1 ≤ sizeLine; decide) <| fun t3 nt3 => ?_⟩
              have kt3 := Keep.new (W := []) (o := .tup [.str "spoilt"]) nt3
              have ht3 : upd H12 t3 (.tup [.str "spoilt"]) t3 = some (.tup [.str "spoilt"]) := upd_same
              have ht13 := kt3 _ _ ht12 (by simp)
              have kg13 := kg12.trans kt3
              generalize upd H12 t3 (.tup [.str "spoilt"]) = H13 at *
              refine fun x2 dx2 nx2 ndx2 ne2 => ⟨x2, dx2, 1, 1, rfl, by decide, by exact Nat.one_lt_two_pow (by decide), upd_same, fun H14 K14 hx14 => ⟨rfl, ?_⟩⟩
              have km2 := keep_made nx2 ndx2 K14
              refine And.intro (by show 1 ≤ sizeLine; decide) <| fun l2 nl2 => ?_
              have kl2 := km2.trans (Keep.new (W := []) (o := .lst [.ref x2]) nl2)
              refine And.intro (by show 2 ≤ sizeLine; decide) <| fun t4 nt4 => ?_
              have kt4 := kl2.trans (Keep.new (W := []) (o := .tup [.ref t3, .ref l2]) nt4)
              have ht4 : upd (upd H14 l2 (.lst [.ref x2])) t4 (.tup [.ref t3, .ref l2]) t4 = some (.tup [.ref t3, .ref l2]) := upd_same
              generalize upd (upd H14 l2 (.lst [.ref x2])) t4 (.tup [.ref t3, .ref l2]) = H15 at *
              have ht15 := kt4 _ _ ht13 (by simp)
              refine ⟨tl, _, _, rfl, rfl, ht15, smallL (by omega), ?_⟩
              have kg16 := (kg13.trans kt4).then_own (o := .lst (ts ++ [.ref t4])) ntlG
              have ht16 : upd H15 tl (.lst (ts ++ [.ref t4])) tl = some (.lst (ts ++ [.ref t4])) := upd_same
              have ht416 := TK.lst (o := .lst (ts ++ [.ref t4])) ht15 _ _ ht4
              have ht316 := TK.lst (o := .lst (ts ++ [.ref t4])) ht15 _ _ (kt4 _ _ ht3 (by simp))
              generalize upd H15 tl (.lst (ts ++ [.ref t4])) = H16 at *
              refine ⟨_, rfl, _, rfl, _, rfl, x, v, r, es, rfl, hPG.keep kg16, hVRG.keep kg16, hek, fun H17 K17 => ⟨_, rfl, iteT ?_⟩⟩
              have hr17 := (k1G.trans (kg16.trans K17)) _ _ hr' (by simp)
              have ht17 := K17 _ _ ht16 (by simp)
              refine ⟨_, rfl, tl, _, rfl, .inl (SqL.of ht17), _, rfl, r, _, rfl, .inl (SqL.of hr17), _, _, rfl, rfl, rfl, _, rfl, iteDT (by rw [List.length_append, htsl, hrl, show (tabI es).length = es.length from htl]; rfl) ?_⟩
              refine ⟨_, rfl, _, rfl, _, _, _, _, rfl, rfl, SqL.of ht17, atI_last _ _, _, _, _, _, rfl, rfl, SqT.of (K17 _ _ ht416 (by simp)), rfl, And.intro (by show 1 ≤ sizeLine; decide) <| fun t5 nt5 => ?_⟩
              have ds : SeqAt.shaped (.tuple [.str "spoilt"]) = true := by decide +kernel
              have k5 := Keep.new (W := []) (o := .tup [.str "spoilt"]) nt5
              refine ⟨.tuple [.str "spoilt"], .tuple [.str "spoilt"], (TD.tup (k5 _ _ (K17 _ _ ht316 (by simp)) (by simp)) (.cons (.str _) .nil)).dp, (TD.tup upd_same (.cons (.str _) .nil)).dp, ds, ds, ?_⟩
              rw [eqv_same ds]
              exact k _
        · rw [hb]
          refine ⟨true, PySem.W.exm_ref T.gE T.gH T.gT T.gS, fun _ a' ha' => ?_, fun q => nomatch q⟩
          refine ⟨_, rfl, by show 4 ≤ sizeLine; decide, fun tp ntp => ?_⟩
          have K5 := Keep.new (W := []) (o := .tup [.ref C_BadMove, .ref C_BadPaper, .ref C_BadRatio, .ref C_BadText]) ntp
          have hd5 := K5 _ _ hd (by simp)
          refine ⟨_, tp, d, [C_BadMove, C_BadPaper, C_BadRatio, C_BadText], _, false, rfl, rfl, rfl, T.e_BadPlan, hd5, upd_same, T.kX, _, rfl, iteF ?_⟩
          refine ⟨_, rfl, rfl, _, rfl, iteT ?_⟩
          refine ⟨_, rfl, _, _, d, _, true, rfl, rfl, rfl, T.e_BadPlan, hd5, kitSelf, _, rfl, iteT ?_⟩
          refine ⟨_, rfl, rfl, rfl, d, _, _, rfl, hd5, rfl, _, rfl, _, rfl, iteT ?_⟩
          refine ⟨_, rfl, rfl, rfl, d, _, _, rfl, hd5, rfl, _, rfl, rfl, ?_⟩
          have ee : decide (V.int ((i : Nat) : Int) = optV (some i)) = true := decide_eq_true rfl
          rw [ee]
          exact k _
end

theorem all_mk {l : PySem.W.OpenLaw} {w : World} {K : PySem.W.Frag} {h : Heap} {mg : Str → Option Value} {fa : Addr} (X : K.In h) (G : h.Ns mainGlobals mg) (hfa : mg "law" = some (.ref fa))
    {f_common : Addr} {od_common an_common : Option Addr} {sl_common : Array (Option Value)} {oc_common kV_common dc_common pm_common cd_common ct_common : Value}
    {f_are_lots : Addr} {od_are_lots an_are_lots : Option Addr} {sl_are_lots : Array (Option Value)} {oc_are_lots kV_are_lots dc_are_lots pm_are_lots cd_are_lots ct_are_lots : Value}
    {f_law_is_integer : Addr} {od_law_is_integer an_law_is_integer : Option Addr} {sl_law_is_integer : Array (Option Value)} {oc_law_is_integer kV_law_is_integer dc_law_is_integer pm_law_is_integer cd_law_is_integer ct_law_is_integer : Value}
    {f_law_weights : Addr} {od_law_weights an_law_weights : Option Addr} {sl_law_weights : Array (Option Value)} {oc_law_weights kV_law_weights dc_law_weights pm_law_weights cd_law_weights ct_law_weights : Value}
    {f_law_bad : Addr} {od_law_bad an_law_bad : Option Addr} {sl_law_bad : Array (Option Value)} {oc_law_bad kV_law_bad dc_law_bad pm_law_bad cd_law_bad ct_law_bad : Value}
    {f_law_told : Addr} {od_law_told an_law_told : Option Addr} {sl_law_told : Array (Option Value)} {oc_law_told kV_law_told dc_law_told pm_law_told cd_law_told ct_law_told : Value}
    {f_law : Addr} {od_law an_law : Option Addr} {sl_law : Array (Option Value)} {oc_law kV_law dc_law pm_law cd_law ct_law : Value}
    {C_Ratio : Addr}
    {C_Plan : Addr}
    {f_Ratio___init : Addr} {od_Ratio___init an_Ratio___init : Option Addr} {sl_Ratio___init : Array (Option Value)} {oc_Ratio___init kV_Ratio___init dc_Ratio___init pm_Ratio___init cd_Ratio___init ct_Ratio___init : Value}
    {T_Ratio___init : Addr} {oT_Ratio___init : Value} {dT_Ratio___init : Option Addr} {nT_Ratio___init : Nat} {slT_Ratio___init : Array (Option Value)} {t_Ratio___init : Tok}
    {f_Ratio___eq : Addr} {od_Ratio___eq an_Ratio___eq : Option Addr} {sl_Ratio___eq : Array (Option Value)} {oc_Ratio___eq kV_Ratio___eq dc_Ratio___eq pm_Ratio___eq cd_Ratio___eq ct_Ratio___eq : Value}
    {f_Plan___init : Addr} {od_Plan___init an_Plan___init : Option Addr} {sl_Plan___init : Array (Option Value)} {oc_Plan___init kV_Plan___init dc_Plan___init pm_Plan___init cd_Plan___init ct_Plan___init : Value}
    {f_Plan_entries : Addr} {od_Plan_entries an_Plan_entries : Option Addr} {sl_Plan_entries : Array (Option Value)} {oc_Plan_entries kV_Plan_entries dc_Plan_entries pm_Plan_entries cd_Plan_entries ct_Plan_entries : Value}
    {C_GameError : Addr}
    {C_BadMove : Addr}
    {C_BadPaper : Addr}
    {C_BadRatio : Addr}
    {C_BadText : Addr}
    {C_BadPlan : Addr}
    {nm_BadPlan q_BadPlan : Str} {N_BadPlan : Addr} {bs_BadPlan : List Value} {sn_BadPlan : List Str} {sub_BadPlan : List Value} {ab_BadPlan : Bool} {col_BadPlan : Option Bool} {dd_BadPlan : Option Addr} {m0_BadPlan m1_BadPlan m2_BadPlan m3_BadPlan m5_BadPlan : Option Value}
    {f_BadPlan___init cda_BadPlan___init cc_BadPlan___init : Addr} {od_BadPlan___init an_BadPlan___init cld_BadPlan___init cdd_BadPlan___init : Option Addr} {sl_BadPlan___init csl_BadPlan___init ccs_BadPlan___init : Array (Option Value)} {vs_BadPlan___init : Array Value} {oc_BadPlan___init dc_BadPlan___init pm_BadPlan___init ct_BadPlan___init cl_BadPlan___init ccl_BadPlan___init : Value} {file_BadPlan___init : Str} {tf_BadPlan___init : Tok}
    (a_common : PySem.W.nsIn K mainGlobals "common" = some (some (.ref f_common))) (l_common : K.lookup f_common = some ⟨oc_common, od_common, .func (PySem.W.fnOf "common" "common" (fnArgs s_common) (fnBody s_common) (fnScope s_common) .none kV_common dc_common pm_common an_common cd_common ct_common), sl_common⟩) (c_common : PySem.W.codeIn K cd_common "common" = true) (k_common : PySem.W.keepIn K (.ref f_common) = true)
    (a_are_lots : PySem.W.nsIn K mainGlobals "are_lots" = some (some (.ref f_are_lots))) (l_are_lots : K.lookup f_are_lots = some ⟨oc_are_lots, od_are_lots, .func (PySem.W.fnOf "are_lots" "are_lots" (fnArgs s_are_lots) (fnBody s_are_lots) (fnScope s_are_lots) .none kV_are_lots dc_are_lots pm_are_lots an_are_lots cd_are_lots ct_are_lots), sl_are_lots⟩) (c_are_lots : PySem.W.codeIn K cd_are_lots "are_lots" = true) (k_are_lots : PySem.W.keepIn K (.ref f_are_lots) = true)
    (a_law_is_integer : PySem.W.nsIn K mainGlobals "_law_is_integer" = some (some (.ref f_law_is_integer))) (l_law_is_integer : K.lookup f_law_is_integer = some ⟨oc_law_is_integer, od_law_is_integer, .func (PySem.W.fnOf "_law_is_integer" "_law_is_integer" (fnArgs s_law_is_integer) (fnBody s_law_is_integer) (fnScope s_law_is_integer) .none kV_law_is_integer dc_law_is_integer pm_law_is_integer an_law_is_integer cd_law_is_integer ct_law_is_integer), sl_law_is_integer⟩) (c_law_is_integer : PySem.W.codeIn K cd_law_is_integer "_law_is_integer" = true) (k_law_is_integer : PySem.W.keepIn K (.ref f_law_is_integer) = true)
    (a_law_weights : PySem.W.nsIn K mainGlobals "_law_weights" = some (some (.ref f_law_weights))) (l_law_weights : K.lookup f_law_weights = some ⟨oc_law_weights, od_law_weights, .func (PySem.W.fnOf "_law_weights" "_law_weights" (fnArgs s_law_weights) (fnBody s_law_weights) (fnScope s_law_weights) .none kV_law_weights dc_law_weights pm_law_weights an_law_weights cd_law_weights ct_law_weights), sl_law_weights⟩) (c_law_weights : PySem.W.codeIn K cd_law_weights "_law_weights" = true) (k_law_weights : PySem.W.keepIn K (.ref f_law_weights) = true)
    (a_law_bad : PySem.W.nsIn K mainGlobals "_law_bad" = some (some (.ref f_law_bad))) (l_law_bad : K.lookup f_law_bad = some ⟨oc_law_bad, od_law_bad, .func (PySem.W.fnOf "_law_bad" "_law_bad" (fnArgs s_law_bad) (fnBody s_law_bad) (fnScope s_law_bad) .none kV_law_bad dc_law_bad pm_law_bad an_law_bad cd_law_bad ct_law_bad), sl_law_bad⟩) (c_law_bad : PySem.W.codeIn K cd_law_bad "_law_bad" = true) (k_law_bad : PySem.W.keepIn K (.ref f_law_bad) = true)
    (a_law_told : PySem.W.nsIn K mainGlobals "_law_told" = some (some (.ref f_law_told))) (l_law_told : K.lookup f_law_told = some ⟨oc_law_told, od_law_told, .func (PySem.W.fnOf "_law_told" "_law_told" (fnArgs s_law_told) (fnBody s_law_told) (fnScope s_law_told) .none kV_law_told dc_law_told pm_law_told an_law_told cd_law_told ct_law_told), sl_law_told⟩) (c_law_told : PySem.W.codeIn K cd_law_told "_law_told" = true) (k_law_told : PySem.W.keepIn K (.ref f_law_told) = true)
    (a_law : PySem.W.nsIn K mainGlobals "law" = some (some (.ref f_law))) (l_law : K.lookup f_law = some ⟨oc_law, od_law, .func (PySem.W.fnOf "law" "law" (fnArgs s_law) (fnBody s_law) (fnScope s_law) .none kV_law dc_law pm_law an_law cd_law ct_law), sl_law⟩) (c_law : PySem.W.codeIn K cd_law "law" = true) (k_law : PySem.W.keepIn K (.ref f_law) = true)
    (mc_Ratio : PySem.W.nsIn K mainGlobals "Ratio" = some (some (.ref C_Ratio)))
    (pg_Ratio : PySem.W.plainGet K C_Ratio Str.empty = true)
    (hd_Ratio : PySem.W.hasDictIn K C_Ratio = true)
    (po_Ratio : PySem.W.plainOver K C_Ratio = true)
    (sa_Ratio : PySem.W.findIn K (.ref C_Ratio) "__setattr__" = some (some (.builtin "object.__setattr__")))
    (mk_Ratio : PySem.W.makesIn K C_Ratio = true)
    (kc_Ratio : PySem.W.keepIn K (.ref C_Ratio) = true)
    (ha_Ratio : PySem.W.findIn K (.ref C_Ratio) "__class__" = some (some (.builtin "object.__class__")))
    (hn_Ratio : PySem.W.specialIn K (.builtin "object.__class__") "__get__" = some (some (.builtin "getset_descriptor.__get__")))
    (ht_Ratio : PySem.W.takesIn K (.builtin "object.__class__") = some true)
    (hm_Ratio : PySem.W.mroIn K C_Ratio (.type "object") = some true)
    (nnum_Ratio : PySem.W.findIn K (.ref C_Ratio) "num" = some none)
    (nden_Ratio : PySem.W.findIn K (.ref C_Ratio) "den" = some none)
    (mc_Plan : PySem.W.nsIn K mainGlobals "Plan" = some (some (.ref C_Plan)))
    (pg_Plan : PySem.W.plainGet K C_Plan Str.empty = true)
    (hd_Plan : PySem.W.hasDictIn K C_Plan = true)
    (po_Plan : PySem.W.plainOver K C_Plan = true)
    (sa_Plan : PySem.W.findIn K (.ref C_Plan) "__setattr__" = some (some (.builtin "object.__setattr__")))
    (mk_Plan : PySem.W.makesIn K C_Plan = true)
    (kc_Plan : PySem.W.keepIn K (.ref C_Plan) = true)
    (ha_Plan : PySem.W.findIn K (.ref C_Plan) "__class__" = some (some (.builtin "object.__class__")))
    (hn_Plan : PySem.W.specialIn K (.builtin "object.__class__") "__get__" = some (some (.builtin "getset_descriptor.__get__")))
    (ht_Plan : PySem.W.takesIn K (.builtin "object.__class__") = some true)
    (hm_Plan : PySem.W.mroIn K C_Plan (.type "object") = some true)
    (ntable_Plan : PySem.W.findIn K (.ref C_Plan) "table" = some none)
    (a_Ratio___init : PySem.W.findIn K (.ref C_Ratio) "__init__" = some (some (.ref f_Ratio___init))) (i_Ratio___init : PySem.W.isFn K (.ref f_Ratio___init) = true) (l_Ratio___init : K.lookup f_Ratio___init = some ⟨oc_Ratio___init, od_Ratio___init, .func (PySem.W.fnOf "__init__" "Ratio.__init__" (fnArgs s_Ratio___init) (fnBody s_Ratio___init) (fnScope s_Ratio___init) (.ref T_Ratio___init) kV_Ratio___init dc_Ratio___init pm_Ratio___init an_Ratio___init cd_Ratio___init ct_Ratio___init), sl_Ratio___init⟩) (c_Ratio___init : PySem.W.codeIn K cd_Ratio___init "Ratio.__init__" = true) (k_Ratio___init : PySem.W.keepIn K (.ref f_Ratio___init) = true)
    (lT_Ratio___init : K.lookup T_Ratio___init = some ⟨oT_Ratio___init, dT_Ratio___init, .seq #[.int 1 t_Ratio___init] nT_Ratio___init, slT_Ratio___init⟩)
    (a_Ratio___eq : PySem.W.findIn K (.ref C_Ratio) "__eq__" = some (some (.ref f_Ratio___eq))) (i_Ratio___eq : PySem.W.isFn K (.ref f_Ratio___eq) = true) (l_Ratio___eq : K.lookup f_Ratio___eq = some ⟨oc_Ratio___eq, od_Ratio___eq, .func (PySem.W.fnOf "__eq__" "Ratio.__eq__" (fnArgs s_Ratio___eq) (fnBody s_Ratio___eq) (fnScope s_Ratio___eq) .none kV_Ratio___eq dc_Ratio___eq pm_Ratio___eq an_Ratio___eq cd_Ratio___eq ct_Ratio___eq), sl_Ratio___eq⟩) (c_Ratio___eq : PySem.W.codeIn K cd_Ratio___eq "Ratio.__eq__" = true) (k_Ratio___eq : PySem.W.keepIn K (.ref f_Ratio___eq) = true)
    (a_Plan___init : PySem.W.findIn K (.ref C_Plan) "__init__" = some (some (.ref f_Plan___init))) (i_Plan___init : PySem.W.isFn K (.ref f_Plan___init) = true) (l_Plan___init : K.lookup f_Plan___init = some ⟨oc_Plan___init, od_Plan___init, .func (PySem.W.fnOf "__init__" "Plan.__init__" (fnArgs s_Plan___init) (fnBody s_Plan___init) (fnScope s_Plan___init) .none kV_Plan___init dc_Plan___init pm_Plan___init an_Plan___init cd_Plan___init ct_Plan___init), sl_Plan___init⟩) (c_Plan___init : PySem.W.codeIn K cd_Plan___init "Plan.__init__" = true) (k_Plan___init : PySem.W.keepIn K (.ref f_Plan___init) = true)
    (a_Plan_entries : PySem.W.findIn K (.ref C_Plan) "entries" = some (some (.ref f_Plan_entries))) (i_Plan_entries : PySem.W.isFn K (.ref f_Plan_entries) = true) (l_Plan_entries : K.lookup f_Plan_entries = some ⟨oc_Plan_entries, od_Plan_entries, .func (PySem.W.fnOf "entries" "Plan.entries" (fnArgs s_Plan_entries) (fnBody s_Plan_entries) (fnScope s_Plan_entries) .none kV_Plan_entries dc_Plan_entries pm_Plan_entries an_Plan_entries cd_Plan_entries ct_Plan_entries), sl_Plan_entries⟩) (c_Plan_entries : PySem.W.codeIn K cd_Plan_entries "Plan.entries" = true) (k_Plan_entries : PySem.W.keepIn K (.ref f_Plan_entries) = true)
    (mc_GameError : PySem.W.nsIn K mainGlobals "GameError" = some (some (.ref C_GameError)))
    (mc_BadMove : PySem.W.nsIn K mainGlobals "BadMove" = some (some (.ref C_BadMove)))
    (mc_BadPaper : PySem.W.nsIn K mainGlobals "BadPaper" = some (some (.ref C_BadPaper)))
    (mc_BadRatio : PySem.W.nsIn K mainGlobals "BadRatio" = some (some (.ref C_BadRatio)))
    (mc_BadText : PySem.W.nsIn K mainGlobals "BadText" = some (some (.ref C_BadText)))
    (mc_BadPlan : PySem.W.nsIn K mainGlobals "BadPlan" = some (some (.ref C_BadPlan)))
    (opq : PySem.W.nsIn K PySem.cStatics "thirdparty.any" = some none)
    (zsup : PySem.W.nsIn K mainGlobals "super" = some none)
    (ptop : (l.prog.main.scope.names.lookup ("super" : Str)).isSome = false)
    (xsp : PySem.W.specialIn K (.builtin "object.__class__") "__get__" = some (some (.builtin "getset_descriptor.__get__")))
    (xtk : PySem.W.takesIn K (.builtin "object.__class__") = some true)
    (xL_BadPlan : K.lookup C_BadPlan = some (excClassObj nm_BadPlan q_BadPlan C_BadPlan N_BadPlan bs_BadPlan [.ref C_GameError, .type "ValueError", .type "Exception", .type "BaseException", .type "object"] true sn_BadPlan sub_BadPlan ab_BadPlan col_BadPlan dd_BadPlan m0_BadPlan m1_BadPlan m2_BadPlan m3_BadPlan m5_BadPlan "ValueError.__new__"))
    (al_BadPlan : PySem.W.ks_superIn K C_BadPlan C_BadPlan "__init__" = some (some (.builtin "ValueError.__init__")))
    (ve_BadPlan : PySem.W.subIn K (.ref C_BadPlan) (.type "ValueError") = some true)
    (sa_BadPlan : PySem.W.findIn K (.ref C_BadPlan) "__setattr__" = some (some (.builtin "object.__setattr__")))
    (ga_BadPlan : PySem.W.findIn K (.ref C_BadPlan) "__getattribute__" = some (some (.builtin "BaseException.__getattribute__")))
    (gg_BadPlan : PySem.W.findIn K (.ref C_BadPlan) "__getattr__" = some none)
    (nb_BadPlan : PySem.W.findIn K (.ref C_BadPlan) "place" = some none)
    (iC_BadPlan : PySem.W.findIn K (.ref C_BadPlan) "__init__" = some (some (.ref f_BadPlan___init)))
    (tf_BadPlan : PySem.W.typeIn K (.ref f_BadPlan___init) = some (.type "function"))
    (kC_BadPlan : PySem.W.keepIn K (.ref C_BadPlan) = true)
    (eC_BadPlan : PySem.W.subIn K (.ref C_BadPlan) (.type "BaseException") = some true)
    (tC_BadPlan : PySem.W.typeIn K (.ref C_BadPlan) = some (.type "type"))
    (hC_BadPlan : PySem.W.hasDictIn K C_BadPlan = true)
    (mo_BadPlan : PySem.W.mroIn K C_BadPlan (.ref C_BadPlan) = some true)
    (ma_BadPlan : PySem.W.mroIn K C_BadPlan (.type "object") = some true)
    (ca_BadPlan : PySem.W.findIn K (.ref C_BadPlan) "__class__" = some (some (.builtin "object.__class__")))
    (ss_BadPlan : PySem.W.subIn K (.ref C_BadPlan) (.ref C_BadPlan) = some true)
    (lf_BadPlan : K.lookup f_BadPlan___init = some ⟨oc_BadPlan___init, od_BadPlan___init, .func (PySem.W.fnX "__init__" "BadPlan.__init__" (fnArgs s_BadPlan___init) (fnBody s_BadPlan___init) (fnScope s_BadPlan___init) [("__class__", cc_BadPlan___init)] .none .none dc_BadPlan___init pm_BadPlan___init an_BadPlan___init (.ref cda_BadPlan___init) ct_BadPlan___init), sl_BadPlan___init⟩)
    (cf_BadPlan : PySem.W.codeIn K (.ref cda_BadPlan___init) "BadPlan.__init__" = true)
    (lc_BadPlan : K.lookup cc_BadPlan___init = some ⟨cl_BadPlan___init, cld_BadPlan___init, .cell (some (.ref C_BadPlan)), csl_BadPlan___init⟩)
    (ld_BadPlan : K.lookup cda_BadPlan___init = some ⟨ccl_BadPlan___init, cdd_BadPlan___init, .fields vs_BadPlan___init, ccs_BadPlan___init⟩)
    (vf_BadPlan : vs_BadPlan___init[2]? = some (.str file_BadPlan___init tf_BadPlan___init))
    (fe_BadPlan : ((l.prog.main.file : Str) == file_BadPlan___init) = true)
    (hnR : PySem.W.findIn K (.ref C_Ratio) "__ne__" = some (some (.builtin "object.__ne__")))
    (hgE : PySem.W.subIn K (.ref C_GameError) (.type "BaseException") = some true)
    (hgH : PySem.W.hasDictIn K C_GameError = true)
    (hgT : PySem.W.typeIn K (.ref C_GameError) = some (.type "type"))
    (hgS : PySem.W.subIn K (.ref C_BadPlan) (.ref C_GameError) = some true)
    (hkX : PySem.W.kitAny K (.ref C_BadPlan) [.ref C_BadMove, .ref C_BadPaper, .ref C_BadRatio, .ref C_BadText] = some false)
    (z_gcd : PySem.W.nsIn K mainGlobals "gcd" = some (some (.builtin "math.gcd")))
    (z_lcm : PySem.W.nsIn K mainGlobals "lcm" = some (some (.builtin "math.lcm")))
    (z_all : PySem.W.nsIn K mainGlobals "all" = some none)
    (z_bool : PySem.W.nsIn K mainGlobals "bool" = some none)
    (z_enumerate : PySem.W.nsIn K mainGlobals "enumerate" = some none)
    (z_int : PySem.W.nsIn K mainGlobals "int" = some none)
    (z_isinstance : PySem.W.nsIn K mainGlobals "isinstance" = some none)
    (z_len : PySem.W.nsIn K mainGlobals "len" = some none)
    (z_list : PySem.W.nsIn K mainGlobals "list" = some none)
    (z_min : PySem.W.nsIn K mainGlobals "min" = some none)
    (z_range : PySem.W.nsIn K mainGlobals "range" = some none)
    (z_sum : PySem.W.nsIn K mainGlobals "sum" = some none)
    (z_tuple : PySem.W.nsIn K mainGlobals "tuple" = some none)
    : ∃ fd : FuncData, (∀ (s : Shared) (v : Value), BindsTo s fd ⟨[v], []⟩ [("script", v)]) ∧ ∀ base : Heap, K.In base → base.Ns mainGlobals mg → FnOk l.prog w K mg base C8.CX0 5 fa fd ["script"] (sp_law K) := by
  have e := hfa.symm.trans (PySem.W.mg_of X G a_law)
  cases e
  have T : Txt K mg C_Ratio C_Plan C_GameError C_BadMove C_BadPaper C_BadRatio C_BadText C_BadPlan := ⟨PySem.W.mg_none_of X G z_all, PySem.W.mg_none_of X G z_bool, PySem.W.mg_none_of X G z_enumerate, PySem.W.mg_none_of X G z_int, PySem.W.mg_none_of X G z_isinstance, PySem.W.mg_none_of X G z_len, PySem.W.mg_none_of X G z_list, PySem.W.mg_none_of X G z_min, PySem.W.mg_none_of X G z_range, PySem.W.mg_none_of X G z_sum, PySem.W.mg_none_of X G z_tuple, PySem.W.mg_of X G z_gcd, PySem.W.mg_of X G z_lcm, ⟨pg_Ratio, hd_Ratio, po_Ratio, sa_Ratio⟩, PySem.W.mg_of X G mc_Ratio, ⟨⟨pg_Ratio, hd_Ratio, po_Ratio, sa_Ratio⟩, ha_Ratio, hn_Ratio, ht_Ratio, hm_Ratio, kitSelf⟩, nnum_Ratio, nden_Ratio, ⟨pg_Plan, hd_Plan, po_Plan, sa_Plan⟩, PySem.W.mg_of X G mc_Plan, ⟨⟨pg_Plan, hd_Plan, po_Plan, sa_Plan⟩, ha_Plan, hn_Plan, ht_Plan, hm_Plan, kitSelf⟩, ntable_Plan, PySem.W.mg_of X G mc_GameError, PySem.W.mg_of X G mc_BadMove, PySem.W.mg_of X G mc_BadPaper, PySem.W.mg_of X G mc_BadRatio, PySem.W.mg_of X G mc_BadText, PySem.W.mg_of X G mc_BadPlan, ⟨ga_BadPlan, gg_BadPlan, eC_BadPlan, hC_BadPlan, ca_BadPlan, xsp, xtk, ma_BadPlan⟩, ⟨ga_BadPlan, gg_BadPlan, eC_BadPlan, hC_BadPlan⟩, nb_BadPlan, PySem.W.exm_ref eC_BadPlan hC_BadPlan tC_BadPlan ss_BadPlan, hnR, hgE, hgH, hgT, hgS, hkX, True.intro⟩
  have X_BadPlan : SupX_BadPlan.Txt l.prog K mg "BadPlan" C_BadPlan f_BadPlan___init := { gC := PySem.W.mg_of X G mc_BadPlan, cls := ⟨_, _, _, _, _, _, _, _, _, _, _, _, _, _, _, xL_BadPlan, rfl⟩, along := al_BadPlan, veC := ve_BadPlan, sa := sa_BadPlan, ga := ga_BadPlan, gg := gg_BadPlan, noN := nb_BadPlan, iC := iC_BadPlan, tC := tf_BadPlan, kC := kC_BadPlan, exC := eC_BadPlan, tyC := tC_BadPlan, hdC := hC_BadPlan, opq := opq, noS := PySem.W.mg_none_of X G zsup, mroC := mo_BadPlan, top := ptop, fn := ⟨_, _, _, _, _, _, _, _, _, _, _, _, _, _, _, _, _, _, lf_BadPlan, cf_BadPlan, lc_BadPlan, ld_BadPlan, vf_BadPlan, fe_BadPlan⟩ }
  have F_Ratio___init : C8.Fun K "__init__" "Ratio.__init__" s_Ratio___init _ _ := ⟨⟨_, _, _, _, _, _, _, _, _, _, rfl, l_Ratio___init, c_Ratio___init⟩⟩
  have M_Ratio : Mk K C_Ratio f_Ratio___init := ⟨mk_Ratio, a_Ratio___init, i_Ratio___init, kc_Ratio⟩
  have FD_Ratio___init : FunD K "__init__" "Ratio.__init__" (fnArgs s_Ratio___init) (fnBody s_Ratio___init) (fnScope s_Ratio___init) [.int 1] [] f_Ratio___init _ := ⟨⟨_, _, _, _, _, _, _, _, _, _, rfl, l_Ratio___init, c_Ratio___init, .inr ⟨by simp, _, _, [_], _, rfl, lT_Ratio___init, rfl, .cons ⟨_, rfl⟩ .nil⟩, .inl rfl⟩, k_Ratio___init⟩
  obtain ⟨ds2_Ratio___init, v2_Ratio___init, b2_Ratio___init⟩ := FD_Ratio___init.binds1 (ps := ["self", "num", "den"]) 3 1 (by simp) rfl (fun _ _ _ _ _ _ _ us its hu hi => match us, hu, its, hi with | [_, _, _], _, [_], _ => ⟨_, rfl, rfl⟩)
  obtain ⟨ds1_Ratio___init, v1_Ratio___init, b1_Ratio___init⟩ := FD_Ratio___init.binds1 (ps := ["self", "num", "den"]) 2 0 (by simp) rfl (fun _ _ _ _ _ _ _ us its hu hi => match us, hu, its, hi with | [_, _], _, [_], _ => ⟨_, rfl, rfl⟩)
  have F_Ratio___eq : C8.Fun K "__eq__" "Ratio.__eq__" s_Ratio___eq _ _ := ⟨⟨_, _, _, _, _, _, _, _, _, _, rfl, l_Ratio___eq, c_Ratio___eq⟩⟩
  have M_Ratio___eq : Meth K C_Ratio "__eq__" f_Ratio___eq := ⟨a_Ratio___eq, i_Ratio___eq, k_Ratio___eq⟩
  have b_Ratio___eq : Binds K _ ["self", "other"] [] := C8.Fun.binds F_Ratio___eq rfl fun _ _ _ _ _ _ us hl => match us, hl with | [_, _], _ => rfl
  have F_Plan___init : C8.Fun K "__init__" "Plan.__init__" s_Plan___init _ _ := ⟨⟨_, _, _, _, _, _, _, _, _, _, rfl, l_Plan___init, c_Plan___init⟩⟩
  have M_Plan : Mk K C_Plan f_Plan___init := ⟨mk_Plan, a_Plan___init, i_Plan___init, kc_Plan⟩
  have b_Plan___init : Binds K _ ["self", "entries"] [] := C8.Fun.binds F_Plan___init rfl fun _ _ _ _ _ _ us hl => match us, hl with | [_, _], _ => rfl
  have F_Plan_entries : C8.Fun K "entries" "Plan.entries" s_Plan_entries _ _ := ⟨⟨_, _, _, _, _, _, _, _, _, _, rfl, l_Plan_entries, c_Plan_entries⟩⟩
  have M_Plan_entries : Meth K C_Plan "entries" f_Plan_entries := ⟨a_Plan_entries, i_Plan_entries, k_Plan_entries⟩
  have b_Plan_entries : Binds K _ ["self"] [] := C8.Fun.binds F_Plan_entries rfl fun _ _ _ _ _ _ us hl => match us, hl with | [_], _ => rfl
  have D_common : C8.Def K mg "common" s_common _ _ := ⟨⟨⟨_, _, _, _, _, _, _, _, _, _, rfl, l_common, c_common⟩⟩, PySem.W.mg_of X G a_common, k_common⟩
  have b_common : Binds K _ ["ratios"] [] := C8.Fun.binds D_common.fn rfl fun _ _ _ _ _ _ us hl => match us, hl with | [_], _ => rfl
  have D_are_lots : C8.Def K mg "are_lots" s_are_lots _ _ := ⟨⟨⟨_, _, _, _, _, _, _, _, _, _, rfl, l_are_lots, c_are_lots⟩⟩, PySem.W.mg_of X G a_are_lots, k_are_lots⟩
  have b_are_lots : Binds K _ ["ratios"] [] := C8.Fun.binds D_are_lots.fn rfl fun _ _ _ _ _ _ us hl => match us, hl with | [_], _ => rfl
  have D_law_is_integer : C8.Def K mg "_law_is_integer" s_law_is_integer _ _ := ⟨⟨⟨_, _, _, _, _, _, _, _, _, _, rfl, l_law_is_integer, c_law_is_integer⟩⟩, PySem.W.mg_of X G a_law_is_integer, k_law_is_integer⟩
  have b_law_is_integer : Binds K _ ["actual"] [] := C8.Fun.binds D_law_is_integer.fn rfl fun _ _ _ _ _ _ us hl => match us, hl with | [_], _ => rfl
  have D_law_weights : C8.Def K mg "_law_weights" s_law_weights _ _ := ⟨⟨⟨_, _, _, _, _, _, _, _, _, _, rfl, l_law_weights, c_law_weights⟩⟩, PySem.W.mg_of X G a_law_weights, k_law_weights⟩
  have b_law_weights : Binds K _ ["cell", "way"] [] := C8.Fun.binds D_law_weights.fn rfl fun _ _ _ _ _ _ us hl => match us, hl with | [_, _], _ => rfl
  have D_law_bad : C8.Def K mg "_law_bad" s_law_bad _ _ := ⟨⟨⟨_, _, _, _, _, _, _, _, _, _, rfl, l_law_bad, c_law_bad⟩⟩, PySem.W.mg_of X G a_law_bad, k_law_bad⟩
  have b_law_bad : Binds K _ ["views", "rows"] [] := C8.Fun.binds D_law_bad.fn rfl fun _ _ _ _ _ _ us hl => match us, hl with | [_, _], _ => rfl
  have D_law_told : C8.Def K mg "_law_told" s_law_told _ _ := ⟨⟨⟨_, _, _, _, _, _, _, _, _, _, rfl, l_law_told, c_law_told⟩⟩, PySem.W.mg_of X G a_law_told, k_law_told⟩
  have b_law_told : Binds K _ ["plan", "views", "rows"] [] := C8.Fun.binds D_law_told.fn rfl fun _ _ _ _ _ _ us hl => match us, hl with | [_, _, _], _ => rfl
  have F_law : C8.Fun K "law" "law" s_law _ _ := ⟨⟨_, _, _, _, _, _, _, _, _, _, rfl, l_law, c_law⟩⟩
  refine ⟨PySem.W.fnOf "law" "law" (fnArgs s_law) (fnBody s_law) (fnScope s_law) .none kV_law dc_law pm_law an_law cd_law ct_law, fun s v => .of_eq rfl, fun base _ _ => ?_⟩
  have c_Ratio := ok_rat_init (P := l.prog) (w := w) (base := base) M_Ratio F_Ratio___init b1_Ratio___init v1_Ratio___init T
  have c_Ratio2 := ok_rat_init (P := l.prog) (w := w) (base := base) M_Ratio F_Ratio___init b2_Ratio___init v2_Ratio___init T
  have c_Ratio_eq := ok_req (P := l.prog) (w := w) (base := base) M_Ratio___eq F_Ratio___eq b_Ratio___eq T
  have c_common := ok_common (P := l.prog) (w := w) (base := base) D_common b_common T
  have c_are_lots := ok_are_lots D_are_lots b_are_lots T c_common
  have c_Plan := ok_plan M_Plan F_Plan___init b_Plan___init T X_BadPlan c_are_lots
  have c_Plan_entries := ok_pent (P := l.prog) (w := w) (base := base) M_Plan_entries F_Plan_entries b_Plan_entries T
  have c_law_is_integer := ok_isintQ (P := l.prog) (w := w) (base := base) D_law_is_integer b_law_is_integer T
  have c_law_weights := ok_weights (P := l.prog) (w := w) (base := base) D_law_weights b_law_weights T
  have c_law_bad := ok_bad (P := l.prog) (w := w) (base := base) D_law_bad b_law_bad T
  have c_law_told := ok_ltold D_law_told b_law_told T c_Ratio2 c_Ratio_eq c_Plan_entries
  exact ok_law F_law T c_law_weights c_law_bad c_law_told c_law_is_integer c_Ratio c_Ratio2 c_Ratio_eq c_Plan c_Plan_entries
theorem walk {l : PySem.W.OpenLaw} {q : Program} {loose : List Str} {XP : (Str → Option Value) → Heap → Prop} {YP : World → Heap → Prop} {d : DefRec} {K : Params → PySem.W.Frag} (hn : l.most = some 63) (hdf : d.params.defaults = [])
    (hY : ∀ (w : World) (h : Heap), YP w h → (K w.params).In h)
    (F : ∀ (w : World) (mg : Str → Option Value) (fa : Addr) (h : Heap), (K w.params).In h → h.Ns mainGlobals mg → mg d.name = some (.ref fa) →
      ∃ fd : FuncData, (∀ (s : Shared) (u : Value), BindsTo s fd ⟨[u], []⟩ [("script", u)]) ∧ ∀ base : Heap, (K w.params).In base → base.Ns mainGlobals mg → FnOk l.prog w (K w.params) mg base C8.CX0 5 fa fd ["script"] (sp_law (K w.params))) :
    PySem.W.WalkO q loose XP YP l.row.toRowW d [] (fun f vs => PySem.call f vs) :=
  L2.walk_ofB (n := 63) (k := 5) (x := "script") (CX := fun _ => C8.CX0) (sp := fun w => sp_law (K w.params)) hn (by decide) hdf ⟨rfl, by decide, by decide⟩ hY F (fun _ _ a ns hl hb _ hS => ⟨a, ns, rfl, hS, fun _ => rfl⟩) fun _ _ _ _ _ z => z
end My
open PySem PySem.W PyProof.Rows
set_option maxRecDepth 100000 in
set_option maxHeartbeats 0 in
theorem PySem.Challenge.cw_bothgain_k40_plans_are_checked_holds : PySem.Challenge.rw_bothgain_k40_plans_are_checked.Holds := by
  w_on; o_law; k_head; (case hw => w_witness2)
  k_fill
  refine My.walk (l := PySem.Challenge.rw_bothgain_k40_plans_are_checked) rfl rfl (fun w h Y => PySem.W.kIn_of Y) ?F
  case F =>
    intro w mg fa h KX G hmg
    refine' My.all_mk KX G hmg ?a_common ?l_common ?c_common ?k_common ?a_are_lots ?l_are_lots ?c_are_lots ?k_are_lots ?a_law_is_integer ?l_law_is_integer ?c_law_is_integer ?k_law_is_integer ?a_law_weights ?l_law_weights ?c_law_weights ?k_law_weights ?a_law_bad ?l_law_bad ?c_law_bad ?k_law_bad ?a_law_told ?l_law_told ?c_law_told ?k_law_told ?a_law ?l_law ?c_law ?k_law ?mc_Ratio ?pg_Ratio ?hd_Ratio ?po_Ratio ?sa_Ratio ?mk_Ratio ?kc_Ratio ?ha_Ratio ?hn_Ratio ?ht_Ratio ?hm_Ratio ?nnum_Ratio ?nden_Ratio ?mc_Plan ?pg_Plan ?hd_Plan ?po_Plan ?sa_Plan ?mk_Plan ?kc_Plan ?ha_Plan ?hn_Plan ?ht_Plan ?hm_Plan ?ntable_Plan ?a_Ratio___init ?i_Ratio___init ?l_Ratio___init ?c_Ratio___init ?k_Ratio___init ?lT_Ratio___init ?a_Ratio___eq ?i_Ratio___eq ?l_Ratio___eq ?c_Ratio___eq ?k_Ratio___eq ?a_Plan___init ?i_Plan___init ?l_Plan___init ?c_Plan___init ?k_Plan___init ?a_Plan_entries ?i_Plan_entries ?l_Plan_entries ?c_Plan_entries ?k_Plan_entries ?mc_GameError ?mc_BadMove ?mc_BadPaper ?mc_BadRatio ?mc_BadText ?mc_BadPlan ?opq ?zsup ?ptop ?xsp ?xtk ?xL_BadPlan ?al_BadPlan ?ve_BadPlan ?sa_BadPlan ?ga_BadPlan ?gg_BadPlan ?nb_BadPlan ?iC_BadPlan ?tf_BadPlan ?kC_BadPlan ?eC_BadPlan ?tC_BadPlan ?hC_BadPlan ?mo_BadPlan ?ma_BadPlan ?ca_BadPlan ?ss_BadPlan ?lf_BadPlan ?cf_BadPlan ?lc_BadPlan ?ld_BadPlan ?vf_BadPlan ?fe_BadPlan ?hnR ?hgE ?hgH ?hgT ?hgS ?hkX ?z_gcd ?z_lcm ?z_all ?z_bool ?z_enumerate ?z_int ?z_isinstance ?z_len ?z_list ?z_min ?z_range ?z_sum ?z_tuple
    (case a_common => k_is)
    (case l_common => k_is)
    (case c_common => k_is)
    (case k_common => k_is)
    (case a_are_lots => k_is)
    (case l_are_lots => k_is)
    (case c_are_lots => k_is)
    (case k_are_lots => k_is)
    (case a_law_is_integer => k_is)
    (case l_law_is_integer => k_is)
    (case c_law_is_integer => k_is)
    (case k_law_is_integer => k_is)
    (case a_law_weights => k_is)
    (case l_law_weights => k_is)
    (case c_law_weights => k_is)
    (case k_law_weights => k_is)
    (case a_law_bad => k_is)
    (case l_law_bad => k_is)
    (case c_law_bad => k_is)
    (case k_law_bad => k_is)
    (case a_law_told => k_is)
    (case l_law_told => k_is)
    (case c_law_told => k_is)
    (case k_law_told => k_is)
    (case a_law => k_is)
    (case l_law => k_is)
    (case c_law => k_is)
    (case k_law => k_is)
    (case mc_Ratio => k_is)
    (case pg_Ratio => k_is)
    (case hd_Ratio => k_is)
    (case po_Ratio => k_is)
    (case sa_Ratio => k_is)
    (case mk_Ratio => k_is)
    (case kc_Ratio => k_is)
    (case ha_Ratio => k_is)
    (case hn_Ratio => k_is)
    (case ht_Ratio => k_is)
    (case hm_Ratio => k_is)
    (case nnum_Ratio => k_is)
    (case nden_Ratio => k_is)
    (case mc_Plan => k_is)
    (case pg_Plan => k_is)
    (case hd_Plan => k_is)
    (case po_Plan => k_is)
    (case sa_Plan => k_is)
    (case mk_Plan => k_is)
    (case kc_Plan => k_is)
    (case ha_Plan => k_is)
    (case hn_Plan => k_is)
    (case ht_Plan => k_is)
    (case hm_Plan => k_is)
    (case ntable_Plan => k_is)
    (case a_Ratio___init => k_is)
    (case i_Ratio___init => k_is)
    (case l_Ratio___init => k_is)
    (case c_Ratio___init => k_is)
    (case k_Ratio___init => k_is)
    (case lT_Ratio___init => k_is)
    (case a_Ratio___eq => k_is)
    (case i_Ratio___eq => k_is)
    (case l_Ratio___eq => k_is)
    (case c_Ratio___eq => k_is)
    (case k_Ratio___eq => k_is)
    (case a_Plan___init => k_is)
    (case i_Plan___init => k_is)
    (case l_Plan___init => k_is)
    (case c_Plan___init => k_is)
    (case k_Plan___init => k_is)
    (case a_Plan_entries => k_is)
    (case i_Plan_entries => k_is)
    (case l_Plan_entries => k_is)
    (case c_Plan_entries => k_is)
    (case k_Plan_entries => k_is)
    (case mc_GameError => k_is)
    (case mc_BadMove => k_is)
    (case mc_BadPaper => k_is)
    (case mc_BadRatio => k_is)
    (case mc_BadText => k_is)
    (case mc_BadPlan => k_is)
    (case opq => first | k_is | rfl | decide +kernel)
    (case zsup => k_is)
    (case ptop => first | k_is | rfl | decide +kernel)
    (case xsp => k_is)
    (case xtk => k_is)
    (case xL_BadPlan => k_is)
    (case al_BadPlan => first | k_is | rfl | decide +kernel)
    (case ve_BadPlan => k_is)
    (case sa_BadPlan => k_is)
    (case ga_BadPlan => k_is)
    (case gg_BadPlan => k_is)
    (case nb_BadPlan => k_is)
    (case iC_BadPlan => k_is)
    (case tf_BadPlan => k_is)
    (case kC_BadPlan => k_is)
    (case eC_BadPlan => k_is)
    (case tC_BadPlan => k_is)
    (case hC_BadPlan => k_is)
    (case mo_BadPlan => k_is)
    (case ma_BadPlan => k_is)
    (case ca_BadPlan => k_is)
    (case ss_BadPlan => first | k_is | rfl | decide +kernel)
    (case lf_BadPlan => k_is)
    (case cf_BadPlan => k_is)
    (case lc_BadPlan => k_is)
    (case ld_BadPlan => k_is)
    (case vf_BadPlan => first | k_is | rfl | decide +kernel)
    (case fe_BadPlan => first | k_is | rfl | decide +kernel)
    (case hnR => first | k_is | kit_is | rfl | decide +kernel)
    (case hgE => first | k_is | kit_is | rfl | decide +kernel)
    (case hgH => first | k_is | kit_is | rfl | decide +kernel)
    (case hgT => first | k_is | kit_is | rfl | decide +kernel)
    (case hgS => first | k_is | kit_is | rfl | decide +kernel)
    (case hkX => first | k_is | kit_is | rfl | decide +kernel)
    (case z_gcd => k_is)
    (case z_lcm => k_is)
    (case z_all => k_is)
    (case z_bool => k_is)
    (case z_enumerate => k_is)
    (case z_int => k_is)
    (case z_isinstance => k_is)
    (case z_len => k_is)
    (case z_list => k_is)
    (case z_min => k_is)
    (case z_range => k_is)
    (case z_sum => k_is)
    (case z_tuple => k_is)

