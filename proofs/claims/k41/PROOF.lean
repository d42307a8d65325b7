
import PyProof.Rows.All
import Wide.All
import OpenK.AllK
import Wide.FinOn
import HandS.ForMost
import HandS.Codes
import HandS.IsInst
import HandS.EndBits
import HandS.Walk
import HandS.DeepEq
import HandS.Gcd
import HandS.Wide
import HandS.Defaults
import HandS.OwnEq
import HandS.Dict
import HandS.WordsDict
import HandS.Star
import HandS.Strs
import HandS.RaiseMore
import HandS.More
import HandS.Iter
import HandS.Zip
import HandS.Style
import HandS.TupAny
import HandS.Deep
import HandS.DictTup
import KE.KeyNested
import KE.KDictKeyed
import PySem.Challenge.RW_bothgain_k41_what_a_plan_does_at_a_view
set_option Elab.async false
set_option linter.all false
set_option maxRecDepth 100000
set_option maxHeartbeats 4000000
set_option pp.maxSteps 400

/-! dicts whose keys are nested tuples (the hand layer): keys that are told to the tracked heap, get, in, put, items -/
namespace NDi
open PySem PySem.W PySem.Calls PyProof.Rows PyProof.V PySem.Spec L2
mutual
/-- the value v is the key k, its tuples tracked -/
inductive NK (H : Hp) : NestedKey → V → Prop
  | none : NK H .none .non
  | num (i : Int) : NK H (.num i) (.int i)
  | text (x : Str) : NK H (.text x) (.str x)
  | tup {a : Addr} {vs : List V} {ks : List NestedKey} : H a = some (.tup vs) → NKs H ks vs → NK H (.tup ks) (.ref a)
inductive NKs (H : Hp) : List NestedKey → List V → Prop
  | nil : NKs H [] []
  | cons {k : NestedKey} {v : V} {ks : List NestedKey} {vs : List V} : NK H k v → NKs H ks vs → NKs H (k :: ks) (v :: vs)
end
mutual
theorem NK.tk {H H' : Hp} (t : ∀ b xs, H b = some (.tup xs) → H' b = some (.tup xs)) : ∀ (k : NestedKey) {v : V}, NK H k v → NK H' k v
  | .none, _, h => by cases h; exact .none
  | .num i, _, h => by cases h; exact .num i
  | .text x, _, h => by cases h; exact .text x
  | .tup ks, _, h => by
    cases h with
    | tup h1 h2 => exact .tup (t _ _ h1) (NKs.tk t ks h2)
theorem NKs.tk {H H' : Hp} (t : ∀ b xs, H b = some (.tup xs) → H' b = some (.tup xs)) : ∀ (ks : List NestedKey) {vs : List V}, NKs H ks vs → NKs H' ks vs
  | [], _, h => by cases h; exact .nil
  | k :: ks, _, h => by
    cases h with
    | cons h1 h2 => exact .cons (NK.tk t k h1) (NKs.tk t ks h2)
end
section
variable {P : Program} {w : World} {H : Hp} {h : Heap}
mutual
theorem nk_is (ok : HOk P w H h) : ∀ (k : NestedKey) {v : V} {u : Value}, NK H k v → RelV v u → NestedIs h k u
  | .none, _, u, n, r => by
    cases n
    cases (show u = Value.none from r)
    exact .none
  | .num i, _, u, n, r => by
    cases n
    obtain ⟨t, rfl⟩ := r
    exact .int i t
  | .text x, _, u, n, r => by
    cases n
    obtain ⟨t, rfl⟩ := r
    exact .text x t
  | .tup ks, _, u, n, r => by
    cases n with
    | @tup a vs _ h1 h2 =>
      cases (show u = Value.ref a from r)
      obtain ⟨_, its, rv, o, e1, e2, m, e3⟩ := (show ObjOk P w H h a (.tup vs) from ok a _ h1)
      exact .tup e1 e2 e3 (by simpa using nks_are ok ks h2 rv)
theorem nks_are (ok : HOk P w H h) : ∀ (ks : List NestedKey) {vs : List V} {us : List Value}, NKs H ks vs → Vals vs us → NestedAll h ks us
  | [], _, us, n, r => by
    cases n
    cases r
    exact .nil
  | k :: ks, _, us, n, r => by
    cases n with
    | cons n1 n2 =>
      cases r with
      | cons r1 r2 => exact .cons (nk_is ok k n1 r1) (nks_are ok ks n2 r2)
end
end
abbrev Ent := NestedKey × Addr × V
abbrev RE : List Ent → List (NestedKey × Addr × Value) → Prop := Paired fun p q => p.1 = q.1 ∧ p.2.1 = q.2.1 ∧ RelV p.2.2 q.2.2
def valN (xs : List Ent) (k : NestedKey) : Option V := (xs.find? fun x => decide (x.1 = k)).map (·.2.2)
def putN (xs : List Ent) (k : NestedKey) (b : Addr) (v : V) : List Ent := if (valN xs k).isSome then xs.map (fun x => if x.1 = k then (x.1, x.2.1, v) else x) else xs ++ [(k, b, v)]
theorem valN_nil (k : NestedKey) : valN [] k = none := rfl
theorem valN_pos {p : Ent} {r : List Ent} {k : NestedKey} (e : p.1 = k) : valN (p :: r) k = some p.2.2 := by simp [valN, List.find?_cons, e]
theorem valN_neg {p : Ent} {r : List Ent} {k : NestedKey} (e : ¬ p.1 = k) : valN (p :: r) k = valN r k := by simp [valN, List.find?_cons, e]
theorem putN_new {xs : List Ent} {k : NestedKey} {b : Addr} {v : V} (h : valN xs k = none) : putN xs k b v = xs ++ [(k, b, v)] := by
  unfold putN
  rw [h]; rfl
theorem putN_len (xs : List Ent) (k : NestedKey) (b : Addr) (v : V) : (putN xs k b v).length ≤ xs.length + 1 := by
  unfold putN
  split
  · rw [List.length_map]; omega
  · rw [List.length_append]; exact Nat.le_refl _
theorem putN_mem {xs : List Ent} {k : NestedKey} {b : Addr} {v : V} {x : Ent} (h : x ∈ putN xs k b v) : (∃ y ∈ xs, y.1 = x.1 ∧ y.2.1 = x.2.1) ∨ (x.1 = k ∧ x.2.1 = b) := by
  unfold putN at h
  split at h
  · obtain ⟨y, hy, rfl⟩ := List.mem_map.mp h
    left
    refine ⟨y, hy, ?_⟩
    split
    · exact ⟨rfl, rfl⟩
    · exact ⟨rfl, rfl⟩
  · rcases List.mem_append.mp h with q | q
    · exact .inl ⟨x, q, rfl, rfl⟩
    · rw [List.mem_singleton.mp q]; exact .inr ⟨rfl, rfl⟩
theorem valN_some {xs : List Ent} {k : NestedKey} {v : V} (h : valN xs k = some v) : ∃ b, (k, b, v) ∈ xs := by
  unfold valN at h
  obtain ⟨x, hx, rfl⟩ := Option.map_eq_some_iff.mp h
  have h1 := List.find?_some hx
  have h2 := List.mem_of_find?_eq_some hx
  simp only [decide_eq_true_eq] at h1
  exact ⟨x.2.1, by rw [← h1]; exact h2⟩
theorem valN_none {xs : List Ent} {k : NestedKey} (h : ∀ x ∈ xs, x.1 ≠ k) : valN xs k = none := by
  unfold valN
  rw [Option.map_eq_none_iff, List.find?_eq_none]
  intro x hx
  simpa using h x hx
theorem RE.val {xs : List Ent} {vs : List (NestedKey × Addr × Value)} (r : RE xs vs) (k : NestedKey) : RelO (valN xs k) ((atKey vs k).map (·.2)) := by
  induction r with
  | nil => exact True.intro
  | @cons p q ps qs h t ih =>
    obtain ⟨h1, _, h2⟩ := h
    by_cases e : p.1 = k
    · have e' : q.1 = k := h1.symm.trans e
      have b : atKey (q :: qs) k = some q.2 := by simp [atKey, List.find?_cons, e']
      rw [valN_pos e, b]; exact h2
    · have e' : ¬ q.1 = k := fun z => e (h1.trans z)
      have b : atKey (q :: qs) k = atKey qs k := by simp [atKey, List.find?_cons, e']
      rw [valN_neg e, b]; exact ih
theorem RE.put {xs : List Ent} {vs : List (NestedKey × Addr × Value)} (r : RE xs vs) (k : NestedKey) (b : Addr) {y : V} {u : Value} (ry : RelV y u) : RE (putN xs k b y) (storedH vs k b u) := by
  have e : (valN xs k).isSome = (atKey vs k).isSome := by
    rw [(r.val k).isSome_eq, Option.isSome_map]
  unfold putN storedH
  rw [e]
  by_cases q : (atKey vs k).isSome = true
  · rw [if_pos q, if_pos q]
    clear e q
    induction r with
    | nil => exact .nil
    | @cons p q ps qs h t ih =>
      rw [List.map_cons, List.map_cons]
      refine .cons ?_ ih
      obtain ⟨h1, h2, h3⟩ := h
      unfold putAt
      by_cases e : p.1 = k
      · rw [if_pos e, if_pos (h1.symm.trans e)]; exact ⟨h1, h2, ry⟩
      · rw [if_neg e, if_neg (fun z => e (h1.trans z))]; exact ⟨h1, h2, h3⟩
  · rw [if_neg q, if_neg q]; exact Paired.snoc r ⟨rfl, rfl, ry⟩
/-- what is true of the dict's object -/
def ndφ (P : Program) (w : World) (a : Addr) (xs : List Ent) (h : Heap) : Prop := xs.length ≤ sizeLine ∧ (a == sysModules) = false ∧ ∃ vs, RE xs vs ∧
  ∃ o es ep, h.get? a = some o ∧ o.ExactDict ∧ o.data = .dict es ep ∧ es.toList = vs.map (entryOfKey (nestedKind P w)) ∧ (vs.map (·.1)).Nodup
def ndO (P : Program) (w : World) (a : Addr) (xs : List Ent) : HO := .ext (ndφ P w a xs)
theorem ndO_ok {P : Program} {w : World} {H : Hp} {h : Heap} {a : Addr} {xs : List Ent} (x : ndφ P w a xs h) : ObjOk P w H h a (ndO P w a xs) := by
  refine ⟨x, ?_, fun h1 h2 x1 k => ?_⟩
  · obtain ⟨_, _, _, _, o, _, _, e, _⟩ := x; exact ⟨o, e⟩
  · obtain ⟨z, y, vs, r, o, es, ep, e, c⟩ := x1
    exact ⟨z, y, vs, r, o, es, ep, k o e, c⟩
theorem nd_of {P : Program} {w : World} {H : Hp} {h : Heap} {a : Addr} {xs : List Ent} (ok : HOk P w H h) (e : Rd H a (ndO P w a xs)) : ndφ P w a xs h := (show ObjOk P w H h a (.ext (ndφ P w a xs)) from e.ok ok).1
/-- a dict with nested keys, its keys tracked -/
def NDat (P : Program) (w : World) (H : Hp) (a : Addr) (xs : List Ent) : Prop := Rd H a (ndO P w a xs) ∧ ∀ x ∈ xs, NK H x.1 (.ref x.2.1) ∧ x.1.depth ≤ 8
theorem NDat.dict {P : Program} {w : World} {H : Hp} {h : Heap} {a : Addr} {xs : List Ent} (ok : HOk P w H h) (n : NDat P w H a xs) : xs.length ≤ sizeLine ∧ (a == sysModules) = false ∧ ∃ vs, RE xs vs ∧ h.DictOfH (nestedKind P w) a vs := by
  obtain ⟨z, y, vs, r, o, es, ep, h1, h2, h3, h4, h5⟩ := nd_of ok n.1
  refine ⟨z, y, vs, r, o, es, ep, h1, h2, h3, h4, ?_, h5⟩
  have all : ∀ {l : List Ent} {m : List (NestedKey × Addr × Value)}, RE l m → (∀ x ∈ l, NK H x.1 (.ref x.2.1) ∧ x.1.depth ≤ 8) → ∀ x ∈ m, (nestedKind P w).is h x.1 x.2.1 := by
    intro l m q
    induction q with
    | nil => intro _ x hx; exact nomatch hx
    | @cons p q ps qs hq t ih =>
      intro hk x hx
      rcases List.mem_cons.mp hx with e | hx
      · subst e
        obtain ⟨k1, k2⟩ := hk p (List.mem_cons_self ..)
        rw [hq.1, hq.2.1] at k1
        rw [hq.1] at k2
        exact ⟨nk_is ok _ k1 rfl, k2⟩
      · exact ih (fun y hy => hk y (List.mem_cons_of_mem _ hy)) x hx
  exact all r n.2
/-- what it holds at y -/
def NGet (P : Program) (w : World) (H : Hp) (a : Addr) (y : V) (r : Option V) : Prop := ∃ xs k b, NDat P w H a xs ∧ y = .ref b ∧ NK H k (.ref b) ∧ k.depth ≤ 8 ∧ r = valN xs k
/-- the heap behind a[y] = v -/
def NPut (P : Program) (w : World) (H : Hp) (a : Addr) (y v : V) (H' : Hp) : Prop := ∃ xs k b, NDat P w H a xs ∧ H a = some (ndO P w a xs) ∧ y = .ref b ∧ NK H k (.ref b) ∧ k.depth ≤ 8 ∧ xs.length < sizeLine ∧ H' = upd H a (ndO P w a (putN xs k b v))
theorem nd_ne {P : Program} {w : World} {H : Hp} {a b : Addr} {xs : List Ent} {ys : List V} (h : H a = some (ndO P w a xs)) (g : H b = some (.tup ys)) : b ≠ a := ne_of g h (fun z => nomatch z)
theorem nd_tk {P : Program} {w : World} {H : Hp} {a : Addr} {xs : List Ent} {o : HO} (h : H a = some (ndO P w a xs)) : ∀ b ys, H b = some (.tup ys) → upd H a o b = some (.tup ys) := fun b ys g => by
  rw [upd_ne (nd_ne h g)]; exact g
theorem NDat.put {P : Program} {w : World} {H : Hp} {a b : Addr} {xs : List Ent} {k : NestedKey} {v : V} (n : NDat P w H a xs) (h : H a = some (ndO P w a xs)) (hk : NK H k (.ref b)) (hd : k.depth ≤ 8) : NDat P w (upd H a (ndO P w a (putN xs k b v))) a (putN xs k b v) := by
  refine ⟨.inl upd_same, fun x hx => ?_⟩
  rcases putN_mem hx with ⟨y, hy, e1, e2⟩ | ⟨e1, e2⟩
  · obtain ⟨k1, k2⟩ := n.2 y hy
    rw [e1, e2] at k1
    rw [e1] at k2
    exact ⟨NK.tk (nd_tk h) _ k1, k2⟩
  · rw [e1, e2]
    exact ⟨NK.tk (nd_tk h) _ hk, hd⟩
section
variable {X : Cx} {pins : List (Addr × Obj)} {σ : L2.St} {H : Hp} {s : Shared} {a : Addr} {y v : V} {u r : Value} {o : Option V} {A : Around} {E : Value → Shared → Prop}
theorem room_n (hu : A.units + 65 < cLine) : (nestedKind X.prog X.w).room A.in1 := by
  show A.in1.units + 8 < cLine
  rw [Around.in1_units]; omega
theorem n_getItem {Q : Value → Shared → Prop} (hu : A.units + 65 < cLine) (I : Inv X pins σ H s) (g : NGet X.prog X.w H a y (some v)) (ry : RelV y u) (h : ∀ w' s', Inv X pins σ H s' → RelV v w' → Q w' s') :
    wpAny (model X.prog X.w) A (getItem (.ref a) u) Q E s := by
  obtain ⟨xs, k, b, n, ey, hk, hd, l⟩ := g
  subst ey
  cases (show u = Value.ref b from ry)
  obtain ⟨z, hs, vs, rel, dd⟩ := n.dict I.hok
  obtain ⟨w', hw, rw'⟩ := RelO.some_of (v := v) (o := (atKey vs k).map (·.2)) (by rw [l]; exact rel.val k)
  obtain ⟨p, hp, hp2⟩ := Option.map_eq_some_iff.mp hw
  refine wpAny_getItem_heap (room_n hu) ⟨nk_is I.hok _ hk rfl, hd⟩ dd hp ?_
  rw [hp2]
  exact h w' _ (I.tok _) rw'
theorem n_in {Q : Value → Shared → Prop} (hu : A.units + 65 < cLine) (I : Inv X pins σ H s) (g : NGet X.prog X.w H a y o) (ry : RelV y u) (h : ∀ s', Inv X pins σ H s' → Q (.bool o.isSome) s') :
    wpAny (model X.prog X.w) A (compareOp .In u (.ref a)) Q E s := by
  obtain ⟨xs, k, b, n, ey, hk, hd, l⟩ := g
  subst ey
  cases (show u = Value.ref b from ry)
  obtain ⟨z, hs, vs, rel, dd⟩ := n.dict I.hok
  refine wpAny_in_heap (room_n hu) ⟨nk_is I.hok _ hk rfl, hd⟩ hs dd ?_
  have q := (rel.val k).isSome_eq
  rw [Option.isSome_map] at q
  rw [← q, ← l]
  exact h _ (I.tok _)
theorem n_notIn {Q : Value → Shared → Prop} (hu : A.units + 65 < cLine) (I : Inv X pins σ H s) (g : NGet X.prog X.w H a y o) (ry : RelV y u) (h : ∀ s', Inv X pins σ H s' → Q (.bool (!o.isSome)) s') :
    wpAny (model X.prog X.w) A (compareOp .NotIn u (.ref a)) Q E s := by
  obtain ⟨xs, k, b, n, ey, hk, hd, l⟩ := g
  subst ey
  cases (show u = Value.ref b from ry)
  obtain ⟨z, hs, vs, rel, dd⟩ := n.dict I.hok
  refine wpAny_notIn_heap (room_n hu) ⟨nk_is I.hok _ hk rfl, hd⟩ hs dd ?_
  have q := (rel.val k).isSome_eq
  rw [Option.isSome_map] at q
  rw [← q, ← l]
  exact h _ (I.tok _)
theorem n_setItem {H' : Hp} {Q : Unit → Shared → Prop} (hu : A.units + 65 < cLine) (I : Inv X pins σ H s) (g : NPut X.prog X.w H a y v H') (ry : RelV y u) (rv : RelV v r) (h : ∀ s', Inv X pins σ H' s' → Q () s') :
    wpAny (model X.prog X.w) A (setItem (.ref a) u r) Q E s := by
  obtain ⟨xs, k, b, n, e, ey, hk, hd, l, eH⟩ := g
  subst ey eH
  cases (show u = Value.ref b from ry)
  obtain ⟨z, hs0, vs, rel, dd⟩ := n.dict I.hok
  have hz : vs.length ≤ sizeLine := by rw [← Paired.length rel]; exact z
  have hl : (putN xs k b v).length ≤ sizeLine := by have := putN_len xs k b v; omega
  refine wpAny_setItem_heap (hsz := hz) (room_n hu) ⟨nk_is I.hok _ hk rfl, hd⟩ dd fun h' dd' hs => h _ ?_
  obtain ⟨q, es, ep, hq, h2, h3, h4, _, h5⟩ := dd'
  exact d_write I (by rw [e]; exact True.intro) hs ⟨q, hq⟩ (ndO_ok ⟨hl, hs0, _, rel.put k b rv, q, es, ep, hq, h2, h3, h4, h5⟩)
theorem n_get2 {d : V} {Q : Value → Shared → Prop} (hu : A.units + 65 < cLine) (I : Inv X pins σ H s) (g : NGet X.prog X.w H a y o) (ry : RelV y u) (rd : RelV d r) (h : ∀ w' s', Inv X pins σ H s' → RelV (o.getD d) w' → Q w' s') :
    wpAny (model X.prog X.w) A (call (.builtin "dict.get") [.ref a, u, r]) Q E s := by
  obtain ⟨xs, k, b, n, ey, hk, hd, l⟩ := g
  subst ey
  cases (show u = Value.ref b from ry)
  obtain ⟨z, hs, vs, rel, dd⟩ := n.dict I.hok
  refine call_meetsIn PySem.F.slot_dict_get dd.typeIs PySem.F.entry_dict_get (PySem.F.args_dict_get_3 _ _ _) (meetsH_dict_get_default (nestedKind X.prog X.w) a b hs r) ⟨room_n hu, k, vs, ⟨nk_is I.hok _ hk rfl, hd⟩, dd, h _ _ (I.tok _) ?_⟩
  rw [l]
  exact (rel.val k).getD rd
theorem nd_typeIs {xs : List Ent} (I : Inv X pins σ H s) (n : Rd H a (ndO X.prog X.w a xs)) : s.TypeIs (.ref a) "dict" ∧ (∀ b, Value.ref a = .ref b → ∃ ob, s.heap.get? b = some ob ∧ ob.dict = none) ∧ (a == sysModules) = false := by
  obtain ⟨z, hs, vs, rel, o, es, ep, h1, h2, h3⟩ := nd_of I.hok n
  refine ⟨⟨o, h1, h2.1⟩, fun b q => ?_, hs⟩
  cases q
  exact ⟨o, h1, h2.2.1⟩
end
/-! readings and rules -/
def tNGet (P : Program) (w : World) (td ty : TE) : TE := fun σ H Q => td σ H fun x H1 => ty σ H1 fun y H2 => ∃ a v, x = .ref a ∧ NGet P w H2 a y (some v) ∧ Q v H2
def tNIn (P : Program) (w : World) (ty td : TE) : TE := fun σ H Q => ty σ H fun y H1 => td σ H1 fun x H2 => ∃ a o, x = .ref a ∧ NGet P w H2 a y o ∧ Q (.bl o.isSome) H2
def tNNotIn (P : Program) (w : World) (ty td : TE) : TE := fun σ H Q => ty σ H fun y H1 => td σ H1 fun x H2 => ∃ a o, x = .ref a ∧ NGet P w H2 a y o ∧ Q (.bl (!o.isSome)) H2
def sNPut (P : Program) (w : World) (td ty tv : TE) : TS := fun D σ H => tv σ H fun v H1 => td σ H1 fun x H2 => ty σ H2 fun y H3 => ∃ a H4, x = .ref a ∧ NPut P w H3 a y v H4 ∧ D.nx σ H4
def tNGet2 (P : Program) (w : World) (td ty tx : TE) : TE := fun σ H Q => td σ H fun x H1 => ∃ a xs, x = .ref a ∧ Rd H1 a (ndO P w a xs) ∧ ty σ H1 fun y H2 => tx σ H2 fun z H3 => ∃ o, NGet P w H3 a y o ∧ Q (o.getD z) H3
def tNNew (P : Program) (w : World) : TE := fun _ H Q => ∀ p, H p = none → Q (.ref p) (upd H p (ndO P w p []))
section
variable {X : Cx} {P : Program} {w : World} {o i e f value : Expr} {pos pos' apos cpos : Pos} {td ty tv tx : TE}
theorem pe_nget (hu : X.A.units + 65 < cLine) (ho : PE X o td) (hi : PE X i ty) (hs : NoSl i) (hP : X.prog = P := by rfl) (hw : X.w = w := by rfl) : PE X (.Subscript o i pos) (tNGet P w td ty) := by
  subst hP hw
  refine ⟨fun pins s σ H Q I h => ?_⟩
  refine subD_of PySem.F.slot_dict_getitem.lookup hs (thn (ho.run pins s σ H _ I h) fun u s1 ⟨x, H1, I1, rx, q1⟩ => thn (hi.run pins s1 σ H1 _ I1 q1) fun iv s2 ⟨y, H2, I2, ry, a, v, ex, g, q2⟩ => ?_)
  subst ex
  obtain rfl : u = Value.ref a := rx
  obtain ⟨xs, _, _, n, _⟩ := id g
  exact ⟨(nd_typeIs I2 n.1).1, n_getItem hu I2 g ry fun w' s3 I3 rw' => ⟨v, H2, I3, rw', q2⟩⟩
theorem pc_nin (hu : X.A.units + 65 < cLine) (hi : PE X i ty) (ho : PE X o td) (hP : X.prog = P := by rfl) (hw : X.w = w := by rfl) : PC X .In i o (tNIn P w ty td) := by
  subst hP hw
  refine ⟨fun pins s σ H Q I h => ?_⟩
  refine thn (hi.run pins s σ H _ I h) fun iv s1 ⟨y, H1, I1, ry, q1⟩ => thn (ho.run pins s1 σ H1 _ I1 q1) fun u s2 ⟨x, H2, I2, rx, a, ov, ex, g, q2⟩ => ?_
  subst ex
  obtain rfl : u = Value.ref a := rx
  exact n_in hu I2 g ry fun s3 I3 => ⟨.bl ov.isSome, H2, I3, rfl, q2⟩
theorem pc_nnotin (hu : X.A.units + 65 < cLine) (hi : PE X i ty) (ho : PE X o td) (hP : X.prog = P := by rfl) (hw : X.w = w := by rfl) : PC X .NotIn i o (tNNotIn P w ty td) := by
  subst hP hw
  refine ⟨fun pins s σ H Q I h => ?_⟩
  refine thn (hi.run pins s σ H _ I h) fun iv s1 ⟨y, H1, I1, ry, q1⟩ => thn (ho.run pins s1 σ H1 _ I1 q1) fun u s2 ⟨x, H2, I2, rx, a, ov, ex, g, q2⟩ => ?_
  subst ex
  obtain rfl : u = Value.ref a := rx
  exact n_notIn hu I2 g ry fun s3 I3 => ⟨.bl (!ov.isSome), H2, I3, rfl, q2⟩
theorem ps_nput (hu : X.A.units + 65 < cLine) (ho : PE X o td) (hi : PE X i ty) (hv : PE X value tv) (hs : swapsWith value (some (.Subscript o i pos')) pos.line X.env = pure false) (hP : X.prog = P := by rfl) (hw : X.w = w := by rfl) :
    PS X (.Assign [.Subscript o i pos'] value pos) (sNPut P w td ty tv) := by
  subst hP hw
  refine ⟨fun pins s σ H D I h => ?_⟩
  refine wpAny_Assign_Subscript (thn (hv.run pins s σ H _ I h) fun r s1 ⟨v, H1, I1, rv, q1⟩ => thn (ho.run pins s1 σ H1 _ I1 q1) fun u s2 ⟨x, H2, I2, rx, q2⟩ => thn (hi.run pins s2 σ H2 _ I2 q2) fun iv s3 ⟨y, H3, I3, ry, a, H4, ex, g, q3⟩ => ?_) hs
  subst ex
  obtain rfl : u = Value.ref a := rx
  exact n_setItem hu I3 g ry rv fun s4 I4 => ⟨σ, H4, I4, q3⟩
theorem pe_nget2 (hu : X.A.units + 65 < cLine) (ho : PE X o td) (he : PE X e ty) (hf : PE X f tx) (m : M2 X o "get" apos e f cpos) (hP : X.prog = P := by rfl) (hw : X.w = w := by rfl) : PE X (.Call (.Attribute o "get" apos) [e, f] [] cpos) (tNGet2 P w td ty tx) := by
  subst hP hw
  refine ⟨fun pins s σ H Q I h => ?_⟩
  refine wpAny_Call_method m.base m.few m.line PySem.F.plainAttrs_dict PySem.F.slot_dict_get PySem.F.type_dict_get (thn (ho.run pins s σ H _ I h) fun u s1 ⟨x, H1, I1, rx, a, xs, ex, d, q1⟩ => ?_)
  subst ex
  obtain rfl : u = Value.ref a := rx
  obtain ⟨t1, t2, _⟩ := nd_typeIs I1 d
  refine ⟨t1, t2, ?_⟩
  rw [m.trees]
  refine Calls.callWith_builtin rfl (Calls.evalArgs_plain (Calls.spliced_cons (thn (he.run pins s1 σ H1 _ I1 q1) fun iv s2 ⟨y, H2, I2, ry, q2⟩ =>
    Calls.spliced_cons (thn (hf.run pins s2 σ H2 _ I2 q2) fun fv s3 ⟨z, H3, I3, rz, ov, g, q3⟩ => Calls.spliced_nil ?_))))
  exact n_get2 hu I3 g ry rz fun w' s4 I4 rw' => ⟨_, H3, I4, rw', q3⟩
theorem nd_empty {P : Program} {w : World} {H : Hp} (h : Heap) (hb : sysModules < h.objs.size) : ObjOk P w H (h.push { cls := .type "dict", data := .dict #[] }) h.objs.size (ndO P w h.objs.size []) :=
  ndO_ok ⟨Nat.zero_le _, beq_eq_false_iff_ne.mpr (Ne.symm (Nat.ne_of_lt hb)), [], .nil, _, #[], 0, Heap.get?_push_size _ rfl, ⟨rfl, rfl, rfl⟩, rfl, rfl, List.nodup_nil⟩
theorem pe_nnew (hP : X.prog = P := by rfl) (hw : X.w = w := by rfl) : PE X (.Dict [] [] pos) (tNNew P w) := by
  subst hP hw
  exact ⟨fun pins s σ H Q I h =>
    wpAny_Dict_empty ⟨.ref s.heap.objs.size, _, I.laid (a := s.heap.objs.size) (o := ndO X.prog X.w s.heap.objs.size []) (t' := s.toks) (fun _ _ q => Heap.get?_push_of_some _ q) (Nat.le_refl _) (nd_empty s.heap I.big), rfl, h _ (I.hok.fresh (Nat.le_refl _))⟩⟩
theorem NDat.new {P : Program} {w : World} {H : Hp} {p : Addr} : NDat P w (upd H p (ndO P w p [])) p [] := ⟨.inl upd_same, fun _ h => by cases h⟩
end
/-! .. in d.items(), the dict locked -/
def ItiN (P : Program) (w : World) (d : Addr) (o : Obj) (xs : List Ent) : It :=
  ⟨fun i H => H d = some (.frz o (ndO P w d xs)) ∧ i < xs.length, fun i H x H' => ∃ T b v k, xs[i]? = some (k, b, v) ∧ x = .ref T ∧ H T = none ∧ H' = upd H T (.tup [.ref b, v]), fun i H => H d = some (.frz o (ndO P w d xs)) ∧ xs.length ≤ i⟩
section
variable {P : Program} {w : World} {K : PySem.W.Frag} {d : Addr} {o : Obj} {es : Array DictEntry} {ep : Nat} {xs : List Ent}
theorem frzN {X : Cx} {pins : List (Addr × Obj)} {σ : L2.St} {H : Hp} {s : Shared} (I : Inv X pins σ H s) (h : H d = some (.frz o (ndO X.prog X.w d xs))) : (d == sysModules) = false ∧ s.heap.get? d = some o ∧ o.ExactDict ∧ ∃ (es : Array DictEntry) (ep : Nat), o.data = .dict es ep ∧ es.size = xs.length ∧
    ∀ (i : Nat) k b v, xs[i]? = some (k, b, v) → ∃ (en : DictEntry), es[i]? = some en ∧ en.key = .ref b ∧ RelV v en.val := by
  obtain ⟨hg, hq⟩ := (show ObjOk X.prog X.w H s.heap d (.frz o (ndO X.prog X.w d xs)) from I.hok d _ h)
  obtain ⟨⟨z, hs, vs, rel, o', es, ep, h1, h2, h3, h4, h5⟩, _⟩ := hq
  rw [hg] at h1
  cases h1
  refine ⟨hs, hg, h2, es, ep, h3, ?_, fun i k b v e => ?_⟩
  · have l1 : es.size = vs.length := size_of_entries h4
    have l2 : xs.length = vs.length := Paired.length rel
    omega
  · obtain ⟨q, hq, e1, e2, e3⟩ := L2.paired_get rel e
    have en := entry_at h4 i
    rw [hq] at en
    exact ⟨_, en, by show Value.ref q.2.1 = _; rw [← e2], e3⟩
theorem turn_itemsN {elts : List Expr} {kk : Nat} {tpos : Pos} (it : Addr) (hod : o.data = .dict es ep) :
    Turn P w K (.Tuple elts kk tpos) (ItiN P w d o xs) [it] it (fun i h => ∃ ok ov, IsItemIter h it d i xs.length ep ok ov) where
  mem := by simp
  obj := fun i h st b hb => by
    have e : b = it := by simpa using hb
    subst e
    obtain ⟨ok, ov, e⟩ := st
    exact ⟨_, e, fun v z => nomatch z⟩
  keep := fun i h h' st k => let ⟨ok, ov, e⟩ := st; ⟨ok, ov, k it (by simp) _ e⟩
  item := by
    intro X hP hw hK hc i pins s σ H E I hf st hg
    subst hP hw hK
    obtain ⟨hd, hi⟩ := hg
    obtain ⟨hs, hgd, hx, es', ep', hdt, hsz, ent⟩ := frzN I hd
    obtain ⟨rfl, rfl⟩ := dict_ep hod hdt
    obtain ⟨⟨k, b, v⟩, hkv⟩ : ∃ p, xs[i]? = some p := ⟨xs[i], List.getElem?_eq_getElem hi⟩
    obtain ⟨en, hen, ek, ru⟩ := ent i k b v hkv
    obtain ⟨ok, ov, he⟩ := st
    rw [← hsz] at he
    have hlt : it < s.heap.objs.size := Heap.lt_size he
    have hi' : i < es'.size := by rw [hsz]; exact hi
    have een : es'[i] = en := by
      have := Array.getElem?_eq_getElem hi'
      rw [hen] at this
      exact (Option.some.inj this).symm
    refine DT.nextI he ⟨_, hgd, hx, hdt⟩ hi' fun h' ho hT hz hk => ?_
    rw [een] at ho hT
    refine ⟨_, rfl, wpAny_letOwnedTupleGo_items (s := { s with heap := h' }) ho fun h'' he' sb => ?_⟩
    have hT2 : h''.get? s.heap.objs.size = some { cls := .type "tuple", data := .seq #[en.key, en.val] } := (sb.2 _ (Nat.ne_of_gt hlt)).trans hT
    have new : ObjOk X.prog X.w (upd H s.heap.objs.size (.tup [.ref b, v])) h'' s.heap.objs.size (.tup [.ref b, v]) :=
      ⟨by show 2 ≤ sizeLine; decide, [en.key, en.val], .cons ek (.cons ru .nil), ⟨_, hT2, rfl, _, rfl⟩⟩
    have I1 : Inv X pins σ (upd H s.heap.objs.size (.tup [.ref b, v])) { s with heap := h'' } :=
      I.turnedNew (t' := s.toks) (ch := [it]) (fun b ob hb e => (sb.2 b (by simpa using hb)).trans (hk b ob (by simpa using hb) e)) hf (Nat.le_refl _) new
    refine ⟨.ref s.heap.objs.size, _, I1, rfl, ⟨_, b, v, k, hkv, rfl, I.hok.fresh (Nat.le_refl _), rfl⟩, ⟨en.key, en.val, ?_⟩, fun b hb => ?_⟩
    · rw [← hsz]; exact he'
    · have e : b = it := by simpa using hb
      rw [e, upd_ne (Nat.ne_of_lt hlt)]
      exact (hf it (by simp)).1
  done := by
    intro X hP hw hK hc i pins s σ H E I hf st hg
    subst hP hw hK
    obtain ⟨hd, hi⟩ := hg
    obtain ⟨f0, f1, f2, f3, f4, f5⟩ := hf it (by simp)
    obtain ⟨hs, hgd, hx, es', ep', hdt, hsz, ent⟩ := frzN I hd
    obtain ⟨rfl, rfl⟩ := dict_ep hod hdt
    obtain ⟨ok, ov, he⟩ := st
    rw [← hsz] at he
    exact DT.endI (I.ok.hd hc) he ⟨_, hgd, hx, hdt⟩ (by rw [hsz]; exact hi) fun h' eb => ⟨rfl, I.turned (t' := s.toks) (fun b ob hb e => eb b ob hb e) f0 f1 f3 f4 f5⟩
  self := fun A i s Q E st h => let ⟨_, _, e⟩ := st; PySem.W.kcp_self e h
theorem walk_itemsN : Walk (ItiN P w d o xs) xs.length (fun H => H d = some (.frz o (ndO P w d xs))) (YPair (fun i => xs[i]?.map fun x => .ref x.2.1) (fun i => xs[i]?.map fun x => x.2.2)) := by
  refine ⟨fun _ _ hi q => ⟨q, hi⟩, fun _ q => ⟨q, Nat.le_refl _⟩, fun i H x H' _ _ y => ?_⟩
  obtain ⟨T, b, v, k, h1, h2, h3, h4⟩ := y
  exact ⟨T, .ref b, v, h2, h3, h4, by simp [h1], by simp [h1]⟩
end
def iItemsN (P : Program) (w : World) (td : TE) : TI := fun σ H R => td σ H fun x H1 => ∃ d o xs, x = .ref d ∧ H1 d = some (.frz o (ndO P w d xs)) ∧ R (ItiN P w d o xs) H1
theorem pi_itemsN {X : Cx} {P : Program} {w : World} {e : Expr} {td : TE} {apos cpos : Pos} {elts : List Expr} {kk : Nat} {tpos : Pos} (he : PE X e td) (hbase : attributeBase e "items" X.env (eval e X.env) = eval e X.env := by rfl) (hline : (apos.endLine == cpos.line) = true := by rfl) (hP : X.prog = P := by rfl) (hw : X.w = w := by rfl) :
    PI X (.Tuple elts kk tpos) (.Call (.Attribute e "items" apos) [] [] cpos) (iItemsN P w td) := by
  subst hP hw
  refine ⟨fun pins s σ H R I h => ?_⟩
  refine wpAny_Call_method (T := "dict") (id := "dict.items") hbase rfl hline F.plainAttrs_dict F.slot_dict_items F.type_dict_items (thn (he.run pins s σ H _ I h) fun u s1 ⟨x, H1, I1, rx, d, o, xs, ex, hd, q⟩ => ?_)
  subst ex
  obtain rfl : u = Value.ref d := rx
  obtain ⟨hs, hgd, hx, es, ep, hdt, hsz, ent⟩ := frzN I1 hd
  have raw : DT.Raw s1.heap d es ep := ⟨_, hgd, hx, hdt⟩
  refine ⟨raw.typeIs, fun b q => ?_, ?_⟩
  · cases q
    exact ⟨o, hgd, hx.2.1⟩
  have I2 : Inv X pins σ H1 { s1 with heap := s1.heap.push { cls := .type "dict_items", data := .fields #[.ref d] } } := I1.kept (t' := s1.toks) fun b ob q => Heap.get?_push_of_some _ q
  have fin : wpAny (model X.prog X.w) X.A (pyIter (.ref s1.heap.objs.size)) (PIE X pins σ (.Tuple elts kk tpos) R) X.xe { s1 with heap := s1.heap.push { cls := .type "dict_items", data := .fields #[.ref d] } } := by
    refine DT.iterI (d := d) ⟨_, Heap.get?_push_size _ rfl, rfl, rfl⟩ (raw.push _) (pi_one (tk := s1.toks) I2 _ (turn_itemsN _ hdt) ⟨.none, .none, ?_⟩ q)
    rw [← hsz]
    exact Heap.get?_push_size _ rfl
  show wpAny _ _ (callWith cpos (.builtin "dict.items") [.ref d] [] []) _ X.xe s1
  exact method_meetsIn F.slot_dict_items F.entry_dict_items rfl (PySem.evalArgs_none ⟨rfl, raw.typeIs, F.args_dict_items_1 _, _, DT.meetsItems (es := es) (ep := ep) hs, raw, fin⟩)
end NDi

namespace My
open PySem L2 C8 SX
/-! own base: tests, heaps -/
theorem bo_len : bootBuiltins "len" = some (.builtin "len") := by decide +kernel
theorem bo_isinstance : bootBuiltins "isinstance" = some (.builtin "isinstance") := by decide +kernel
theorem bo_min : bootBuiltins "min" = some (.builtin "min") := by decide +kernel
theorem bo_max : bootBuiltins "max" = some (.builtin "max") := by decide +kernel
theorem bo_abs : bootBuiltins "abs" = some (.builtin "abs") := by decide +kernel
theorem bo_int : bootBuiltins "int" = some (.type "int") := by decide +kernel
theorem bo_str : bootBuiltins "str" = some (.type "str") := by decide +kernel
theorem bo_bool : bootBuiltins "bool" = some (.type "bool") := by decide +kernel
theorem bo_list : bootBuiltins "list" = some (.type "list") := by decide +kernel
theorem bo_ord : bootBuiltins "ord" = some (.builtin "ord") := by decide +kernel
theorem bo_chr : bootBuiltins "chr" = some (.builtin "chr") := by decide +kernel
theorem bo_sum : bootBuiltins "sum" = some (.builtin "sum") := by decide +kernel
theorem bo_all : bootBuiltins "all" = some (.builtin "all") := by decide +kernel
theorem bo_any : bootBuiltins "any" = some (.builtin "any") := by decide +kernel
theorem bo_sorted : bootBuiltins "sorted" = some (.builtin "sorted") := by decide +kernel
theorem bo_dict : bootBuiltins "dict" = some (.type "dict") := by decide +kernel
theorem bo_tuple : bootBuiltins "tuple" = some (.type "tuple") := by decide +kernel
theorem iteD {p A B : Prop} [Decidable p] (h1 : p → A) (h2 : ¬ p → B) : if decide p = true then A else B := by
  by_cases h : p
  · rw [decide_eq_true h]; exact iteT (h1 h)
  · rw [decide_eq_false h]; exact iteF (h2 h)
theorem iteN {p A B : Prop} [Decidable p] (h1 : ¬ p → A) (h2 : p → B) : if (!decide p) = true then A else B := by
  by_cases h : p
  · rw [decide_eq_true h]; exact iteF (h2 h)
  · rw [decide_eq_false h]; exact iteT (h1 h)
theorem iteDT {p A B : Prop} [Decidable p] (h : p) (k : A) : if decide p = true then A else B := iteD (fun _ => k) fun z => absurd h z
theorem iteDF {p A B : Prop} [Decidable p] (h : ¬ p) (k : B) : if decide p = true then A else B := iteD (fun z => absurd z h) fun _ => k
theorem iteNT {p A B : Prop} [Decidable p] (h : ¬ p) (k : A) : if (!decide p) = true then A else B := iteN (fun _ => k) fun z => absurd z h
theorem iteNF {p A B : Prop} [Decidable p] (h : p) (k : B) : if (!decide p) = true then A else B := iteN (fun z => absurd h z) fun _ => k
theorem iteB {b : Bool} {A B : Prop} (h1 : b = true → A) (h2 : b = false → B) : if b = true then A else B := by
  cases b with
  | true => exact iteT (h1 rfl)
  | false => exact iteF (h2 rfl)
/-- in a comprehension without a test -/
theorem yes_then {σ : St} {H : Hp} {F G : Hp → Prop} (h : F H) : tYes σ H (fun b H3 => if b = true then F H3 else G H3) := h
/-- all that was tracked stands, but at W -/
def Keep (W : List Addr) (H H' : Hp) : Prop := ∀ b o, H b = some o → b ∉ W → H' b = some o
theorem Keep.refl (W : List Addr) (H : Hp) : Keep W H H := fun _ _ h _ => h
theorem Keep.trans {W : List Addr} {H H1 H2 : Hp} (a : Keep W H H1) (b : Keep W H1 H2) : Keep W H H2 := fun c o h w => b c o (a c o h w) w
theorem Keep.mono {W W' : List Addr} {H H1 : Hp} (a : Keep W H H1) (h : ∀ b, b ∈ W → b ∈ W') : Keep W' H H1 := fun c o q w => a c o q fun z => w (h c z)
theorem Keep.new {W : List Addr} {H : Hp} {p : Addr} {o : HO} (h : H p = none) : Keep W H (upd H p o) := fun b u q _ => by
  rw [upd_ne (ne_of_none q h)]; exact q
theorem Keep.at_ {W : List Addr} {H : Hp} {p : Addr} {o : HO} (h : p ∈ W) : Keep W H (upd H p o) := fun b u q w => by
  rw [upd_ne (fun z => w (by rw [z]; exact h))]; exact q
theorem Keep.then_new {W : List Addr} {H H1 : Hp} {p : Addr} {o : HO} (a : Keep W H H1) (h : H1 p = none) : Keep W H (upd H1 p o) := a.trans (Keep.new h)
theorem Keep.then_at {W : List Addr} {H H1 : Hp} {p : Addr} {o : HO} (a : Keep W H H1) (h : p ∈ W) : Keep W H (upd H1 p o) := a.trans (Keep.at_ h)
/-- what was new since H is not among the kept -/
theorem Keep.then_own {W : List Addr} {H H1 : Hp} {p : Addr} {o : HO} (a : Keep W H H1) (h : H p = none) : Keep W H (upd H1 p o) := fun b u q w => by
  rw [upd_ne (ne_of_none q h)]; exact a b u q w
theorem Keep.free {H H' : Hp} (e : Keep [] H H') {l : Addr} (h : H' l = none) : H l = none := by
  cases q : H l with
  | none => rfl
  | some o => rw [e l o q (by simp)] at h; cases h
theorem Keep.free1 {H H' : Hp} {p : Addr} {o : HO} (e : Keep [p] H H') (hp : H' p = some o) {l : Addr} (h : H' l = none) : H l = none := by
  cases q : H l with
  | none => rfl
  | some u =>
    by_cases z : l = p
    · subst z; rw [hp] at h; cases h
    · rw [e l u q (by simpa using z)] at h; cases h
theorem Keep.seqL {W : List Addr} {K : PySem.W.Frag} {H H' : Hp} {a : Addr} {xs : List V} (e : Keep W H H') (h : SqL K H a xs) (w : a ∉ W) : SqL K H' a xs := by
  rcases h with (h | ⟨o, h⟩) | h
  · exact .inl (.inl (e _ _ h w))
  · exact .inl (.inr ⟨o, e _ _ h w⟩)
  · exact .inr h
theorem Keep.seqT {W : List Addr} {K : PySem.W.Frag} {H H' : Hp} {a : Addr} {xs : List V} (e : Keep W H H') (h : SqT K H a xs) (w : a ∉ W) : SqT K H' a xs := by
  rcases h with (h | ⟨o, h⟩) | h
  · exact .inl (.inl (e _ _ h w))
  · exact .inl (.inr ⟨o, e _ _ h w⟩)
  · exact .inr h
theorem Keep.same {H H' : Hp} (e : Keep [] H H') : Same H H' := fun b o h => e b o h (by simp)
theorem ints_get {ns : List Int} {i : Nat} {v : V} (h : (ns.map V.int)[i]? = some v) : ∃ z, ns[i]? = some z ∧ v = V.int z := by
  rw [List.getElem?_map] at h
  cases e : ns[i]? with
  | none => rw [e] at h; cases h
  | some z => rw [e] at h; exact ⟨z, rfl, (Option.some.inj h).symm⟩
theorem strs_get {ns : List Str} {i : Nat} {v : V} (h : (ns.map V.str)[i]? = some v) : ∃ z, ns[i]? = some z ∧ v = V.str z := by
  rw [List.getElem?_map] at h
  cases e : ns[i]? with
  | none => rw [e] at h; cases h
  | some z => rw [e] at h; exact ⟨z, rfl, (Option.some.inj h).symm⟩
theorem smallM {n : Nat} (h : n ≤ 1000000) : n ≤ sizeLine := Nat.le_trans h (by decide)
theorem smallL {n : Nat} (h : n ≤ 1000000) : n < sizeLine := Nat.lt_of_le_of_lt h (by decide)
/-- a promise that asks the impossible: any def at all keeps it -/
def spNo : Sp := fun _ _ _ _ => False
/-! the same rules with the written part named (within a comprehension) -/
section
variable {X : Cx} {K : PySem.W.Frag}
theorem pe_fldK {e : Expr} {f : Str} {pos : Pos} {ta : TE} (he : PE X e ta) (hb : attributeBase e f X.env (eval e X.env) = eval e X.env) (hK : X.K = K := by rfl) : PE X (.Attribute e f pos) (tFld K ta f) := hK ▸ pe_fld he hb
theorem ix_listK (hK : X.K = K := by rfl) : IxR X (rIxL K) := hK ▸ ix_list
theorem ix_tupK (hK : X.K = K := by rfl) : IxR X (rIxT K) := hK ▸ ix_tup
theorem sl_listK (hK : X.K = K := by rfl) : SlR X (rSlL K) := hK ▸ sl_list
theorem sl_tupK (hK : X.K = K := by rfl) : SlR X (rSlT K) := hK ▸ sl_tup
theorem call_len_seqK (hK : X.K = K := by rfl) : CallR X (.builtin "len") (fun xs H Q => ∃ p ys, xs = [.ref p] ∧ (SqL K H p ys ∨ SqT K H p ys) ∧ Q (.int ys.length) H) := hK ▸ call_len_seq
theorem call_list_ofK (hK : X.K = K := by rfl) : CallR X (.type "list") (fun xs H Q => ∃ p ys, xs = [.ref p] ∧ (SqL K H p ys ∨ SqT K H p ys) ∧ ∀ l, H l = none → Q (.ref l) (upd H l (.lst ys))) := hK ▸ call_list_of
theorem call_isiK2 (hK : X.K = K := by rfl) : CallR X (.builtin "isinstance") (rIsi K) := hK ▸ call_isi
end
/-- behind the making of an instance -/
theorem keep_made {H H2 : Hp} {x dx : Addr} {o : HO} (hx : H x = none) (hd : H dx = none) (k : Keep [x] (upd (upd H dx (.own x)) x o) H2) : Keep [] H H2 := fun b u e _ =>
  k b u (by rw [upd_ne (ne_of_none e hx), upd_ne (ne_of_none e hd)]; exact e) (by simpa using ne_of_none e hx)
theorem kitSelf {K : PySem.W.Frag} {C : Addr} : PySem.W.kitOne K (.ref C) (.ref C) = some true := by
  unfold PySem.W.kitOne
  simp
/-- a call without arguments -/
theorem pe_c0 {X : Cx} {x : Str} {p pos : Pos} {k j : Nat} {sp : Sp} {dvs : List V} (c : C8.Cal X.prog X.w X.K X.mg X.base k x sp dvs) (hr : Room j X.A) (hk : k ≤ j) (hg : Gl X x) (hdb : (x == ("__debug__" : Str)) = false := by decide) :
    PE X (.Call (.Name x p) [] [] pos) (tCall sp dvs C8.E0 tNil) := by
  obtain ⟨f, fd, ps, ds, F, hm, kp, b, d⟩ := c.ex
  exact pe_call0 F (hr.mono hk) hg hm kp b d C8.pass0 hdb

/-! in a comprehension: unpack a tuple (the written part named) -/
theorem pg_tupK {X : Cx} {K : PySem.W.Frag} {es : List Expr} {k : Nat} {t : TGs} {n : Nat} {pos : Pos} (h : PGs X es t) (hc : X.calm = true := by rfl) (hK : X.K = K := by rfl)
    (hn : (assignEach es X.env).length = n := by rfl) (hst : (assignEach es X.env).findIdx? (·.1) = none := by rfl) : PG X (.Tuple es k pos) (gTup K n t) := hK ▸ pg_tup hc h hn hst
theorem op_in_seqK {X : Cx} {K : PySem.W.Frag} (hK : X.K = K := by rfl) : OpR X (compareOp .In) (rIn K false) := hK ▸ op_in_seq
theorem op_notIn_seqK {X : Cx} {K : PySem.W.Frag} (hK : X.K = K := by rfl) : OpR X (compareOp .NotIn) (rIn K true) := hK ▸ op_notIn_seq

open NDi
/-! the text by places -/
def top (i : Nat) : Stmt := PySem.Challenge.pw_bothgain_k41_what_a_plan_does_at_a_view.main.body.getD i (.Pass ⟨0, 0, 0, 0⟩)
abbrev s_Ratio___init : Stmt := L2.inClass (top 10) 0
theorem sc_Ratio___init : FnScope ["self", "num", "den", "part"] ["self", "num", "den"] (fnScope s_Ratio___init) := fnScope_by (by decide +kernel)
abbrev s_common : Stmt := top 7
theorem sc_common : FnScope ["ratios", "den", "ratio"] ["ratios"] (fnScope s_common) := fnScope_by (by decide +kernel)
abbrev s_are_lots : Stmt := top 8
theorem sc_are_lots : FnScope ["ratios", "weights", "den", "weight"] ["ratios"] (fnScope s_are_lots) := fnScope_by (by decide +kernel)
abbrev s_Plan___init : Stmt := L2.inClass (top 12) 0
theorem sc_Plan___init : FnScope ["self", "entries", "place", "entry", "view", "lots"] ["self", "entries"] (fnScope s_Plan___init) := fnScope_by (by decide +kernel)
abbrev s_Plan_lots_at : Stmt := L2.inClass (top 12) 1
theorem sc_Plan_lots_at : FnScope ["self", "view", "count", "lots", "k"] ["self", "view", "count"] (fnScope s_Plan_lots_at) := fnScope_by (by decide +kernel)
abbrev s_law_cell : Stmt := top 14
theorem sc_law_cell : FnScope ["script", "k"] ["script", "k"] (fnScope s_law_cell) := fnScope_by (by decide +kernel)
abbrev s_law_is_integer : Stmt := top 15
theorem sc_law_is_integer : FnScope ["actual"] ["actual"] (fnScope s_law_is_integer) := fnScope_by (by decide +kernel)
abbrev s_law_row : Stmt := top 16
theorem sc_law_row : FnScope ["cell", "count", "size", "state", "row", "k"] ["cell", "count", "size"] (fnScope s_law_row) := fnScope_by (by decide +kernel)
abbrev s_law_stages : Stmt := top 17
theorem sc_law_stages : FnScope ["script", "most", "stages", "count", "digits", "k", "size", "show"] ["script", "most"] (fnScope s_law_stages) := fnScope_by (by decide +kernel)
abbrev s_law_paths : Stmt := top 18
theorem sc_law_paths : FnScope ["stages", "paths", "stage", "longer", "path", "k"] ["stages"] (fnScope s_law_paths) := fnScope_by (by decide +kernel)
abbrev s_law_view : Stmt := top 19
theorem sc_law_view : FnScope ["stages", "path", "player", "view", "number", "rounds", "k", "stage"] ["stages", "path", "player"] (fnScope s_law_view) := fnScope_by (by decide +kernel)
abbrev s_law_asked : Stmt := top 20
theorem sc_law_asked : FnScope ["stages", "path", "number", "k", "stage", "view"] ["stages", "path"] (fnScope s_law_asked) := fnScope_by (by decide +kernel)
abbrev s_law_met : Stmt := top 21
theorem sc_law_met : FnScope ["stages", "player", "views", "path", "k", "view"] ["stages", "player"] (fnScope s_law_met) := fnScope_by (by decide +kernel)
abbrev s_law_fraction : Stmt := top 22
theorem sc_law_fraction : FnScope ["num", "den", "a", "b", "k", "c"] ["num", "den"] (fnScope s_law_fraction) := fnScope_by (by decide +kernel)
abbrev s_law_equals : Stmt := top 26
theorem sc_law_equals : FnScope ["actual", "pair"] ["actual", "pair"] (fnScope s_law_equals) := fnScope_by (by decide +kernel)
abbrev s_law_entries : Stmt := top 27
theorem sc_law_entries : FnScope ["views", "cell", "entries", "digits", "at", "pair", "weights"] ["views", "cell"] (fnScope s_law_entries) := fnScope_by (by decide +kernel)
abbrev s_law_plan : Stmt := top 28
theorem sc_law_plan : FnScope ["entries", "entry", "weight"] ["entries"] (fnScope s_law_plan) := fnScope_by (by decide +kernel)
abbrev s_law_lots : Stmt := top 34
theorem sc_law_lots : FnScope ["plan", "view", "count", "due", "actual", "k", "again"] ["plan", "view", "count", "due"] (fnScope s_law_lots) := fnScope_by (by decide +kernel)
abbrev s_law_far : Stmt := top 35
theorem sc_law_far : FnScope ["cell", "numbers", "at", "views", "turn", "first"] ["cell"] (fnScope s_law_far) := fnScope_by (by decide +kernel)
abbrev s_law : Stmt := top 36
theorem sc_law : FnScope ["script", "stages", "player", "views", "entries", "given", "k", "weights", "far", "plan", "pair", "count", "due", "entry", "weight"] ["script"] (fnScope s_law) := fnScope_by (by decide +kernel)
/-- what the walk asks of the module -/
structure Txt (K : PySem.W.Frag) (mg : Str → Option Value) (C_Ratio : Addr) (C_Plan : Addr) : Prop where
  n_abs : mg "abs" = none
  n_all : mg "all" = none
  n_bool : mg "bool" = none
  n_enumerate : mg "enumerate" = none
  n_int : mg "int" = none
  n_isinstance : mg "isinstance" = none
  n_len : mg "len" = none
  n_list : mg "list" = none
  n_max : mg "max" = none
  n_range : mg "range" = none
  n_sum : mg "sum" = none
  f_gcd : mg "gcd" = some (.builtin "math.gcd")
  f_lcm : mg "lcm" = some (.builtin "math.lcm")
  cl_Ratio : Cls K C_Ratio
  m_Ratio : mg "Ratio" = some (.ref C_Ratio)
  i_Ratio : InsC K C_Ratio
  a_Ratio_num : NoAttr K C_Ratio "num"
  a_Ratio_den : NoAttr K C_Ratio "den"
  cl_Plan : Cls K C_Plan
  m_Plan : mg "Plan" = some (.ref C_Plan)
  i_Plan : InsC K C_Plan
  a_Plan_table : NoAttr K C_Plan "table"
  ok : True
/-! ratios: an own object of two ints -/
theorem kND : ¬ (("num" : Str) = "den") := by decide +kernel
theorem kDN : ¬ (("den" : Str) = "num") := by decide +kernel
def rf (n d : Int) : List (Str × V) := putF "den" (.int d) (putF "num" (.int n) [])
theorem rf_num (n d : Int) : (rf n d).lookup ("num" : Str) = some (.int n) := by
  unfold rf
  rw [lookup_putF, if_neg kND, lookup_putF, if_pos rfl]
theorem rf_den (n d : Int) : (rf n d).lookup ("den" : Str) = some (.int d) := by
  unfold rf
  rw [lookup_putF, if_pos rfl]
theorem rf_no (n d : Int) {m : Str} (h1 : ¬ m = "num") (h2 : ¬ m = "den") : (rf n d).lookup m = none := by
  unfold rf
  rw [lookup_putF, if_neg h2, lookup_putF, if_neg h1]; rfl
/-- a Ratio stands at p -/
def RatAt (C : Addr) (H : Hp) (p : Addr) (n d : Int) : Prop := ∃ dx, H p = some (.ins C dx (rf n d))
theorem RatAt.keep {C p : Addr} {H H' : Hp} {W : List Addr} {n d : Int} (h : RatAt C H p n d) (k : Keep W H H') (w : p ∉ W) : RatAt C H' p n d := by
  obtain ⟨dx, h⟩ := h
  exact ⟨dx, k _ _ h w⟩
theorem RatAt.keep0 {C p : Addr} {H H' : Hp} {n d : Int} (h : RatAt C H p n d) (k : Keep [] H H') : RatAt C H' p n d := h.keep k (by simp)
/-- the sign of the divisor stands with the common part -/
def sg (n d : Int) : Int := if d < 0 then -((Nat.gcd n.natAbs d.natAbs : Nat) : Int) else ((Nat.gcd n.natAbs d.natAbs : Nat) : Int)
def redN (n d : Int) : Int := n.fdiv (sg n d)
def redD (n d : Int) : Int := d.fdiv (sg n d)
theorem gcd_pos_of {n d : Int} (h : d ≠ 0) : 0 < Nat.gcd n.natAbs d.natAbs := Nat.gcd_pos_of_pos_right _ (by omega)
theorem sg_ne {n d : Int} (h : d ≠ 0) : sg n d ≠ 0 := by
  have := gcd_pos_of (n := n) h
  unfold sg
  split <;> omega
theorem sg_dvd_n (n d : Int) : sg n d ∣ n := by
  have h : ((Nat.gcd n.natAbs d.natAbs : Nat) : Int) ∣ n := Int.ofNat_dvd_left.mpr (Nat.gcd_dvd_left _ _)
  unfold sg
  split
  · exact Int.neg_dvd.mpr h
  · exact h
theorem sg_dvd_d (n d : Int) : sg n d ∣ d := by
  have h : ((Nat.gcd n.natAbs d.natAbs : Nat) : Int) ∣ d := Int.ofNat_dvd_left.mpr (Nat.gcd_dvd_right _ _)
  unfold sg
  split
  · exact Int.neg_dvd.mpr h
  · exact h
theorem fdiv_of_mul {m c s : Int} (hs : s ≠ 0) (h : m = s * c) : m.fdiv s = c := by
  subst h; exact Int.mul_fdiv_cancel_left c hs
theorem red_n {n d : Int} (h : d ≠ 0) : redN n d * sg n d = n := by
  obtain ⟨c, hc⟩ := sg_dvd_n n d
  unfold redN
  rw [fdiv_of_mul (sg_ne h) hc, Int.mul_comm]; exact hc.symm
theorem red_d {n d : Int} (h : d ≠ 0) : redD n d * sg n d = d := by
  obtain ⟨c, hc⟩ := sg_dvd_d n d
  unfold redD
  rw [fdiv_of_mul (sg_ne h) hc, Int.mul_comm]; exact hc.symm
theorem redD_pos {n d : Int} (h : d ≠ 0) : 0 < redD n d := by
  have e := red_d (n := n) h
  have g := gcd_pos_of (n := n) h
  have hne : redD n d ≠ 0 := fun z => by rw [z, Int.zero_mul] at e; exact h e.symm
  rcases Int.lt_or_gt_of_ne hne with hl | hl
  · exfalso
    unfold sg at e
    split at e
    · rename_i hd
      have : 0 ≤ redD n d * -((Nat.gcd n.natAbs d.natAbs : Nat) : Int) := Int.mul_nonneg_of_nonpos_of_nonpos (by omega) (by omega)
      omega
    · rename_i hd
      have : redD n d * ((Nat.gcd n.natAbs d.natAbs : Nat) : Int) < 0 := Int.mul_neg_of_neg_of_pos hl (by omega)
      omega
  · exact hl
/-- the same ratio -/
theorem red_cross {n d : Int} (h : d ≠ 0) : redN n d * d = n * redD n d := by
  have e1 := red_n (n := n) h
  have e2 := red_d (n := n) h
  calc redN n d * d = redN n d * (redD n d * sg n d) := by rw [e2]
    _ = redN n d * sg n d * redD n d := by rw [Int.mul_comm (redD n d), Int.mul_assoc]
    _ = n * redD n d := by rw [e1]
theorem red_gcd {n d : Int} (h : d ≠ 0) : Nat.gcd (redN n d).natAbs (redD n d).natAbs = 1 := by
  have e1 : (redN n d).natAbs * (sg n d).natAbs = n.natAbs := by rw [← Int.natAbs_mul, red_n h]
  have e2 : (redD n d).natAbs * (sg n d).natAbs = d.natAbs := by rw [← Int.natAbs_mul, red_d h]
  have e3 : (sg n d).natAbs = Nat.gcd n.natAbs d.natAbs := by unfold sg; split <;> omega
  have e4 := Nat.gcd_mul_right (redN n d).natAbs (sg n d).natAbs (redD n d).natAbs
  rw [e1, e2, e3] at e4
  have g := gcd_pos_of (n := n) h
  exact Nat.eq_of_mul_eq_mul_right g (by omega)
theorem red_abs_n {n d : Int} (h : d ≠ 0) : (redN n d).natAbs ≤ n.natAbs := by
  have e1 : (redN n d).natAbs * (sg n d).natAbs = n.natAbs := by rw [← Int.natAbs_mul, red_n h]
  have : 0 < (sg n d).natAbs := by have := sg_ne (n := n) h; omega
  rw [← e1]
  exact Nat.le_mul_of_pos_right _ this
theorem red_dvd {n d : Int} (h : d ≠ 0) : redD n d ∣ d := ⟨sg n d, (red_d h).symm⟩
/-- what the rules ask of numbers below a power of two -/
theorem log2_lt9 {i : Int} {b : Nat} (h : i.natAbs < 2 ^ b) (h0 : 0 < b) : i.natAbs.log2 < b := PySem.Flt.log2_lt_of h0 h
section
variable {X : Cx}
def CDivG (_ j : Int) : Prop := j ≠ 0 ∧ j.natAbs.log2 < 9000
theorem op_fdivG : OpR X (binaryOp .FloorDiv) (rI CDivG fun i j => .int (i.fdiv j)) := opI fun i j _ _ _ _ _ hc q =>
  PyProof.Rows.floordiv_int hc.1 q (.inl (PyProof.noPylong_of_log2 hc.2))
def CPowB (i j : Int) : Prop := 2 ≤ i.natAbs ∧ 1 ≤ j ∧ (Builtin.Int.intBits i : Int) * j ≤ 100000000
theorem op_mulO : OpR X (binaryOp .Mult) (rI IntMulOk fun i j => .int (i * j)) := opI fun _ _ _ _ _ _ _ hc q => PyProof.Rows.mul_int q hc
end
def sp_rat (C : Addr) : Sp := fun vs H Q _ => ∃ (x dx : Addr) (n d : Int), vs = [.ref x, .int n, .int d] ∧ d ≠ 0 ∧ d.natAbs < 2 ^ 8000 ∧ H x = some (.ins C dx []) ∧
  ∀ H', Keep [x] H H' → H' x = some (.ins C dx (rf (redN n d) (redD n d))) → Q .non H'

set_option exponentiation.threshold 100000
/-! great ints: lcm, a fourth power -/
section
variable {X : Cx}
def rLcm : List V → Hp → VK → Prop := fun vs H Q => ∃ a b : Int, vs = [.int a, .int b] ∧ a.natAbs < 2 ^ 6000 ∧ b.natAbs < 2 ^ 6000 ∧ Q (.int ((Nat.lcm a.natAbs b.natAbs : Nat) : Int)) H
theorem cr_lcm : CallR X (.builtin "math.lcm") rLcm := by
  intro pins s σ H vs us Q I r h
  obtain ⟨a, b, rfl, ha, hb, q⟩ := h
  obtain ⟨t, u, rfl⟩ := Vals.int2 r
  have e1 : Nat.lcm 1 a.natAbs = a.natAbs := PySem.W.mc_lcm_one _
  have l1 : (max 1 a.natAbs).log2 < 6001 := by
    refine PySem.Flt.log2_lt_of (by decide) ?_
    have : (1 : Nat) < 2 ^ 6001 := Nat.one_lt_two_pow (by decide)
    have : a.natAbs < 2 ^ 6001 := Nat.lt_trans ha (Nat.pow_lt_pow_right (by decide) (by decide))
    omega
  have l2 : (max a.natAbs b.natAbs).log2 < 6000 := PySem.Flt.log2_lt_of (by decide) (by omega)
  refine call_function_meets PySem.W.MGF.kind_lcm PySem.W.MGF.plain_lcm PySem.W.MGF.entry_lcm (PySem.W.MGF.args_lcm _ _) (PySem.W.mg_run_lcm a t b u (by omega) (by omega) ?_).meets ⟨.int _, H, I.tok _, ⟨_, rfl⟩, by rw [e1]; exact q⟩
  rw [e1, Int.natAbs_natCast]
  have h1 : Nat.lcm a.natAbs b.natAbs < 2 ^ 12000 := by
    refine Nat.lt_of_le_of_lt (PySem.W.mc_lcm_le _ _) ?_
    have e : (2 : Nat) ^ 12000 = 2 ^ 6000 * 2 ^ 6000 := by rw [← Nat.pow_add]
    rw [e]
    exact Nat.mul_lt_mul'' ha hb
  have h2 := PySem.Flt.log2_lt_of (k := 12000) (by decide) h1
  have e : bitsLine = 134217728 := by decide
  omega
/-- a ** 4 -/
theorem op_pow4 : OpR X (binaryOp .Pow) (fun x y H Q => ∃ i : Int, x = .int i ∧ y = .int 4 ∧ Builtin.Int.intBits i ≤ 2000000 ∧ Q (.int (i ^ 4)) H) := by
  intro pins s σ H x y v u Q I rx ry h
  obtain ⟨i, rfl, rfl, hb, q⟩ := h
  obtain ⟨t, rfl⟩ := rx
  obtain ⟨t', rfl⟩ := ry
  have fin : ∀ z : Int, z = i ^ 4 → ∀ k tk, EP X pins σ Q (.int z tk) { s with toks := k } := fun z e k tk => ⟨.int z, H, I.tok _, ⟨_, rfl⟩, by rw [e]; exact q⟩
  by_cases h1 : (i == 0 || i == 1) = true
  · refine AutoIntOps.pow_1 (by decide) (by decide) h1 (fin i ?_ _ _)
    rcases (Bool.or_eq_true _ _ ▸ h1) with e | e
    · have := eq_of_beq e; subst this; rfl
    · have := eq_of_beq e; subst this; rfl
  · by_cases h2 : (i == -1) = true
    · refine AutoIntOps.pow_2 (by decide) (by decide) h1 h2 (fin _ ?_ _ _)
      have := eq_of_beq h2; subst this; rfl
    · refine AutoIntOps.pow_4 (by decide) (by decide) h1 h2 ?_ (fin _ ?_ _ _)
      · unfold Builtin.Int.intTooBig
        have e : bitsLine = 134217728 := by decide
        intro z
        have z := of_decide_eq_true z
        rw [e] at z
        omega
      · rfl
end

/-- tuples stand -/
def TK (H H' : Hp) : Prop := ∀ b xs, H b = some (.tup xs) → H' b = some (.tup xs)
theorem TK.refl (H : Hp) : TK H H := fun _ _ h => h
theorem TK.trans {H H1 H2 : Hp} (a : TK H H1) (b : TK H1 H2) : TK H H2 := fun c xs h => b c xs (a c xs h)
theorem TK.new {H : Hp} {p : Addr} {o : HO} (h : H p = none) : TK H (upd H p o) := fun b xs q => by rw [upd_ne (ne_of_none q h)]; exact q
theorem TK.lst {H : Hp} {p : Addr} {o : HO} {ys : List V} (h : H p = some (.lst ys)) : TK H (upd H p o) := fun b xs q => by
  rw [upd_ne (ne_of q h (by intro z; cases z))]; exact q
theorem Keep.tk {H H' : Hp} (k : Keep [] H H') : TK H H' := fun b xs q => k b _ q (by simp)
theorem Keep.tk1 {H H' : Hp} {p : Addr} {ys : List V} (k : Keep [p] H H') (h : H p = some (.lst ys)) : TK H H' := fun b xs q => k b _ q (by
  have := ne_of q h (by intro z; cases z)
  simpa using this)

/-! data of tuples: what never changes -/
mutual
inductive TD (H : Hp) : V → PyData → Prop
  | non : TD H .non .none
  | bl (b : Bool) : TD H (.bl b) (.bool b)
  | int (i : Int) : TD H (.int i) (.int i)
  | str (x : Str) : TD H (.str x) (.str x)
  | tup {a : Addr} {xs : List V} {ds : List PyData} : H a = some (.tup xs) → TDs H xs ds → TD H (.ref a) (.tuple ds)
inductive TDs (H : Hp) : List V → List PyData → Prop
  | nil : TDs H [] []
  | cons {v : V} {vs : List V} {d : PyData} {ds : List PyData} : TD H v d → TDs H vs ds → TDs H (v :: vs) (d :: ds)
end
mutual
theorem TD.tk {H H' : Hp} (k : TK H H') : ∀ {d : PyData} {v : V}, TD H v d → TD H' v d
  | _, _, .non => .non
  | _, _, .bl b => .bl b
  | _, _, .int i => .int i
  | _, _, .str x => .str x
  | _, _, .tup h t => .tup (k _ _ h) (TDs.tk k t)
theorem TDs.tk {H H' : Hp} (k : TK H H') : ∀ {ds : List PyData} {vs : List V}, TDs H vs ds → TDs H' vs ds
  | _, _, .nil => .nil
  | _, _, .cons h t => .cons (TD.tk k h) (TDs.tk k t)
end
mutual
theorem TD.dp {K : PySem.W.Frag} {H : Hp} : ∀ {d : PyData} {v : V}, TD H v d → Dp K H v d
  | _, _, .non => .non
  | _, _, .bl b => .bl b
  | _, _, .int i => .int i
  | _, _, .str x => .str x
  | _, _, .tup h t => .tup (SqT.of h) (TDs.dp t)
theorem TDs.dp {K : PySem.W.Frag} {H : Hp} : ∀ {ds : List PyData} {vs : List V}, TDs H vs ds → DpAll K H vs ds
  | _, _, .nil => .nil
  | _, _, .cons h t => .cons (TD.dp h) (TDs.dp t)
end
theorem TDs.length {H : Hp} : ∀ {vs : List V} {ds : List PyData}, TDs H vs ds → vs.length = ds.length
  | _, _, .nil => rfl
  | _, _, .cons _ t => by rw [List.length_cons, List.length_cons, t.length]
theorem TDs.get {H : Hp} : ∀ {vs : List V} {ds : List PyData}, TDs H vs ds → ∀ {i : Nat} {d : PyData}, ds[i]? = some d → ∃ v, vs[i]? = some v ∧ TD H v d
  | _, _, .nil, i, d, e => by simp at e
  | _, _, .cons h t, 0, d, e => by simp at e; subst e; exact ⟨_, rfl, h⟩
  | _, _, .cons h t, i + 1, d, e => by
    obtain ⟨v, h1, h2⟩ := t.get (i := i) (by simpa using e)
    exact ⟨v, by simpa using h1, h2⟩
theorem TDs.append {H : Hp} : ∀ {vs ws : List V} {ds es : List PyData}, TDs H vs ds → TDs H ws es → TDs H (vs ++ ws) (ds ++ es)
  | _, _, _, _, .nil, s => s
  | _, _, _, _, .cons h t, s => .cons h (t.append s)
theorem TDs.take {H : Hp} : ∀ {vs : List V} {ds : List PyData} (n : Nat), TDs H vs ds → TDs H (vs.take n) (ds.take n)
  | _, _, 0, _ => .nil
  | _, _, _ + 1, .nil => .nil
  | _, _, n + 1, .cons h t => .cons h (t.take n)
theorem TDs.reverse {H : Hp} : ∀ {vs : List V} {ds : List PyData}, TDs H vs ds → TDs H vs.reverse ds.reverse
  | _, _, .nil => .nil
  | _, _, .cons h t => by rw [List.reverse_cons, List.reverse_cons]; exact t.reverse.append (.cons h .nil)
theorem TDs.snoc {H : Hp} {vs : List V} {ds : List PyData} {v : V} {d : PyData} (t : TDs H vs ds) (h : TD H v d) : TDs H (vs ++ [v]) (ds ++ [d]) := t.append (.cons h .nil)
theorem TDs.nil_of {H : Hp} {vs : List V} (t : TDs H vs []) : vs = [] := by cases t; rfl
/-! events and views -/
abbrev Ev := Str × List Int
def dEv (e : Ev) : PyData := .tuple (.str e.1 :: e.2.map PyData.int)
def dView (L : List Ev) : PyData := .tuple (L.map dEv)
abbrev Row := List Ev × Int
def dRow (r : Row) : PyData := .tuple [dView r.1, .int r.2]
def dRowO : Option Row → PyData
  | none => .none
  | some r => dRow r
theorem td_ints {H : Hp} : ∀ l : List Int, TDs H (l.map V.int) (l.map PyData.int)
  | [] => .nil
  | a :: r => .cons (.int a) (td_ints r)
def isDid (e : Ev) : Bool := decide (e.1 = "did")
def lastR : List Ev → Option Row
  | [] => none
  | e :: r => if isDid e = true then some (r.reverse, e.2.headD 0) else lastR r
def lastRow (L : List Ev) : Option Row := lastR L.reverse
def rowsR : List Ev → List Row
  | [] => []
  | e :: r => if isDid e = true then rowsR r ++ [(r.reverse, e.2.headD 0)] else rowsR r
theorem rowsR_cons (e : Ev) (r : List Ev) : rowsR (e :: r) = if isDid e = true then rowsR r ++ [(r.reverse, e.2.headD 0)] else rowsR r := rfl
theorem lastR_cons (e : Ev) (r : List Ev) : lastR (e :: r) = if isDid e = true then some (r.reverse, e.2.headD 0) else lastR r := rfl
def allRows (L : List Ev) : List Row := rowsR L.reverse
theorem allRows_snoc (L : List Ev) (e : Ev) : allRows (L ++ [e]) = if isDid e = true then allRows L ++ [(L, e.2.headD 0)] else allRows L := by
  unfold allRows
  rw [List.reverse_append]
  show rowsR (e :: L.reverse) = _
  rw [rowsR, List.reverse_reverse]
theorem lastR_rows : ∀ (R : List Ev), rowsR R = (match lastR R with | none => [] | some (V, k) => rowsR V.reverse ++ [(V, k)])
  | [] => rfl
  | e :: r => by
    rw [rowsR_cons, lastR_cons]
    by_cases h : isDid e = true
    · rw [if_pos h, if_pos h]; simp only [List.reverse_reverse]
    · rw [if_neg h, if_neg h]; exact lastR_rows r
theorem lastRow_rows (L : List Ev) : allRows L = (match lastRow L with | none => [] | some (V, k) => allRows V ++ [(V, k)]) := lastR_rows L.reverse
theorem lastR_len : ∀ (R : List Ev) {V : List Ev} {k : Int}, lastR R = some (V, k) → V.length < R.length
  | [], V, k, h => by cases h
  | e :: r, V, k, h => by
    rw [lastR_cons] at h
    by_cases g : isDid e = true
    · rw [if_pos g] at h
      cases h
      simp
    · rw [if_neg g] at h
      have := lastR_len r h
      simp; omega
theorem lastRow_len {L V : List Ev} {k : Int} (h : lastRow L = some (V, k)) : V.length < L.length := by
  have := lastR_len _ h
  simpa using this
theorem lastRow_last (L : List Ev) : lastRow L = (allRows L).getLast? := by
  rw [lastRow_rows]
  cases h : lastRow L with
  | none => rfl
  | some x => simp
theorem rowsR_take : ∀ (R : List Ev) {j : Nat} {V : List Ev} {k : Int}, (rowsR R)[j]? = some (V, k) → rowsR V.reverse = (rowsR R).take j
  | [], j, V, k, h => by simp [rowsR] at h
  | e :: r, j, V, k, h => by
    rw [rowsR_cons] at h ⊢
    by_cases g : isDid e = true
    · rw [if_pos g] at h ⊢
      by_cases hj : j < (rowsR r).length
      · rw [List.getElem?_append_left hj] at h
        rw [List.take_append_of_le_length (Nat.le_of_lt hj)]
        exact rowsR_take r h
      · have hj' : j = (rowsR r).length := by
          have := (List.getElem?_eq_some_iff.mp h).1
          rw [List.length_append] at this
          simp at this; omega
        subst hj'
        rw [List.getElem?_append_right (Nat.le_refl _), Nat.sub_self] at h
        have e1 : r.reverse = V := congrArg Prod.fst (Option.some.inj h)
        rw [← e1, List.reverse_reverse, List.take_left]
    · rw [if_neg g] at h ⊢
      exact rowsR_take r h
theorem allRows_take {L : List Ev} {j : Nat} {V : List Ev} {k : Int} (h : (allRows L)[j]? = some (V, k)) : allRows V = (allRows L).take j := rowsR_take _ h
theorem rowsR_mem : ∀ (R : List Ev) {V : List Ev} {k : Int}, (V, k) ∈ rowsR R → ∃ M, R.reverse = V ++ M
  | [], V, k, h => by cases h
  | e :: r, V, k, h => by
    rw [rowsR_cons] at h
    rw [List.reverse_cons]
    by_cases g : isDid e = true
    · rw [if_pos g] at h
      rcases List.mem_append.mp h with h | h
      · obtain ⟨M, e1⟩ := rowsR_mem r h
        exact ⟨M ++ [e], by rw [e1, List.append_assoc]⟩
      · have := List.mem_singleton.mp h
        cases this
        exact ⟨[e], rfl⟩
    · rw [if_neg g] at h
      obtain ⟨M, e1⟩ := rowsR_mem r h
      exact ⟨M ++ [e], by rw [e1, List.append_assoc]⟩
theorem allRows_mem {L V : List Ev} {k : Int} (h : (V, k) ∈ allRows L) : ∃ M, L = V ++ M := by
  obtain ⟨M, e⟩ := rowsR_mem _ h
  exact ⟨M, by rw [← e, List.reverse_reverse]⟩
theorem rowsR_len : ∀ R : List Ev, (rowsR R).length ≤ R.length
  | [] => Nat.le_refl _
  | e :: r => by
    have h := rowsR_len r
    rw [rowsR_cons]
    split
    · rw [List.length_append]; simp; omega
    · simp; omega
theorem allRows_len (L : List Ev) : (allRows L).length ≤ L.length := by
  have h := rowsR_len L.reverse
  rw [List.length_reverse] at h
  exact h
/-- every move made tells it -/
def Good (L : List Ev) : Prop := ∀ e ∈ L, isDid e = true → e.2 ≠ []
theorem Good.pre {L V M : List Ev} (g : Good L) (h : L = V ++ M) : Good V := fun e he => g e (by rw [h]; exact List.mem_append_left _ he)
theorem lastRow_pre {L V : List Ev} {k : Int} (h : lastRow L = some (V, k)) : ∃ M, L = V ++ M := by
  refine allRows_mem (k := k) ?_
  rw [lastRow_rows, h]
  simp
def sp_last_row : Sp := fun vs H Q _ => ∃ (v : V) (L : List Ev), vs = [v] ∧ TD H v (dView L) ∧ L.length ≤ 100000 ∧ Good L ∧ ∀ r H', Keep [] H H' → TD H' r (dRowO (lastRow L)) → Q r H'
theorem td_view {H : Hp} {v : V} {ds : List PyData} (h : TD H v (.tuple ds)) : ∃ a xs, v = .ref a ∧ H a = some (.tup xs) ∧ TDs H xs ds := by
  cases h with
  | tup h t => exact ⟨_, _, rfl, h, t⟩

theorem un65 {k : Nat} {A : Around} (r : Room k A) : A.units + 65 < cLine := by have := r.un; omega
theorem tyT {K : PySem.W.Frag} {H : Hp} {a : Addr} {xs : List V} (h : H a = some (.tup xs)) : TyX K H (.ref a) (.type "tuple") := .base (.tup h)
def Lay (d : PyData) : Prop := SeqAt.shaped d = true
theorem canLay_ints : ∀ l : List Int, PyData.canLayAll0 (l.map PyData.int) = true
  | [] => rfl
  | a :: r => by simp [PyData.canLayAll0, PyData.canLay0, canLay_ints r]
theorem depth_ints : ∀ l : List Int, PyData.depthAll (l.map PyData.int) ≤ 1
  | [] => by simp [PyData.depthAll]
  | a :: r => by
    have := depth_ints r
    simp only [List.map_cons, PyData.depthAll, PyData.depth]
    omega
def OkE (e : Ev) : Prop := PyData.strOk e.1 = true
theorem canLay_ev {e : Ev} (h : OkE e) : (dEv e).canLay0 = true := by
  show ((PyData.str e.1).canLay0 && PyData.canLayAll0 (e.2.map PyData.int)) = true
  rw [canLay_ints, Bool.and_true]; exact h
theorem depth_ev (e : Ev) : (dEv e).depth ≤ 2 := by
  have := depth_ints e.2
  simp only [dEv, PyData.depth, PyData.depthAll]
  omega
theorem canLay_evs : ∀ {L : List Ev}, (∀ e ∈ L, OkE e) → PyData.canLayAll0 (L.map dEv) = true
  | [], _ => rfl
  | e :: r, h => by
    rw [List.map_cons]
    show ((dEv e).canLay0 && PyData.canLayAll0 (r.map dEv)) = true
    rw [canLay_ev (h e (List.mem_cons_self ..)), canLay_evs fun z hz => h z (List.mem_cons_of_mem _ hz)]; rfl
theorem depth_evs : ∀ L : List Ev, PyData.depthAll (L.map dEv) ≤ 2
  | [] => by simp [PyData.depthAll]
  | e :: r => by
    have h1 := depth_evs r
    have h2 := depth_ev e
    simp only [List.map_cons, PyData.depthAll]
    omega
theorem shaped_row {r : Row} (h : ∀ e ∈ r.1, OkE e) : SeqAt.shaped (dRow r) = true := by
  unfold SeqAt.shaped
  rw [Bool.and_eq_true]
  constructor
  · show (PyData.canLayAll0 (r.1.map dEv) && true) = true
    rw [canLay_evs h]; rfl
  · have := depth_evs r.1
    refine decide_eq_true ?_
    simp only [dRow, dView, PyData.depth, PyData.depthAll]
    omega
/-- a view grows by an event -/
theorem td_grow {H : Hp} {v : V} {L : List Ev} (h : TD H v (dView L)) : ∃ a xs, v = .ref a ∧ H a = some (.tup xs) ∧ TDs H xs (L.map dEv) ∧ xs.length = L.length := by
  obtain ⟨a, xs, e, ha, t⟩ := td_view h
  exact ⟨a, xs, e, ha, t, by rw [t.length, List.length_map]⟩
theorem okE_of {e : Ev} (h : PyData.strOk e.1 = true) : OkE e := h
theorem ok_round (l : List Int) : OkE ("round", l) := okE_of (by show PyData.strOk ("round" : Str) = true; decide +kernel)
theorem ok_told (l : List Int) : OkE ("told", l) := okE_of (by show PyData.strOk ("told" : Str) = true; decide +kernel)
theorem ok_move (l : List Int) : OkE ("move", l) := okE_of (by show PyData.strOk ("move" : Str) = true; decide +kernel)
theorem ok_did (l : List Int) : OkE ("did", l) := okE_of (by show PyData.strOk ("did" : Str) = true; decide +kernel)
theorem nd_round (l : List Int) : isDid ("round", l) = false := by show decide (("round" : Str) = "did") = false; decide +kernel
theorem nd_told (l : List Int) : isDid ("told", l) = false := by show decide (("told" : Str) = "did") = false; decide +kernel
theorem nd_move (l : List Int) : isDid ("move", l) = false := by show decide (("move" : Str) = "did") = false; decide +kernel
theorem yd_did (l : List Int) : isDid ("did", l) = true := by show decide (("did" : Str) = "did") = true; decide +kernel
theorem good_snoc {L : List Ev} {e : Ev} (g : Good L) (h : e.2 ≠ []) : Good (L ++ [e]) := fun z hz hd => by
  rcases List.mem_append.mp hz with q | q
  · exact g z q hd
  · rw [List.mem_singleton.mp q]; exact h
theorem oks_snoc {L : List Ev} {e : Ev} (g : ∀ z ∈ L, OkE z) (h : OkE e) : ∀ z ∈ L ++ [e], OkE z := fun z hz => by
  rcases List.mem_append.mp hz with q | q
  · exact g z q
  · rw [List.mem_singleton.mp q]; exact h
theorem rows_same {L : List Ev} {e : Ev} (h : isDid e = false) : allRows (L ++ [e]) = allRows L := by
  rw [allRows_snoc, if_neg (by rw [h]; simp)]
/-- view + (event,): once both tuples are made -/
theorem add_ev {K : PySem.W.Frag} {H : Hp} {v : V} {L : List Ev} (e : Ev) {Q : VK} {t1 t2 : Addr} (hv : TD H v (dView L)) (n1 : H t1 = none) (n2 : upd H t1 (.tup (.str e.1 :: e.2.map V.int)) t2 = none) (hl : L.length ≤ 100000)
    (k : ∀ (p : Addr) (H' : Hp), Keep [] H H' → TD H' (.ref p) (dView (L ++ [e])) → Q (.ref p) H') : rCatA K v (.ref t2) (upd (upd H t1 (.tup (.str e.1 :: e.2.map V.int))) t2 (.tup [.ref t1])) Q := by
  have kk : Keep [] H (upd (upd H t1 (.tup (.str e.1 :: e.2.map V.int))) t2 (.tup [.ref t1])) := (Keep.new n1).then_new n2
  obtain ⟨a, xs, rfl, ha, hx⟩ := td_view (hv.tk kk.tk)
  have n12 : t1 ≠ t2 := ne_of_none (H := upd H t1 _) upd_same n2
  have h1 : upd (upd H t1 (.tup (.str e.1 :: e.2.map V.int))) t2 (.tup [.ref t1]) t1 = some (.tup (.str e.1 :: e.2.map V.int)) := by rw [upd_ne n12]; exact upd_same
  have hlx : xs.length = L.length := by rw [hx.length, List.length_map]
  have hcat := hx.snoc (TD.tup h1 (.cons (.str e.1) (td_ints e.2)))
  have e1 : L.map dEv ++ [PyData.tuple (.str e.1 :: e.2.map PyData.int)] = (L ++ [e]).map dEv := by rw [List.map_append]; rfl
  rw [e1] at hcat
  refine ⟨a, t2, xs, [.ref t1], rfl, rfl, SqT.of ha, SqT.of upd_same, by simp only [List.length_cons, List.length_nil]; exact smallM (by omega), fun e0 => ?_, fun _ z => (by cases z), fun _ _ p hp => ?_⟩
  · subst e0
    exact k t2 _ kk (.tup upd_same hcat)
  · exact k p _ (kk.then_new hp) (.tup upd_same (hcat.tk (TK.new hp)))

/-! plain data: == is = -/
mutual
def PlD : PyData → Bool
  | .none => true
  | .bool _ => false
  | .int _ => true
  | .str _ => true
  | .list _ => false
  | .tuple xs => PlDs xs
  | .dict _ => false
def PlDs : List PyData → Bool
  | [] => true
  | d :: ds => PlD d && PlDs ds
end
mutual
theorem eqv_pl : ∀ (d e : PyData), PlD d = true → PlD e = true → PyData.eqv d e = true → d = e
  | .none, .none, _, _, _ => rfl
  | .int i, .int j, _, _, h => by
    have : i = j := by simpa [PyData.eqv] using h
    rw [this]
  | .str i, .str j, _, _, h => by
    have : i = j := by simpa [PyData.eqv] using h
    rw [this]
  | .tuple xs, .tuple ys, hx, hy, h => by
    rw [eqvs_pl xs ys (by simpa [PlD] using hx) (by simpa [PlD] using hy) (by simpa [PyData.eqv] using h)]
  | .none, .int _, _, _, h => by simp [PyData.eqv] at h
  | .none, .str _, _, _, h => by simp [PyData.eqv] at h
  | .none, .tuple _, _, _, h => by simp [PyData.eqv] at h
  | .int _, .none, _, _, h => by simp [PyData.eqv] at h
  | .int _, .str _, _, _, h => by simp [PyData.eqv] at h
  | .int _, .tuple _, _, _, h => by simp [PyData.eqv] at h
  | .str _, .none, _, _, h => by simp [PyData.eqv] at h
  | .str _, .int _, _, _, h => by simp [PyData.eqv] at h
  | .str _, .tuple _, _, _, h => by simp [PyData.eqv] at h
  | .tuple _, .none, _, _, h => by simp [PyData.eqv] at h
  | .tuple _, .int _, _, _, h => by simp [PyData.eqv] at h
  | .tuple _, .str _, _, _, h => by simp [PyData.eqv] at h
  | .bool _, _, h, _, _ => by simp [PlD] at h
  | .list _, _, h, _, _ => by simp [PlD] at h
  | .dict _, _, h, _, _ => by simp [PlD] at h
  | _, .bool _, _, h, _ => by simp [PlD] at h
  | _, .list _, _, h, _ => by simp [PlD] at h
  | _, .dict _, _, h, _ => by simp [PlD] at h
theorem eqvs_pl : ∀ (xs ys : List PyData), PlDs xs = true → PlDs ys = true → PyData.eqvAll xs ys = true → xs = ys
  | [], [], _, _, _ => rfl
  | d :: ds, e :: es, hx, hy, h => by
    simp only [PlDs, Bool.and_eq_true] at hx hy
    simp only [PyData.eqvAll, Bool.and_eq_true] at h
    rw [eqv_pl d e hx.1 hy.1 h.1, eqvs_pl ds es hx.2 hy.2 h.2]
  | [], _ :: _, _, _, h => by simp [PyData.eqvAll] at h
  | _ :: _, [], _, _, h => by simp [PyData.eqvAll] at h
end
theorem pl_ints : ∀ l : List Int, PlDs (l.map PyData.int) = true
  | [] => rfl
  | a :: r => by simp [PlDs, PlD, pl_ints r]
theorem pl_ev (e : Ev) : PlD (dEv e) = true := by
  show PlDs (.str e.1 :: e.2.map PyData.int) = true
  simp [PlDs, PlD, pl_ints]
theorem pl_evs : ∀ L : List Ev, PlDs (L.map dEv) = true
  | [] => rfl
  | e :: r => by
    rw [List.map_cons]
    show (PlD (dEv e) && PlDs (r.map dEv)) = true
    rw [pl_ev, pl_evs r]; rfl
theorem pl_view (L : List Ev) : PlD (dView L) = true := by
  show PlDs (L.map dEv) = true
  exact pl_evs L
theorem pl_row (r : Row) : PlD (dRow r) = true := by
  show (PlD (dView r.1) && (true && true)) = true
  rw [pl_view]; rfl
theorem ints_inj : ∀ {l m : List Int}, l.map PyData.int = m.map PyData.int → l = m
  | [], [], _ => rfl
  | a :: l, b :: m, h => by
    simp only [List.map_cons, List.cons.injEq, PyData.int.injEq] at h
    rw [h.1, ints_inj h.2]
  | [], _ :: _, h => by simp at h
  | _ :: _, [], h => by simp at h
theorem dEv_inj {e f : Ev} (h : dEv e = dEv f) : e = f := by
  unfold dEv at h
  simp only [PyData.tuple.injEq, List.cons.injEq, PyData.str.injEq] at h
  exact Prod.ext h.1 (ints_inj h.2)
theorem evs_inj : ∀ {l m : List Ev}, l.map dEv = m.map dEv → l = m
  | [], [], _ => rfl
  | a :: l, b :: m, h => by
    simp only [List.map_cons, List.cons.injEq] at h
    rw [dEv_inj h.1, evs_inj h.2]
  | [], _ :: _, h => by simp at h
  | _ :: _, [], h => by simp at h
theorem dView_inj {l m : List Ev} (h : dView l = dView m) : l = m := by
  unfold dView at h
  exact evs_inj (PyData.tuple.inj h)
theorem dRow_inj {r s : Row} (h : dRow r = dRow s) : r = s := by
  unfold dRow at h
  simp only [PyData.tuple.injEq, List.cons.injEq, PyData.int.injEq] at h
  exact Prod.ext (dView_inj h.1) h.2.1
theorem dRowO_inj {r s : Option Row} (h : dRowO r = dRowO s) : r = s := by
  cases r with
  | none =>
    cases s with
    | none => rfl
    | some s => unfold dRowO dRow at h; cases h
  | some r =>
    cases s with
    | none => unfold dRowO dRow at h; cases h
    | some s => rw [dRow_inj h]
theorem pl_rowO (r : Option Row) : PlD (dRowO r) = true := by
  cases r with
  | none => rfl
  | some r => exact pl_row r
theorem canLay_view {L : List Ev} (h : ∀ e ∈ L, OkE e) : (dView L).canLay0 = true := canLay_evs h
theorem shaped_view {L : List Ev} (h : ∀ e ∈ L, OkE e) : SeqAt.shaped (dView L) = true := by
  unfold SeqAt.shaped
  rw [Bool.and_eq_true]
  refine ⟨canLay_view h, decide_eq_true ?_⟩
  have := depth_evs L
  simp only [dView, PyData.depth]
  omega
theorem shaped_rowO {r : Option Row} (h : ∀ q, r = some q → ∀ e ∈ q.1, OkE e) : SeqAt.shaped (dRowO r) = true := by
  cases r with
  | none => rfl
  | some r => exact shaped_row (h r rfl)
theorem shaped_list {ds : List PyData} (h : ∀ d ∈ ds, SeqAt.shaped d = true) (h2 : ∀ d ∈ ds, d.depth ≤ 10) : SeqAt.shaped (.list ds) = true := by
  have g1 : ∀ {ds : List PyData}, (∀ d ∈ ds, SeqAt.shaped d = true) → PyData.canLayAll0 ds = true := by
    intro ds h
    induction ds with
    | nil => rfl
    | cons d r ih =>
      show (d.canLay0 && PyData.canLayAll0 r) = true
      rw [SeqAt.canLay_of_shaped (h d (List.mem_cons_self ..)), ih fun x hx => h x (List.mem_cons_of_mem _ hx)]; rfl
  have g2 : ∀ {ds : List PyData}, (∀ d ∈ ds, d.depth ≤ 10) → PyData.depthAll ds ≤ 10 := by
    intro ds h
    induction ds with
    | nil => simp [PyData.depthAll]
    | cons d r ih =>
      have h1 := h d (List.mem_cons_self ..)
      have h2 := ih fun x hx => h x (List.mem_cons_of_mem _ hx)
      simp only [PyData.depthAll]; omega
  unfold SeqAt.shaped
  rw [Bool.and_eq_true]
  refine ⟨g1 h, decide_eq_true ?_⟩
  have := g2 h2
  simp only [PyData.depth]
  omega
theorem depth_row (r : Row) : (dRow r).depth ≤ 10 := by
  have := depth_evs r.1
  simp only [dRow, dView, PyData.depth, PyData.depthAll]
  omega
instance : DecidableEq Row := inferInstanceAs (DecidableEq (List (Str × List Int) × Int))
theorem eqv_row {r s : Row} (hr : ∀ e ∈ r.1, OkE e) : PyData.eqv (dRow r) (dRow s) = decide (r = s) := by
  by_cases h : r = s
  · subst h
    rw [decide_eq_true rfl]
    exact SeqAt.eqv_refl _ (SeqAt.canLay_of_shaped (shaped_row hr))
  · rw [decide_eq_false h]
    cases q : PyData.eqv (dRow r) (dRow s) with
    | false => rfl
    | true => exact absurd (dRow_inj (eqv_pl _ _ (pl_row r) (pl_row s) q)) h
theorem eqv_rowO {r s : Option Row} (hr : ∀ q, r = some q → ∀ e ∈ q.1, OkE e) : PyData.eqv (dRowO r) (dRowO s) = decide (r = s) := by
  by_cases h : r = s
  · subst h
    rw [decide_eq_true rfl]
    exact SeqAt.eqv_refl _ (SeqAt.canLay_of_shaped (shaped_rowO hr))
  · rw [decide_eq_false h]
    cases q : PyData.eqv (dRowO r) (dRowO s) with
    | false => rfl
    | true => exact absurd (dRowO_inj (eqv_pl _ _ (pl_rowO r) (pl_rowO s) q)) h
/-- view + events, once their tuple is made -/
theorem add_evs {K : PySem.W.Frag} {H : Hp} {v : V} {L M : List Ev} {Q : VK} {t2 : Addr} {ys : List V} (hv : TD H v (dView L)) (h2 : H t2 = some (.tup ys)) (hy : TDs H ys (M.map dEv)) (hl : L.length + M.length ≤ 100000)
    (k : ∀ (p : Addr) (H' : Hp), Keep [] H H' → TD H' (.ref p) (dView (L ++ M)) → Q (.ref p) H') : rCatA K v (.ref t2) H Q := by
  obtain ⟨a, xs, rfl, ha, hx⟩ := td_view hv
  have hlx : xs.length = L.length := by rw [hx.length, List.length_map]
  have hly : ys.length = M.length := by rw [hy.length, List.length_map]
  have hcat := hx.append hy
  rw [← List.map_append] at hcat
  refine ⟨a, t2, xs, ys, rfl, rfl, SqT.of ha, SqT.of h2, smallM (by omega), fun e0 => ?_, fun _ e0 => ?_, fun _ _ p hp => ?_⟩
  · subst e0
    exact k t2 _ (Keep.refl _ _) (.tup h2 hcat)
  · subst e0
    rw [List.append_nil] at hcat
    exact k a _ (Keep.refl _ _) (.tup ha hcat)
  · exact k p _ (Keep.new hp) (.tup upd_same (hcat.tk (TK.new hp)))

theorem calUp {P : Program} {w : World} {K : PySem.W.Frag} {mg : Str → Option Value} {base : Heap} {j k : Nat} {x : Str} {sp : Sp} {dvs : List V} (c : C8.Cal P w K mg base j x sp dvs) (h : j ≤ k) : C8.Cal P w K mg base k x sp dvs := by
  obtain ⟨f, fd, ps, ds, F, hm, kp, b, d⟩ := c.ex
  exact ⟨f, fd, ps, ds, F.mono h, hm, kp, b, d⟩

def tl (_ x : Nat) : Int := x
/-! stages of a game, paths, views: in plain words -/
structure Stg where
  pl : Nat
  sz : Nat
  sh : Nat
  rd : Bool
def Stg.row (s : Stg) : List V := [.int s.pl, .int s.sz, .int s.sh, .bl s.rd]
instance : Inhabited Stg := ⟨⟨0, 1, 0, false⟩⟩
structure Stg.Ok (s : Stg) : Prop where
  pl : s.pl < 3
  sz0 : 1 ≤ s.sz
  sz1 : s.sz ≤ 100
  sh : s.sh < 4
def stg (S : List Stg) (k : Nat) : Stg := S.getD k ⟨0, 1, 0, false⟩
def nm (S : List Stg) : Nat → Int
  | 0 => 0
  | k + 1 => nm S k + (if (stg S k).pl ≠ 0 then 1 else 0)
def rn (S : List Stg) : Nat → Int
  | 0 => 0
  | k + 1 => rn S k + (if 0 < k ∧ (stg S k).rd = true then 1 else 0)
def rdE (S : List Stg) (k : Nat) : List Ev := if 0 < k ∧ (stg S k).rd = true then [(("round" : Str), [rn S (k + 1)])] else []
def vw (S : List Stg) (pl : Nat) (p : List Nat) : Nat → List Ev
  | 0 => [(("round" : Str), [0])]
  | k + 1 => ((vw S pl p k ++ rdE S k) ++ (if (stg S k).pl = pl then [(("move" : Str), [nm S k, ((stg S k).sz : Int)]), (("did" : Str), [((p.getD k 0 : Nat) : Int)])] else [])) ++ (if (stg S k).sh = pl ∨ (stg S k).sh = 3 then [(("told" : Str), [tl (stg S k).sz (p.getD k 0)])] else [])
/-- the view of who moves at stage k, behind the first k results of p -/
def asked (S : List Stg) (p : List Nat) (k : Nat) : List Ev := (vw S (stg S k).pl p k ++ rdE S k) ++ [(("move" : Str), [nm S k, ((stg S k).sz : Int)])]
def ext1 (n : Nat) (p : List Nat) : List (List Nat) := (List.range n).map fun k => p ++ [k]
def paths : List Stg → List (List Nat) → List (List Nat)
  | [], ps => ps
  | s :: S, ps => paths S (ps.flatMap (ext1 s.sz))
def prodS : List Stg → Nat
  | [] => 1
  | s :: S => s.sz * prodS S
def insR (f : List Row) (r : Row) : List Row := if r ∈ f then f else f ++ [r]
def metK (S : List Stg) (pl : Nat) (p : List Nat) : Nat → List Row → List Row
  | 0, f => f
  | k + 1, f => if (stg S k).pl = pl then insR (metK S pl p k f) (asked S p k, ((stg S k).sz : Int)) else metK S pl p k f
def met (S : List Stg) (pl : Nat) : List Row := (paths S [[]]).foldl (fun f p => metK S pl p S.length f) []
theorem vw_take (S : List Stg) (pl : Nat) (p : List Nat) : ∀ (k n : Nat), k ≤ n → vw S pl (p.take n) k = vw S pl p k
  | 0, _, _ => rfl
  | k + 1, n, h => by
    have e : (p.take n).getD k 0 = p.getD k 0 := by
      rw [List.getD_eq_getElem?_getD, List.getD_eq_getElem?_getD, List.getElem?_take_of_lt (by omega)]
    unfold vw
    rw [vw_take S pl p k n (by omega), e]
theorem asked_take (S : List Stg) (p : List Nat) (k : Nat) : asked S (p.take k) k = asked S p k := by
  unfold asked
  rw [vw_take S _ p k k (Nat.le_refl _)]
theorem vw_len (S : List Stg) (pl : Nat) (p : List Nat) : ∀ k, (vw S pl p k).length ≤ 1 + 4 * k
  | 0 => Nat.le_refl _
  | k + 1 => by
    have := vw_len S pl p k
    unfold vw rdE
    rw [List.length_append, List.length_append, List.length_append]
    split <;> split <;> split <;> simp <;> omega
theorem asked_len (S : List Stg) (p : List Nat) (k : Nat) : (asked S p k).length ≤ 3 + 4 * k := by
  have := vw_len S (stg S k).pl p k
  unfold asked rdE
  rw [List.length_append, List.length_append]
  split <;> simp <;> omega
theorem ok_app {L M : List Ev} (h : ∀ e ∈ L, OkE e) (g : ∀ e ∈ M, OkE e) : ∀ e ∈ L ++ M, OkE e := fun e he => (List.mem_append.mp he).elim (h e) (g e)
theorem ok_if {p : Prop} [Decidable p] {L : List Ev} (h : ∀ e ∈ L, OkE e) : ∀ e ∈ (if p then L else []), OkE e := fun e he => by
  split at he
  · exact h e he
  · cases he
theorem ok_one {e : Ev} (h : OkE e) : ∀ x ∈ [e], OkE x := fun x hx => by rw [List.mem_singleton.mp hx]; exact h
theorem vw_ok (S : List Stg) (pl : Nat) (p : List Nat) : ∀ k, ∀ e ∈ vw S pl p k, OkE e
  | 0 => ok_one (ok_round _)
  | k + 1 => by
    unfold vw rdE
    refine ok_app (ok_app (ok_app (vw_ok S pl p k) (ok_if (ok_one (ok_round _)))) (ok_if fun x hx => ?_)) (ok_if (ok_one (ok_told _)))
    rcases List.mem_cons.mp hx with rfl | hx
    · exact ok_move _
    · rw [List.mem_singleton.mp hx]; exact ok_did _
theorem asked_ok (S : List Stg) (p : List Nat) (k : Nat) : ∀ e ∈ asked S p k, OkE e := by
  unfold asked rdE
  exact ok_app (ok_app (vw_ok S _ p k) (ok_if (ok_one (ok_round _)))) (ok_one (ok_move _))
theorem paths_len : ∀ (S : List Stg) (ps : List (List Nat)), (paths S ps).length = prodS S * ps.length
  | [], ps => by show ps.length = 1 * ps.length; omega
  | s :: S, ps => by
    show (paths S (ps.flatMap (ext1 s.sz))).length = s.sz * prodS S * ps.length
    rw [paths_len S]
    have : (ps.flatMap (ext1 s.sz)).length = s.sz * ps.length := by
      rw [List.length_flatMap]
      have e : ps.map (fun x => (ext1 s.sz x).length) = ps.map fun _ => s.sz := List.map_congr_left fun x _ => by unfold ext1; rw [List.length_map, List.length_range]
      rw [e, List.map_const', List.sum_replicate_nat, Nat.mul_comm]
    rw [this, ← Nat.mul_assoc, Nat.mul_comm (prodS S)]
theorem prod_pos : ∀ {S : List Stg}, (∀ s ∈ S, s.Ok) → 1 ≤ prodS S
  | [], _ => Nat.le_refl _
  | s :: S, h => by
    have h1 := (h s (List.mem_cons_self ..)).sz0
    have h2 := prod_pos (S := S) fun x hx => h x (List.mem_cons_of_mem _ hx)
    exact Nat.mul_le_mul h1 h2
theorem prod_app : ∀ (S : List Stg) (s : Stg), prodS (S ++ [s]) = prodS S * s.sz
  | [], s => by show s.sz * 1 = 1 * s.sz; omega
  | t :: S, s => by
    show t.sz * prodS (S ++ [s]) = t.sz * prodS S * s.sz
    rw [prod_app S s, Nat.mul_assoc]
/-- the paths of the first k stages stay within the product -/
theorem prod_take : ∀ {S : List Stg}, (∀ s ∈ S, s.Ok) → ∀ k, prodS (S.take k) ≤ prodS S
  | [], _, k => by rw [List.take_nil]; exact Nat.le_refl _
  | s :: S, h, 0 => prod_pos h
  | s :: S, h, k + 1 => Nat.mul_le_mul_left _ (prod_take (S := S) (fun x hx => h x (List.mem_cons_of_mem _ hx)) k)
theorem paths_snoc : ∀ (S : List Stg) (s : Stg) (ps : List (List Nat)), paths (S ++ [s]) ps = (paths S ps).flatMap (ext1 s.sz)
  | [], _, _ => rfl
  | t :: S, s, ps => by
    show paths (S ++ [s]) (ps.flatMap (ext1 t.sz)) = (paths S (ps.flatMap (ext1 t.sz))).flatMap (ext1 s.sz)
    rw [paths_snoc S s]
theorem paths_each : ∀ (S : List Stg) (ps : List (List Nat)) (n : Nat), (∀ p ∈ ps, p.length = n) → ∀ p ∈ paths S ps, p.length = n + S.length
  | [], ps, n, h => fun p hp => h p hp
  | s :: S, ps, n, h => fun p hp => by
    have := paths_each S (ps.flatMap (ext1 s.sz)) (n + 1) (fun q hq => by
      obtain ⟨r, hr, hq⟩ := List.mem_flatMap.mp hq
      unfold ext1 at hq
      obtain ⟨k, _, rfl⟩ := List.mem_map.mp hq
      rw [List.length_append, h r hr]; rfl) p hp
    rw [this, List.length_cons]; omega
/-! in the heap -/
inductive SL (H : Hp) : List V → List Stg → Prop
  | nil : SL H [] []
  | cons {t : Addr} {s : Stg} {vs : List V} {S : List Stg} : H t = some (.tup s.row) → SL H vs S → SL H (.ref t :: vs) (s :: S)
theorem SL.tk {H H' : Hp} (k : TK H H') {vs : List V} {S : List Stg} (h : SL H vs S) : SL H' vs S := by
  induction h with
  | nil => exact .nil
  | cons h _ ih => exact .cons (k _ _ h) ih
theorem SL.len {H : Hp} {vs : List V} {S : List Stg} (h : SL H vs S) : vs.length = S.length := by
  induction h with
  | nil => rfl
  | cons _ _ ih => rw [List.length_cons, List.length_cons, ih]
theorem SL.snoc {H : Hp} {vs : List V} {S : List Stg} {t : Addr} {s : Stg} (h : SL H vs S) (ht : H t = some (.tup s.row)) : SL H (vs ++ [.ref t]) (S ++ [s]) := by
  induction h with
  | nil => exact .cons ht .nil
  | cons h _ ih => exact .cons h ih
theorem SL.get {H : Hp} {vs : List V} {S : List Stg} (h : SL H vs S) : ∀ {i : Nat}, i < S.length → ∃ t, vs[i]? = some (.ref t) ∧ H t = some (.tup (stg S i).row) := by
  induction h with
  | nil => intro i hi; exact absurd hi (Nat.not_lt_zero _)
  | cons h _ ih =>
    intro i hi
    cases i with
    | zero => exact ⟨_, rfl, h⟩
    | succ i =>
      obtain ⟨t, h1, h2⟩ := ih (i := i) (by simpa using hi)
      exact ⟨t, by simpa using h1, by simpa [stg] using h2⟩
structure SOk (S : List Stg) : Prop where
  all : ∀ s ∈ S, s.Ok
  len : S.length ≤ 4
  prod : prodS S ≤ 100
def StA (H : Hp) (a : Addr) (S : List Stg) : Prop := ∃ vs, H a = some (.lst vs) ∧ SL H vs S
theorem StA.keep {H H' : Hp} {a : Addr} {S : List Stg} (h : StA H a S) (k : Keep [] H H') : StA H' a S := by
  obtain ⟨vs, h1, h2⟩ := h
  exact ⟨vs, k _ _ h1 (by simp), h2.tk k.tk⟩
theorem stg_ok {S : List Stg} (h : SOk S) (k : Nat) : (stg S k).Ok := by
  unfold stg
  by_cases q : k < S.length
  · rw [List.getD_eq_getElem?_getD, List.getElem?_eq_getElem q]
    exact h.all _ (List.getElem_mem q)
  · rw [List.getD_eq_getElem?_getD, List.getElem?_eq_none (by omega)]
    exact ⟨by decide, by decide, by decide, by decide⟩
def nat (k : Nat) : V := .int (k : Int)
def PaA (H : Hp) (a : Addr) (p : List Nat) : Prop := H a = some (.lst (p.map nat))
inductive PLs (H : Hp) : List V → List (List Nat) → Prop
  | nil : PLs H [] []
  | cons {t : Addr} {p : List Nat} {vs : List V} {ps : List (List Nat)} : PaA H t p → PLs H vs ps → PLs H (.ref t :: vs) (p :: ps)
theorem PLs.keep {H H' : Hp} (k : Keep [] H H') {vs : List V} {ps : List (List Nat)} (h : PLs H vs ps) : PLs H' vs ps := by
  induction h with
  | nil => exact .nil
  | cons h _ ih => exact .cons (k _ _ h (by simp)) ih
theorem PLs.own {H H' : Hp} {l : Addr} (k : ∀ b o, H b = some o → b ≠ l → H' b = some o) {vs : List V} {ps : List (List Nat)} (h : PLs H vs ps) (hl : ∀ t, V.ref t ∈ vs → t ≠ l) : PLs H' vs ps := by
  induction h with
  | nil => exact .nil
  | cons h _ ih => exact .cons (k _ _ h (hl _ (List.mem_cons_self ..))) (ih fun t ht => hl t (List.mem_cons_of_mem _ ht))
theorem PLs.len {H : Hp} {vs : List V} {ps : List (List Nat)} (h : PLs H vs ps) : vs.length = ps.length := by
  induction h with
  | nil => rfl
  | cons _ _ ih => rw [List.length_cons, List.length_cons, ih]
theorem PLs.snoc {H : Hp} {vs : List V} {ps : List (List Nat)} {t : Addr} {p : List Nat} (h : PLs H vs ps) (ht : PaA H t p) : PLs H (vs ++ [.ref t]) (ps ++ [p]) := by
  induction h with
  | nil => exact .cons ht .nil
  | cons h _ ih => exact .cons h ih
theorem PLs.get {H : Hp} {vs : List V} {ps : List (List Nat)} (h : PLs H vs ps) : ∀ {i : Nat} {v : V}, vs[i]? = some v → ∃ t p, v = .ref t ∧ ps[i]? = some p ∧ PaA H t p := by
  induction h with
  | nil => intro i v h; simp at h
  | cons h _ ih =>
    intro i v hv
    cases i with
    | zero => simp at hv; subst hv; exact ⟨_, _, rfl, rfl, h⟩
    | succ i => simpa using ih (by simpa using hv)
/-! the promises -/
def sp_cell (K : PySem.W.Frag) : Sp := fun vs H Q _ => ∃ (a : Addr) (ns : List Int) (k : Nat), vs = [.ref a, .int k] ∧ SqL K H a (ns.map V.int) ∧ Q (.int (ns.getD k 0)) H
def sp_isint : Sp := fun vs H Q _ => ∃ z : Int, vs = [.int z] ∧ Q (.bl true) H
def sp_row : Sp := fun vs H Q _ => ∃ (c : Int) (n : Nat) (m : Int), vs = [.int c, .int n, .int m] ∧ 0 < m ∧ m < 1000000 ∧ n ≤ 1000 ∧ ∀ l (ds : List Nat) H', H l = none → H' l = some (.lst (ds.map nat)) → ds.length = n → (∀ d ∈ ds, (d : Int) < m) → Keep [] H H' → Q (.ref l) H'
def sp_stages (K : PySem.W.Frag) (mx : Nat) : Sp := fun vs H Q _ => ∃ (a : Addr) (ns : List Int) (m : Int), vs = [.ref a, .int m] ∧ m = mx ∧ SqL K H a (ns.map V.int) ∧ ∀ l (S : List Stg) H', H l = none → StA H' l S → SOk S → prodS S ≤ mx → Keep [] H H' → Q (.ref l) H'
def sp_paths : Sp := fun vs H Q _ => ∃ (a : Addr) (S : List Stg), vs = [.ref a] ∧ StA H a S ∧ SOk S ∧ ∀ l xs H', H l = none → H' l = some (.lst xs) → PLs H' xs (paths S [[]]) → (∀ u, V.ref u ∈ xs → H u = none) → Keep [] H H' → Q (.ref l) H'
def sp_view : Sp := fun vs H Q _ => ∃ (a b : Addr) (S : List Stg) (p : List Nat) (pl : Nat), vs = [.ref a, .ref b, .int pl] ∧ StA H a S ∧ SOk S ∧ PaA H b p ∧ p.length ≤ S.length ∧ ∀ v H', TD H' v (dView (vw S pl p p.length)) → Keep [] H H' → Q v H'
def sp_asked : Sp := fun vs H Q _ => ∃ (a b : Addr) (S : List Stg) (p : List Nat), vs = [.ref a, .ref b] ∧ StA H a S ∧ SOk S ∧ PaA H b p ∧ p.length < S.length ∧ ∀ v H', TD H' v (dView (asked S p p.length)) → Keep [] H H' → Q v H'
def sp_met : Sp := fun vs H Q _ => ∃ (a : Addr) (S : List Stg) (pl : Nat), vs = [.ref a, .int pl] ∧ StA H a S ∧ SOk S ∧ ∀ l xs H', H l = none → H' l = some (.lst xs) → TDs H' xs ((met S pl).map dRow) → Keep [] H H' → Q (.ref l) H'
section
variable {P : Program} {w : World} {K : PySem.W.Frag} {mg : Str → Option Value} {base : Heap} {C_Ratio : Addr} {C_Plan : Addr}
theorem ok_cell {f : Addr} {fd : FuncData} (D : C8.Def K mg "_law_cell" s_law_cell f fd) (b : Binds K fd ["script", "k"] []) (T : Txt K mg C_Ratio C_Plan) : C8.Cal P w K mg base 1 "_law_cell" (sp_cell K) [] := by
  refine cal0 D b .nil sc_law_cell (fun vs H Q E h => ?_) (fun cdv A outer s H vs Q E hr h => ?_)
  · obtain ⟨a, ns, k, rfl, _⟩ := h
    rfl
  · obtain ⟨a, ns, k, rfl, hS, g⟩ := h
    refine ⟨_, (pss_cons (ps_if (pt_cmpR op_lt (pv 1) (pe_callB call_len_seq (by rfl) T.n_len bo_len (pa_cons (pv 0) pa_nil)) (nomark _))
  (pss_one (ps_ret (pe_ix ix_list (pv 0) (pv 1) (fun _ _ => rfl))))
  pss_nil)
(pss_one (ps_ret pe_int))), ?_⟩
    refine ⟨_, rfl, _, rfl, _, _, rfl, .inl hS, _, _, rfl, rfl, _, rfl, iteD (fun h => ?_) (fun h => ?_)⟩
    all_goals rw [List.length_map] at h
    rotate_left
    · have e : ns.getD k 0 = 0 := by rw [List.getD_eq_getElem?_getD, List.getElem?_eq_none (by omega)]; rfl
      rw [e] at g; exact g
    have hk : k < ns.length := by omega
    have e : ns.getD k 0 = ns[k] := by rw [List.getD_eq_getElem?_getD, List.getElem?_eq_getElem hk]; rfl
    rw [e] at g
    exact ⟨_, rfl, _, rfl, _, _, _, _, rfl, rfl, hS, atI_nat (by rw [List.getElem?_map, List.getElem?_eq_getElem hk]; rfl), g⟩
theorem ok_isint {f : Addr} {fd : FuncData} (D : C8.Def K mg "_law_is_integer" s_law_is_integer f fd) (b : Binds K fd ["actual"] []) (T : Txt K mg C_Ratio C_Plan) : C8.Cal P w K mg base 1 "_law_is_integer" sp_isint [] := by
  refine cal0 D b .nil sc_law_is_integer (fun vs H Q E h => ?_) (fun cdv A outer s H vs Q E hr h => ?_)
  · obtain ⟨z, rfl, _⟩ := h
    rfl
  · obtain ⟨z, rfl, k⟩ := h
    refine ⟨_, (pss_one (ps_ret (pe_and (pe_callB call_isi (by rfl) T.n_isinstance bo_isinstance (pa_cons (pv 0) (pa_cons (pe_bltn (v := .ty "int") (by rfl) T.n_int bo_int rfl) pa_nil))) (pe_one (pe_not (pe_callB call_isi (by rfl) T.n_isinstance bo_isinstance (pa_cons (pv 0) (pa_cons (pe_bltn (v := .ty "bool") (by rfl) T.n_bool bo_bool rfl) pa_nil)))))))), ?_⟩
    have kII : PySem.W.kitOne K (.type "int") (.type "int") = some true := kit_ty (by decide +kernel)
    have kIB : PySem.W.kitOne K (.type "int") (.type "bool") = some false := kit_ty (by decide +kernel)
    exact ⟨_, rfl, _, _, _, _, _, rfl, .ty _, .base (.int z), kII, _, rfl, iteT ⟨_, rfl, _, _, _, _, _, rfl, .ty _, .base (.int z), kIB, _, rfl, k⟩⟩
theorem ok_row {f : Addr} {fd : FuncData} (D : C8.Def K mg "_law_row" s_law_row f fd) (b : Binds K fd ["cell", "count", "size"] []) (T : Txt K mg C_Ratio C_Plan) : C8.Cal P w K mg base 1 "_law_row" sp_row [] := by
  refine cal0 D b .nil sc_law_row (fun vs H Q E h => ?_) (fun cdv A outer s H vs Q E hr h => ?_)
  · obtain ⟨c, n, m, rfl, _⟩ := h
    rfl
  · obtain ⟨c, n, m, rfl, hm0, hm1, hn, k⟩ := h
    refine ⟨_, (pss_cons (ps_set (i := 3) sc_law_row.nd rfl (by first | exact Or.inl rfl | exact Or.inr rfl) (pv 0))
(pss_cons (ps_set (i := 4) sc_law_row.nd rfl (by first | exact Or.inl rfl | exact Or.inr rfl) (pe_lst pa_nil))
(pss_cons (ps_for PassesOwn.never rfl (pi_range1 (by rfl) T.n_range (pa_cons (pv 1) pa_nil)) (pg_name (i := 5) sc_law_row.nd rfl (by first | exact Or.inl rfl | exact Or.inr rfl))
  (pss_one (ps_if (pt_cmpR op_ge (pv 0) (pe_op op_pow pe_int pe_int) (nomark _))
    (pss_cons (ps_expr (pe_bm PySem.F.plainAttrs_list PySem.F.slot_list_append PySem.F.type_list_append mt_append (pv 4) (pa_cons (pe_op op_mod (pe_callTy call_int1 (by rfl) T.n_int bo_int (pa_cons (pv 3) pa_nil)) (pv 2)) pa_nil)))
    (pss_one (ps_set (i := 3) sc_law_row.nd rfl (by first | exact Or.inl rfl | exact Or.inr rfl) (pe_op op_fdivG (pv 3) (pv 2)))))
    (pss_cons (ps_set (i := 3) sc_law_row.nd rfl (by first | exact Or.inl rfl | exact Or.inr rfl) (pe_op op_mod (pe_callTy call_int1 (by rfl) T.n_int bo_int (pa_cons (pe_op op_add (pe_op op_mul (pv 3) pe_int) pe_int) pa_nil)) pe_int))
    (pss_one (ps_expr (pe_bm PySem.F.plainAttrs_list PySem.F.slot_list_append PySem.F.type_list_append mt_append (pv 4) (pa_cons (pe_op op_mod (pe_op op_mod (pe_callTy call_int1 (by rfl) T.n_int bo_int (pa_cons (pe_op op_add (pe_op op_mul (pv 3) pe_int) (pe_op op_mul (pv 5) pe_int)) pa_nil)) pe_int) (pv 2)) pa_nil))))))))
(pss_one (ps_ret (pv 4)))))), ?_⟩
    have cdg : ∀ {i : Int}, CDivG i m := ⟨by omega, Nat.lt_trans (log2_lt9 (b := 60) (by omega) (by decide)) (by decide)⟩
    have hbig : (0 : Int) < 2147483647 := by decide
    refine ⟨_, rfl, by show 0 ≤ sizeLine; decide, fun l nl => ?_⟩
    refine ⟨_, rfl, (n : Int), rfl, by omega, by omega, for_range (lo := 0) (n := ((n : Int)).toNat) (fun i σ H' => ∃ (st : Int) (ds : List Nat) (o : Option V), σ = [some (.int c), some (.int n), some (.int m), some (.int st), some (.ref l), o] ∧ H' l = some (.lst (ds.map nat)) ∧ ds.length = i ∧ (∀ d ∈ ds, (d : Int) < m) ∧ Keep [] H H')
      ⟨c, [], none, rfl, upd_same, rfl, (fun _ h => by cases h), Keep.new nl⟩ ?_ ?_⟩
    · rintro i σ H' hi ⟨st, ds, o, rfl, hl, hlen, hds, kk⟩
      have e0 : (0 : Int) + (i : Int) = (i : Int) := by omega
      rw [e0]
      have push : ∀ {z : Int}, 0 ≤ z → z < m → upd H' l (.lst (ds.map nat ++ [.int z])) l = some (.lst ((ds ++ [z.toNat]).map nat)) ∧ ∀ d ∈ ds ++ [z.toNat], (d : Int) < m := fun {z} h0 h1 => by
        refine ⟨?_, fun d hd => ?_⟩
        · rw [upd_same, List.map_append]
          show some (HO.lst (ds.map nat ++ [.int z])) = some (HO.lst (ds.map nat ++ [.int ((z.toNat : Nat) : Int)]))
          rw [Int.toNat_of_nonneg h0]
        · rcases List.mem_append.mp hd with q | q
          · exact hds d q
          · rw [List.mem_singleton.mp q]; omega
      have hln : (ds.map nat).length < sizeLine := by rw [List.length_map]; exact smallL (by omega)
      refine ⟨_, rfl, _, _, rfl, rfl, ⟨by decide, by decide, by decide⟩, _, _, rfl, rfl, _, rfl, iteD (fun _ => ?_) (fun _ => ?_)⟩
      · refine ⟨_, rfl, .inl ⟨rfl, _, SqL.of hl⟩, _, rfl, .inl ⟨_, rfl, _, rfl, _, _, rfl, rfl, hm0, ?_⟩⟩
        obtain ⟨g1, g2⟩ := push (Int.emod_nonneg st (by omega)) (Int.emod_lt_of_pos st hm0)
        exact ⟨_, _, _, rfl, rfl, hl, hln, _, rfl, _, rfl, _, _, rfl, rfl, cdg, _, _, _, rfl, g1, by rw [List.length_append, hlen]; rfl, g2, kk.then_own nl⟩
      · refine ⟨_, rfl, _, _, rfl, rfl, .inr ⟨by decide, by decide⟩, _, _, rfl, rfl, .inl ⟨_, rfl, _, _, rfl, rfl, hbig, ?_⟩⟩
        refine ⟨_, rfl, .inl ⟨rfl, _, SqL.of hl⟩, _, rfl, _, _, rfl, rfl, .inr ⟨by decide, by decide⟩, _, rfl, _, _, rfl, rfl, .inr ⟨by decide, by decide⟩, _, _, rfl, rfl, .inl ⟨_, rfl, _, _, rfl, rfl, hbig, _, rfl, _, _, rfl, rfl, hm0, ?_⟩⟩
        obtain ⟨g1, g2⟩ := push (Int.emod_nonneg _ (by omega)) (Int.emod_lt_of_pos _ hm0)
        exact ⟨_, _, _, rfl, rfl, hl, hln, _, _, _, rfl, g1, by rw [List.length_append, hlen]; rfl, g2, kk.then_own nl⟩
    · rintro σ H' ⟨st, ds, o, rfl, hl, hlen, hds, kk⟩
      exact ⟨_, rfl, k l ds _ nl hl (by omega) hds kk⟩
theorem ok_paths {f : Addr} {fd : FuncData} (D : C8.Def K mg "_law_paths" s_law_paths f fd) (b : Binds K fd ["stages"] []) (T : Txt K mg C_Ratio C_Plan) : C8.Cal P w K mg base 1 "_law_paths" sp_paths [] := by
  refine cal0 D b .nil sc_law_paths (fun vs H Q E h => ?_) (fun cdv A outer s H vs Q E hr h => ?_)
  · obtain ⟨a, S, rfl, _⟩ := h
    rfl
  · obtain ⟨a, S, rfl, hS, hok, k⟩ := h
    refine ⟨_, (pss_cons (ps_set (i := 1) sc_law_paths.nd rfl (by first | exact Or.inl rfl | exact Or.inr rfl) (pe_lst (pa_cons (pe_lst pa_nil) pa_nil)))
(pss_cons (ps_for PassesOwn.never rfl (pi_list (pv 0)) (pg_name (i := 2) sc_law_paths.nd rfl (by first | exact Or.inl rfl | exact Or.inr rfl))
  (pss_cons (ps_set (i := 3) sc_law_paths.nd rfl (by first | exact Or.inl rfl | exact Or.inr rfl) (pe_lst pa_nil))
  (pss_cons (ps_for PassesOwn.never rfl (pi_list (pv 1)) (pg_name (i := 4) sc_law_paths.nd rfl (by first | exact Or.inl rfl | exact Or.inr rfl))
    (pss_one (ps_for PassesOwn.never rfl (pi_range1 (by rfl) T.n_range (pa_cons (pe_ix ix_tup (pv 2) pe_int (fun _ _ => rfl)) pa_nil)) (pg_name (i := 5) sc_law_paths.nd rfl (by first | exact Or.inl rfl | exact Or.inr rfl))
      (pss_one (ps_expr (pe_bm PySem.F.plainAttrs_list PySem.F.slot_list_append PySem.F.type_list_append mt_append (pv 3) (pa_cons (pe_op op_cat (pv 4) (pe_lst (pa_cons (pv 5) pa_nil))) pa_nil)))))))
  (pss_one (ps_set (i := 1) sc_law_paths.nd rfl (by first | exact Or.inl rfl | exact Or.inr rfl) (pv 3))))))
(pss_one (ps_ret (pv 1))))), ?_⟩
    obtain ⟨vs, hvs, hSL⟩ := id hS
    have hlS := hSL.len
    refine And.intro (by show 0 ≤ sizeLine; decide) <| fun e0 ne0 => And.intro (by show 1 ≤ sizeLine; decide) <| fun l0 nl0 => ?_
    have k0 : Keep [] H (upd (upd H e0 (.lst [])) l0 (.lst [.ref e0])) := (Keep.new ne0).then_new nl0
    refine ⟨_, rfl, a, rfl, ⟨_, SqL.of (k0 _ _ hvs (by simp))⟩, for_list (K := K) (a := a) (xs := vs) (fun i σ H' => ∃ (l : Addr) (xs : List V) (o2 o3 o4 o5 : Option V), σ = [some (.ref a), some (.ref l), o2, o3, o4, o5] ∧ H l = none ∧ H' l = some (.lst xs) ∧ PLs H' xs (paths (S.take i) [[]]) ∧ Keep [] H H' ∧ (∀ u, V.ref u ∈ xs → H u = none))
      ⟨l0, _, _, _, _, _, rfl, (Keep.new (W := []) ne0).free nl0, upd_same, .cons (p := []) (Keep.new (W := []) nl0 _ _ upd_same (by simp)) .nil, k0, fun u hu => by rw [V.ref.inj (List.mem_singleton.mp hu)]; exact ne0⟩ (fun i σ H' _ ⟨_, _, _, _, _, _, _, _, _, _, kk, _⟩ => SqL.of (kk _ _ hvs (by simp))) ?_ ?_⟩
    · rintro i v σ H1 hi ⟨l, xs, o2, o3, o4, o5, rfl, nl, hl, hpl, k1, fr⟩
      have hi' : i < S.length := by
        have := (List.getElem?_eq_some_iff.mp hi).1
        omega
      obtain ⟨t, ht1, ht0⟩ := hSL.get hi'
      rw [hi] at ht1
      cases ht1
      have hok1 := stg_ok hok i
      have etk : S.take (i + 1) = S.take i ++ [stg S i] := by
        rw [List.take_succ_eq_append_getElem hi']
        unfold stg
        rw [List.getD_eq_getElem?_getD, List.getElem?_eq_getElem hi']; rfl
      have hprod : prodS (S.take (i + 1)) ≤ 100 := Nat.le_trans (prod_take hok.all _) hok.prod
      rw [etk, prod_app] at hprod
      have hcnt : (paths (S.take i) [[]]).length = prodS (S.take i) := by rw [paths_len]; show _ * 1 = _; omega
      have hplen : ∀ q ∈ paths (S.take i) [[]], q.length ≤ 4 := fun q hq => by
        have := paths_each (S.take i) [[]] 0 (fun q hq => by rw [List.mem_singleton.mp hq]; rfl) q hq
        rw [List.length_take] at this
        have := hok.len
        omega
      rw [etk, paths_snoc]
      generalize hps : paths (S.take i) [[]] = ps at hpl hcnt hplen
      generalize hst : stg S i = st at *
      refine And.intro (by show 0 ≤ sizeLine; decide) <| fun g ng => ?_
      have kg : Keep [] H1 (upd H1 g (.lst [])) := Keep.new ng
      have hll := hpl.len
      have ng0 := k1.free ng
      refine ⟨_, rfl, l, rfl, ⟨_, SqL.of (kg _ _ hl (by simp))⟩, for_list (K := K) (a := l) (xs := xs) (fun j σ H' => ∃ (ys : List V) (o4 o5 : Option V), σ = [some (.ref a), some (.ref l), some (.ref t), some (.ref g), o4, o5] ∧ H' g = some (.lst ys) ∧ PLs H' ys ((ps.take j).flatMap (ext1 st.sz)) ∧ Keep [] H1 H' ∧ (∀ u, V.ref u ∈ ys → u ≠ g) ∧ (∀ u, V.ref u ∈ ys → H u = none))
        ⟨[], _, _, rfl, upd_same, .nil, kg, (fun _ h => by cases h), fun _ h => by cases h⟩ (fun j σ H' _ ⟨_, _, _, _, _, _, kk, _⟩ => SqL.of (kk _ _ hl (by simp))) ?_ ?_⟩
      · rintro j v σ H2 hj ⟨ys, o4, o5, rfl, hg, hys, k2, hne, fr2⟩
        obtain ⟨u, q, rfl, hq, hu⟩ := hpl.get hj
        have hjl := (List.getElem?_eq_some_iff.mp hq).1
        have hu2 : H2 u = some (.lst (q.map nat)) := k2 _ _ hu (by simp)
        have hql := hplen q (List.mem_of_getElem? hq)
        have ht2 := k2 _ _ (k1 _ _ ht0 (by simp)) (by simp)
        have hyl := hys.len
        have etj : ps.take (j + 1) = ps.take j ++ [q] := by
          rw [List.take_succ_eq_append_getElem hjl]
          rw [List.getElem?_eq_getElem hjl] at hq
          rw [Option.some.inj hq]
        have hflen : ((ps.take j).flatMap (ext1 st.sz)).length = st.sz * (ps.take j).length := by
          rw [List.length_flatMap]
          have e : (ps.take j).map (fun x => (ext1 st.sz x).length) = (ps.take j).map fun _ => st.sz := List.map_congr_left fun x _ => by unfold ext1; rw [List.length_map, List.length_range]
          rw [e, List.map_const', List.sum_replicate_nat, Nat.mul_comm]
        have hbound : ys.length ≤ 100 := by
          rw [hyl, hflen, List.length_take]
          have : st.sz * min j ps.length ≤ st.sz * prodS (S.take i) := Nat.mul_le_mul_left _ (by omega)
          rw [Nat.mul_comm st.sz (prodS _)] at this
          omega
        refine ⟨_, rfl, _, _, _, _, rfl, rfl, SqT.of ht2, rfl, (st.sz : Int), rfl, by omega, by have := hok1.sz1; omega, for_range (lo := 0) (n := ((st.sz : Int)).toNat) (fun m σ H' => ∃ (zs : List V) (o5 : Option V), σ = [some (.ref a), some (.ref l), some (.ref t), some (.ref g), some (.ref u), o5] ∧ H' g = some (.lst zs) ∧ PLs H' zs ((ps.take j).flatMap (ext1 st.sz) ++ (List.range m).map fun k => q ++ [k]) ∧ Keep [] H1 H' ∧ (∀ u, V.ref u ∈ zs → u ≠ g) ∧ (∀ u, V.ref u ∈ zs → H u = none))
          ⟨ys, _, rfl, hg, by rw [List.range_zero, List.map_nil, List.append_nil]; exact hys, k2, hne, fr2⟩ ?_ ?_⟩
        · rintro m σ H3 hm ⟨zs, o5, rfl, hg3, hzs, k3, hne3, fr3⟩
          have e0 : (0 : Int) + (m : Int) = (m : Int) := by omega
          rw [e0]
          have hzl := hzs.len
          rw [List.length_append, List.length_map, List.length_range, ← hyl] at hzl
          have hm' : m < 100 := by have := hok1.sz1; omega
          have hu3 : H3 u = some (.lst (q.map nat)) := k3 _ _ hu (by simp)
          refine ⟨_, rfl, .inl ⟨rfl, _, SqL.of hg3⟩, _, rfl, _, rfl, And.intro (by show 1 ≤ sizeLine; decide) <| fun s1 ns1 => ?_⟩
          have ks : Keep [] H3 (upd H3 s1 (.lst [.int (m : Int)])) := Keep.new ns1
          refine ⟨u, s1, _, _, rfl, rfl, ks _ _ hu3 (by simp), upd_same, smallM (by rw [List.length_map]; simp; omega), fun r nr => ?_⟩
          have kr := ks.then_new (o := .lst (q.map nat ++ [.int (m : Int)])) nr
          have hg4 := kr _ _ hg3 (by simp)
          have nrg : r ≠ g := (ne_of_none (ks _ _ hg3 (by simp)) nr).symm
          refine ⟨_, _, _, rfl, rfl, hg4, smallL (by omega), zs ++ [.ref r], _, rfl, upd_same, ?_, (k3.trans kr).then_own ng, fun w hw => ?_, fun w hw => ?_⟩
          · rw [List.range_succ, List.map_append, ← List.append_assoc]
            refine PLs.snoc ?_ ?_
            · refine (hzs.keep kr).own (fun b o hb nb => by rw [upd_ne nb]; exact hb) hne3
            · show (upd _ g _) r = _
              rw [upd_ne nrg, upd_same, List.map_append]; rfl
          · rcases List.mem_append.mp hw with hw | hw
            · exact hne3 w hw
            · rw [V.ref.inj (List.mem_singleton.mp hw)]; exact nrg
          · rcases List.mem_append.mp hw with hw | hw
            · exact fr3 w hw
            · rw [V.ref.inj (List.mem_singleton.mp hw)]; exact (k1.trans (k3.trans ks)).free nr
        · rintro σ H3 ⟨zs, o5, rfl, hg3, hzs, k3, hne3, fr3⟩
          refine ⟨zs, _, _, rfl, hg3, ?_, k3, hne3, fr3⟩
          rw [etj, List.flatMap_append]
          rw [Int.toNat_natCast] at hzs
          simpa [ext1] using hzs
      · rintro σ H2 ⟨ys, o4, o5, rfl, hg, hys, k2, hne, fr2⟩
        rw [hll, List.take_length] at hys
        exact ⟨_, rfl, g, ys, _, _, _, _, rfl, ng0, hg, hys, k1.trans k2, fr2⟩
    · rintro σ H1 ⟨l, xs, o2, o3, o4, o5, rfl, nl, hl, hpl, k1, fr⟩
      rw [hlS, List.take_length] at hpl
      exact ⟨_, rfl, k l xs _ nl hl hpl fr k1⟩
theorem ok_view {f : Addr} {fd : FuncData} (D : C8.Def K mg "_law_view" s_law_view f fd) (b : Binds K fd ["stages", "path", "player"] []) (T : Txt K mg C_Ratio C_Plan) : C8.Cal P w K mg base 1 "_law_view" sp_view [] := by
  refine cal0 D b .nil sc_law_view (fun vs H Q E h => ?_) (fun cdv A outer s H vs Q E hr h => ?_)
  · obtain ⟨a, c, S, p, pl, rfl, _⟩ := h
    rfl
  · obtain ⟨a, c, S, p, pl, rfl, hS, hok, hp, hlen, k⟩ := h
    refine ⟨_, (pss_cons (ps_set (i := 3) sc_law_view.nd rfl (by first | exact Or.inl rfl | exact Or.inr rfl) (pe_tup (pa_cons (pe_tup (pa_cons pe_str (pa_cons pe_int pa_nil))) pa_nil)))
(pss_cons (ps_set (i := 4) sc_law_view.nd rfl (by first | exact Or.inl rfl | exact Or.inr rfl) pe_int)
(pss_cons (ps_set (i := 5) sc_law_view.nd rfl (by first | exact Or.inl rfl | exact Or.inr rfl) pe_int)
(pss_cons (ps_for PassesOwn.never rfl (pi_range1 (by rfl) T.n_range (pa_cons (pe_callB call_len_seq (by rfl) T.n_len bo_len (pa_cons (pv 1) pa_nil)) pa_nil)) (pg_name (i := 6) sc_law_view.nd rfl (by first | exact Or.inl rfl | exact Or.inr rfl))
  (pss_cons (ps_set (i := 7) sc_law_view.nd rfl (by first | exact Or.inl rfl | exact Or.inr rfl) (pe_ix ix_list (pv 0) (pv 6) (fun _ _ => rfl)))
  (pss_cut (ps_if (PW.pt (pw_and (pt_cmpR op_gt (pv 6) pe_int (nomark _)) (pw_and1 (pt_val (pe_ix ix_tup (pv 7) pe_int (fun _ _ => rfl))))))
    (pss_cons (ps_set (i := 5) sc_law_view.nd rfl (by first | exact Or.inl rfl | exact Or.inr rfl) (pe_op op_add (pv 5) pe_int))
    (pss_one (ps_set (i := 3) sc_law_view.nd rfl (by first | exact Or.inl rfl | exact Or.inr rfl) (pe_op op_catA (pv 3) (pe_tup (pa_cons (pe_tup (pa_cons pe_str (pa_cons (pv 5) pa_nil))) pa_nil))))))
    pss_nil)
  (pss_cut (ps_if (pt_cmpR op_eq (pe_ix ix_tup (pv 7) pe_int (fun _ _ => rfl)) (pv 2) (nomark _))
    (pss_one (ps_set (i := 3) sc_law_view.nd rfl (by first | exact Or.inl rfl | exact Or.inr rfl) (pe_op op_catA (pv 3) (pe_tup (pa_cons (pe_tup (pa_cons pe_str (pa_cons (pv 4) (pa_cons (pe_ix ix_tup (pv 7) pe_int (fun _ _ => rfl)) pa_nil)))) (pa_cons (pe_tup (pa_cons pe_str (pa_cons (pe_ix ix_list (pv 1) (pv 6) (fun _ _ => rfl)) pa_nil))) pa_nil))))))
    pss_nil)
  (pss_cut (ps_if (pt_cmpR op_ne (pe_ix ix_tup (pv 7) pe_int (fun _ _ => rfl)) pe_int (nomark _))
    (pss_one (ps_set (i := 4) sc_law_view.nd rfl (by first | exact Or.inl rfl | exact Or.inr rfl) (pe_op op_add (pv 4) pe_int)))
    pss_nil)
  (pss_one (ps_if (PW.pt (pw_or (pt_cmpR op_eq (pe_ix ix_tup (pv 7) pe_int (fun _ _ => rfl)) (pv 2) (nomark _)) (pw_or1 (pt_cmpR op_eq (pe_ix ix_tup (pv 7) pe_int (fun _ _ => rfl)) pe_int (nomark _)))))
    (pss_one (ps_set (i := 3) sc_law_view.nd rfl (by first | exact Or.inl rfl | exact Or.inr rfl) (pe_op op_catA (pv 3) (pe_tup (pa_cons (pe_tup (pa_cons pe_str (pa_cons (pe_ix ix_list (pv 1) (pv 6) (fun _ _ => rfl)) pa_nil))) pa_nil)))))
    pss_nil)))))))
(pss_one (ps_ret (pv 3))))))), ?_⟩
    refine And.intro (by show 2 ≤ sizeLine; decide) <| fun t0 n0 => And.intro (by show 1 ≤ sizeLine; decide) <| fun v0 nv0 => ?_
    have k0 : Keep [] H (upd (upd H t0 (.tup [.str "round", .int 0])) v0 (.tup [.ref t0])) := (Keep.new n0).then_new nv0
    have hv0 : TD (upd (upd H t0 (.tup [.str "round", .int 0])) v0 (.tup [.ref t0])) (.ref v0) (dView (vw S pl p 0)) := .tup upd_same (.cons (.tup (Keep.new (W := []) nv0 _ _ upd_same (by simp)) (.cons (.str _) (.cons (.int _) .nil))) .nil)
    generalize upd (upd H t0 (.tup [.str "round", .int 0])) v0 (.tup [.ref t0]) = H0 at *
    have hp0 := k0 _ _ hp (by simp)
    have hl4 := hok.len
    refine ⟨_, rfl, _, _, rfl, .inl (SqL.of hp0), _, rfl, by rw [List.length_map]; omega, by rw [List.length_map]; omega, ?_⟩
    rw [List.length_map]
    refine for_range (lo := 0) (n := p.length) (fun i σ H' => ∃ (v : V) (o6 o7 : Option V), σ = [some (.ref a), some (.ref c), some (.int pl), some v, some (.int (nm S i)), some (.int (rn S i)), o6, o7] ∧ TD H' v (dView (vw S pl p i)) ∧ Keep [] H H') ⟨_, none, none, rfl, hv0, k0⟩ ?_ ?_
    · rintro i σ H1 hi ⟨v, o6, o7, rfl, hv, k1⟩
      have e0 : (0 : Int) + (i : Int) = (i : Int) := by omega
      rw [e0]
      obtain ⟨xs, hxs, hSL⟩ := id hS
      obtain ⟨t, ht1, ht0⟩ := hSL.get (i := i) (by omega)
      refine ⟨_, rfl, _, rfl, _, _, _, _, rfl, rfl, SqL.of (k1 _ _ hxs (by simp)), atI_nat ht1, ?_⟩
      generalize hst : stg S i = st at ht0
      have ht2 := k1 _ _ ht0 (by simp)
      have hvl := vw_len S pl p i
      -- a round
      refine ⟨fun σ H' => ∃ v', σ = [some (.ref a), some (.ref c), some (.int pl), some v', some (.int (nm S i)), some (.int (rn S (i + 1))), some (.int (i : Int)), some (.ref t)] ∧ TD H' v' (dView (vw S pl p i ++ rdE S i)) ∧ Keep [] H H', ?_, ?_⟩
      · have ern : rn S (i + 1) = rn S i + (if 0 < i ∧ (stg S i).rd = true then 1 else 0) := rfl
        have no : ¬ (0 < i ∧ (stg S i).rd = true) → ∃ v', [some (V.ref a), some (V.ref c), some (V.int pl), some v, some (V.int (nm S i)), some (V.int (rn S i)), some (V.int (i : Int)), some (V.ref t)] = [some (.ref a), some (.ref c), some (.int pl), some v', some (.int (nm S i)), some (.int (rn S (i + 1))), some (.int (i : Int)), some (.ref t)] ∧ TD H1 v' (dView (vw S pl p i ++ rdE S i)) ∧ Keep [] H H1 := fun h => by
          unfold rdE
          rw [ern, if_neg h, if_neg h, Int.add_zero, List.append_nil]
          exact ⟨_, rfl, hv, k1⟩
        refine ⟨_, rfl, _, _, rfl, rfl, _, rfl, iteD (fun h0 => ?_) (fun h0 => no fun z => h0 (by omega))⟩
        refine ⟨_, rfl, _, _, _, _, rfl, rfl, SqT.of ht2, rfl, _, rfl, iteB (fun h1 => ?_) (fun h1 => no fun z => by rw [hst, h1] at z; cases z.2)⟩
        have yes : 0 < i ∧ (stg S i).rd = true := ⟨by omega, by rw [hst]; exact h1⟩
        refine ⟨_, rfl, _, _, rfl, rfl, _, rfl, _, rfl, And.intro (by show 2 ≤ sizeLine; decide) <| fun u1 m1 => And.intro (by show 1 ≤ sizeLine; decide) <| fun u2 m2 => ?_⟩
        have kk := ((Keep.new (W := []) (o := .tup [.str "round", .int (rn S i + 1)]) m1).then_new (o := .tup [.ref u1]) m2)
        refine add_evs (M := [("round", [rn S i + 1])]) (hv.tk kk.tk) upd_same (.cons (.tup (Keep.new (W := []) m2 _ _ upd_same (by simp)) (.cons (.str _) (td_ints [_]))) .nil) (by simp; omega) fun q H2 k2 hq => ?_
        refine ⟨.ref q, ?_, ?_, (k1.trans kk).trans k2⟩
        · rw [ern, if_pos yes]; rfl
        · unfold rdE
          rw [if_pos yes, ern, if_pos yes]; exact hq
      rintro σ H2 ⟨v2, rfl, hv2, k2⟩
      have ht3 := k2 _ _ ht0 (by simp)
      have hl2 : (vw S pl p i ++ rdE S i).length ≤ 2 + 4 * i := by
        unfold rdE
        rw [List.length_append]
        split <;> simp <;> omega
      have vwS : vw S pl p (i + 1) = ((vw S pl p i ++ rdE S i) ++ (if st.pl = pl then [(("move" : Str), [nm S i, (st.sz : Int)]), (("did" : Str), [((p.getD i 0 : Nat) : Int)])] else [])) ++ (if st.sh = pl ∨ st.sh = 3 then [(("told" : Str), [tl st.sz (p.getD i 0)])] else []) := by
        subst hst; rfl
      have hpi : i < p.length := hi
      have hpat : (p.map nat)[i]? = some (nat (p.getD i 0)) := by
        rw [List.getElem?_map, List.getElem?_eq_getElem hpi, List.getD_eq_getElem?_getD, List.getElem?_eq_getElem hpi]; rfl
      generalize p.getD i 0 = x at vwS hpat
      -- an own move
      refine ⟨fun σ H' => ∃ v', σ = [some (.ref a), some (.ref c), some (.int pl), some v', some (.int (nm S i)), some (.int (rn S (i + 1))), some (.int (i : Int)), some (.ref t)] ∧ TD H' v' (dView ((vw S pl p i ++ rdE S i) ++ (if st.pl = pl then [(("move" : Str), [nm S i, (st.sz : Int)]), (("did" : Str), [((x : Nat) : Int)])] else []))) ∧ Keep [] H H', ?_, ?_⟩
      · refine ⟨_, rfl, _, _, _, _, rfl, rfl, SqT.of ht3, rfl, _, rfl, rfl, _, rfl, iteD (fun h => ?_) (fun h => ?_)⟩
        · have hpl : st.pl = pl := by have := V.int.inj h; omega
          rw [if_pos hpl]
          have hpc2 := k2 _ _ hp (by simp)
          refine ⟨_, rfl, _, rfl, _, rfl, _, _, _, _, rfl, rfl, SqT.of ht3, rfl, And.intro (by show 3 ≤ sizeLine; decide) <| fun u1 m1 => ?_⟩
          have kk1 := Keep.new (W := []) (o := .tup [.str "move", .int (nm S i), .int (st.sz : Int)]) m1
          refine ⟨_, rfl, _, rfl, _, _, _, _, rfl, rfl, SqL.of (kk1 _ _ hpc2 (by simp)), atI_nat hpat, And.intro (by show 2 ≤ sizeLine; decide) <| fun u2 m2 => And.intro (by show 2 ≤ sizeLine; decide) <| fun u3 m3 => ?_⟩
          have kk2 := Keep.new (W := []) (o := .tup [.str "did", .int (x : Int)]) m2
          have kk3 := Keep.new (W := []) (o := .tup [.ref u1, .ref u2]) m3
          have kk := (kk1.trans kk2).trans kk3
          refine add_evs (M := [(("move" : Str), [nm S i, (st.sz : Int)]), (("did" : Str), [((x : Nat) : Int)])]) (hv2.tk kk.tk) upd_same (.cons (.tup (kk3 _ _ (kk2 _ _ upd_same (by simp)) (by simp)) (.cons (.str _) (td_ints [_, _]))) (.cons (.tup (kk3 _ _ upd_same (by simp)) (.cons (.str _) (td_ints [_]))) .nil)) (by simp only [List.length_cons, List.length_nil]; omega) fun q H3 k3 hq => ?_
          exact ⟨.ref q, rfl, hq, (k2.trans kk).trans k3⟩
        · have hpl : ¬ st.pl = pl := fun z => h (by rw [z])
          rw [if_neg hpl, List.append_nil]
          exact ⟨v2, rfl, hv2, k2⟩
      rintro σ H3 ⟨v3, rfl, hv3, k3⟩
      have ht4 := k3 _ _ ht0 (by simp)
      have hl3 : ((vw S pl p i ++ rdE S i) ++ (if st.pl = pl then [(("move" : Str), [nm S i, (st.sz : Int)]), (("did" : Str), [((x : Nat) : Int)])] else [])).length ≤ 4 + 4 * i := by
        rw [List.length_append]
        split <;> simp only [List.length_cons, List.length_nil] <;> omega
      generalize hG : ((vw S pl p i ++ rdE S i) ++ (if st.pl = pl then [(("move" : Str), [nm S i, (st.sz : Int)]), (("did" : Str), [((x : Nat) : Int)])] else [])) = G at vwS hv3 hl3
      -- the number of moves
      refine ⟨fun σ H' => H' = H3 ∧ σ = [some (.ref a), some (.ref c), some (.int pl), some v3, some (.int (nm S (i + 1))), some (.int (rn S (i + 1))), some (.int (i : Int)), some (.ref t)], ?_, ?_⟩
      · have en : nm S (i + 1) = nm S i + (if st.pl ≠ 0 then 1 else 0) := by subst hst; rfl
        refine ⟨_, rfl, _, _, _, _, rfl, rfl, SqT.of ht4, rfl, rfl, _, rfl, iteN (fun h => ?_) (fun h => ?_)⟩
        · refine ⟨_, rfl, _, _, rfl, rfl, rfl, ?_⟩
          rw [en, if_pos (fun z => h (by rw [z]; rfl))]; rfl
        · refine ⟨rfl, ?_⟩
          have : ¬ st.pl ≠ 0 := fun z => z (by have := V.int.inj h; omega)
          rw [en, if_neg this, Int.add_zero]
      rintro σ H4 ⟨rfl, rfl⟩
      -- a number told
      rw [vwS]
      have ht5 := k3 _ _ ht0 (by simp)
      have hpc3 := k3 _ _ hp (by simp)
      have stay : ¬ (st.sh = pl ∨ st.sh = 3) → ∃ (v' : V) (o6 o7 : Option V), [some (V.ref a), some (V.ref c), some (V.int pl), some v3, some (V.int (nm S (i + 1))), some (V.int (rn S (i + 1))), some (V.int (i : Int)), some (V.ref t)] = [some (.ref a), some (.ref c), some (.int pl), some v', some (.int (nm S (i + 1))), some (.int (rn S (i + 1))), o6, o7] ∧ TD H4 v' (dView (G ++ (if st.sh = pl ∨ st.sh = 3 then [(("told" : Str), [tl st.sz x])] else []))) ∧ Keep [] H H4 := fun hs => by
        rw [if_neg hs, List.append_nil]
        exact ⟨v3, _, _, rfl, hv3, k3⟩
      have grow : (st.sh = pl ∨ st.sh = 3) → ∀ {u1 u2 : Addr} {H5 : Hp}, Keep [] H4 H5 → H5 u2 = some (.tup [.ref u1]) → H5 u1 = some (.tup [.str "told", .int (tl st.sz x)]) → rCatA K v3 (.ref u2) H5 fun v H6 => ∃ (v' : V) (o6 o7 : Option V), [some (V.ref a), some (V.ref c), some (V.int pl), some v, some (V.int (nm S (i + 1))), some (V.int (rn S (i + 1))), some (V.int (i : Int)), some (V.ref t)] = [some (.ref a), some (.ref c), some (.int pl), some v', some (.int (nm S (i + 1))), some (.int (rn S (i + 1))), o6, o7] ∧ TD H6 v' (dView (G ++ (if st.sh = pl ∨ st.sh = 3 then [(("told" : Str), [tl st.sz x])] else []))) ∧ Keep [] H H6 := fun hs {u1 u2 H5} kk g2 g1 => by
        rw [if_pos hs]
        refine add_evs (M := [(("told" : Str), [tl st.sz x])]) (hv3.tk kk.tk) g2 (.cons (.tup g1 (.cons (.str _) (td_ints [_]))) .nil) (by simp only [List.length_cons, List.length_nil]; omega) fun q H6 k6 hq => ?_
        exact ⟨.ref q, _, _, rfl, hq, (k3.trans kk).trans k6⟩
      have i3 : ∀ {z : Nat}, V.int (st.sh : Int) = V.int (z : Int) → st.sh = z := fun h => by have := V.int.inj h; omega
      refine ⟨_, rfl, _, _, _, _, rfl, rfl, SqT.of ht5, rfl, _, rfl, rfl, _, rfl, iteD (fun h => ?_) (fun h => ⟨_, rfl, _, _, _, _, rfl, rfl, SqT.of ht5, rfl, rfl, _, rfl, iteD (fun h2 => ?_) (fun h2 => stay fun z => z.elim (fun z => h (by rw [z])) (fun z => h2 (by rw [z]; rfl)))⟩)⟩
      all_goals
        first | refine ⟨_, rfl, _, rfl, _, _, _, _, rfl, rfl, SqT.of ht5, rfl, _, _, rfl, rfl, _, rfl, _, rfl, _, _, _, _, rfl, rfl, SqL.of hpc3, atI_nat hpat, _, _, rfl, rfl, And.intro (by show 2 ≤ sizeLine; decide) <| fun u1 m1 => And.intro (by show 1 ≤ sizeLine; decide) <| fun u2 m2 => ?_⟩ | refine ⟨_, rfl, _, rfl, _, rfl, _, _, _, _, rfl, rfl, SqL.of hpc3, atI_nat hpat, And.intro (by show 2 ≤ sizeLine; decide) <| fun u1 m1 => And.intro (by show 1 ≤ sizeLine; decide) <| fun u2 m2 => ?_⟩
        have kk1 := Keep.new (W := []) (o := .tup [.str "told", .int (tl st.sz x)]) m1
        have kk2 := Keep.new (W := []) (o := .tup [.ref u1]) m2
        exact grow (by first | exact .inl (i3 h) | exact .inr (i3 (z := 3) h2)) (kk1.trans kk2) upd_same (kk2 _ _ upd_same (by simp))
    · rintro σ H' ⟨v, o6, o7, rfl, hv, kk⟩
      exact ⟨_, rfl, k _ _ hv kk⟩
theorem rn_sum (S : List Stg) : ∀ n, ((List.range n).map fun j => (if (stg S (j + 1)).rd = true then (1 : Int) else 0)).sum = rn S (n + 1)
  | 0 => rfl
  | n + 1 => by
    rw [List.range_succ, List.map_append, List.sum_append, rn_sum S n]
    show rn S (n + 1) + ((if (stg S (n + 1)).rd = true then (1 : Int) else 0) + 0) = rn S (n + 1) + (if 0 < n + 1 ∧ (stg S (n + 1)).rd = true then 1 else 0)
    have : (0 < n + 1 ∧ (stg S (n + 1)).rd = true) ↔ (stg S (n + 1)).rd = true := ⟨fun h => h.2, fun h => ⟨by omega, h⟩⟩
    simp only [this, Int.add_zero]
theorem cut_take {p : List Nat} {k : Nat} (h : k ≤ p.length) : cutV (p.map nat) none (some (k : Int)) = (p.take k).map nat := by
  show ((p.map nat).drop (HT.sIx (p.map nat).length 0 none)).take (HT.sIx (p.map nat).length (p.map nat).length (some (k : Int)) - HT.sIx (p.map nat).length 0 none) = _
  rw [HT.sIx_none, HT.sIx_nat, List.drop_zero, Nat.sub_zero, List.length_map, Nat.min_eq_left h, List.map_take]
theorem ok_asked {f : Addr} {fd : FuncData} (D : C8.Def K mg "_law_asked" s_law_asked f fd) (b : Binds K fd ["stages", "path"] []) (T : Txt K mg C_Ratio C_Plan) (c_law_view : C8.Cal P w K mg base 1 "_law_view" sp_view []) : C8.Cal P w K mg base 2 "_law_asked" sp_asked [] := by
  refine cal0 D b .nil sc_law_asked (fun vs H Q E h => ?_) (fun cdv A outer s H vs Q E hr h => ?_)
  · obtain ⟨a, c, S, p, rfl, _⟩ := h
    rfl
  · obtain ⟨a, c, S, p, rfl, hS, hok, hp, hlen, k⟩ := h
    refine ⟨_, (pss_cons (ps_set (i := 2) sc_law_asked.nd rfl (by first | exact Or.inl rfl | exact Or.inr rfl) pe_int)
(pss_cons (ps_for PassesOwn.never rfl (pi_range1 (by rfl) T.n_range (pa_cons (pe_callB call_len_seq (by rfl) T.n_len bo_len (pa_cons (pv 1) pa_nil)) pa_nil)) (pg_name (i := 3) sc_law_asked.nd rfl (by first | exact Or.inl rfl | exact Or.inr rfl))
  (pss_one (ps_set (i := 2) sc_law_asked.nd rfl (by first | exact Or.inl rfl | exact Or.inr rfl) (pe_op op_add (pv 2) (pe_callTy call_int1 (by rfl) T.n_int bo_int (pa_cons (pe_cmpR op_ne (pe_ix ix_tup (pe_ix ix_list (pv 0) (pv 3) (fun _ _ => rfl)) pe_int (fun _ _ => rfl)) pe_int (nomark _)) pa_nil))))))
(pss_cons (ps_set (i := 4) sc_law_asked.nd rfl (by first | exact Or.inl rfl | exact Or.inr rfl) (pe_ix ix_list (pv 0) (pe_callB call_len_seq (by rfl) T.n_len bo_len (pa_cons (pv 1) pa_nil)) (fun _ _ => rfl)))
(pss_cons (ps_set (i := 5) sc_law_asked.nd rfl (by first | exact Or.inl rfl | exact Or.inr rfl) (pe_c c_law_view hr (by first | exact Nat.le_refl _ | decide | omega) rfl (pa_cons (pv 0) (pa_cons (pv 1) (pa_cons (pe_ix ix_tup (pv 4) pe_int (fun _ _ => rfl)) pa_nil)))))
(pss_cut (ps_if (PW.pt (pw_and (pt_cmpR op_gt (pe_callB call_len_seq (by rfl) T.n_len bo_len (pa_cons (pv 1) pa_nil)) pe_int (nomark _)) (pw_and1 (pt_val (pe_ix ix_tup (pv 4) pe_int (fun _ _ => rfl))))))
  (pss_one (ps_set (i := 5) sc_law_asked.nd rfl (by first | exact Or.inl rfl | exact Or.inr rfl) (pe_op op_catA (pv 5) (pe_tup (pa_cons (pe_tup (pa_cons pe_str (pa_cons (pe_callB (cr_sum rfl) (by rfl) T.n_sum bo_sum (pa_cons (pe_lc (own := [("k", 3)]) (g := gName 3) (tt := tYes) rfl sc_law_asked.nd (pi_range2 (by rfl) T.n_range (pa_cons pe_int (pa_cons (pe_op op_add (pe_callB call_len_seq (by rfl) T.n_len bo_len (pa_cons (pv 1) pa_nil)) pe_int) pa_nil))) (blkOk_by (N := ["stages", "path", "number", "k", "stage", "view"]) (sc := fnScope s_law_asked) (by decide +kernel)) (fun _ _ _ _ _ => pg_name (i := 3) sc_law_asked.nd rfl (by first | exact Or.inl rfl | exact Or.inr rfl)) (fun _ _ _ _ _ => pts_nil) (fun _ _ _ _ _ => (pe_callTy call_int1 (by rfl) T.n_int bo_int (pa_cons (pe_ix (ix_tupK (K := K)) (pe_ix (ix_listK (K := K)) (pv 0) (pv 3) (fun _ _ => rfl)) pe_int (fun _ _ => rfl)) pa_nil)))) pa_nil)) pa_nil))) pa_nil)))))
  pss_nil)
(pss_one (ps_ret (pe_op op_catA (pv 5) (pe_tup (pa_cons (pe_tup (pa_cons pe_str (pa_cons (pv 2) (pa_cons (pe_ix ix_tup (pv 4) pe_int (fun _ _ => rfl)) pa_nil)))) pa_nil)))))))))), ?_⟩
    obtain ⟨vs, hvs, hSL⟩ := id hS
    have hl4 := hok.len
    have hpl : (p.map nat).length = p.length := List.length_map _
    refine ⟨_, rfl, _, _, rfl, .inl (SqL.of hp), _, rfl, by omega, by omega, ?_⟩
    rw [hpl]
    refine for_range (lo := 0) (n := p.length) (fun i σ H' => H' = H ∧ ∃ o3, σ = [some (.ref a), some (.ref c), some (.int (nm S i)), o3, none, none]) ⟨rfl, none, rfl⟩ ?_ ?_
    · rintro i σ H' hi ⟨rfl, o3, rfl⟩
      have e0 : (0 : Int) + (i : Int) = (i : Int) := by omega
      rw [e0]
      obtain ⟨t, ht1, ht0⟩ := hSL.get (i := i) (by omega)
      refine ⟨_, rfl, _, rfl, _, rfl, _, _, _, _, rfl, rfl, SqL.of hvs, atI_nat ht1, _, _, _, _, rfl, rfl, SqT.of ht0, rfl, rfl, .inr ⟨_, rfl, _, _, rfl, rfl, rfl, some (.int (i : Int)), ?_⟩⟩
      have en : nm S (i + 1) = nm S i + (if (stg S i).pl ≠ 0 then 1 else 0) := rfl
      have e : (if (!decide (V.int ((stg S i).pl : Int) = V.int 0)) = true then (1 : Int) else 0) = (if (stg S i).pl ≠ 0 then 1 else 0) := by
        by_cases h : (stg S i).pl = 0
        · rw [h]; rfl
        · have : ¬ V.int ((stg S i).pl : Int) = V.int 0 := fun z => h (by have := V.int.inj z; omega)
          rw [decide_eq_false this, if_pos h]; rfl
      rw [e, en]; rfl
    · rintro σ H' ⟨rfl, o3, rfl⟩
      obtain ⟨t, ht1, ht0⟩ := hSL.get (i := p.length) hlen
      refine ⟨_, rfl, _, rfl, _, _, rfl, .inl (SqL.of hp), _, _, _, _, rfl, rfl, SqL.of hvs, atI_nat (by rw [hpl]; exact ht1), ?_⟩
      refine ⟨_, rfl, _, rfl, _, rfl, _, _, _, _, rfl, rfl, SqT.of ht0, rfl, a, c, S, p, (stg S p.length).pl, rfl, hS, hok, hp, by omega, fun v H1 hv K1 => ?_⟩
      have hvl := vw_len S (stg S p.length).pl p p.length
      have ht1' := K1 _ _ ht0 (by simp)
      generalize hst : stg S p.length = st at *
      refine ⟨fun σ H2 => ∃ v', σ = [some (.ref a), some (.ref c), some (.int (nm S p.length)), o3, some (.ref t), some v'] ∧ TD H2 v' (dView (vw S st.pl p p.length ++ rdE S p.length)) ∧ Keep [] H' H2, ?_, ?_⟩
      · have no : ¬ (0 < p.length ∧ st.rd = true) → ∃ v', [some (V.ref a), some (V.ref c), some (V.int (nm S p.length)), o3, some (V.ref t), some v] = [some (.ref a), some (.ref c), some (.int (nm S p.length)), o3, some (.ref t), some v'] ∧ TD H1 v' (dView (vw S st.pl p p.length ++ rdE S p.length)) ∧ Keep [] H' H1 := fun h => by
          unfold rdE
          rw [hst, if_neg h, List.append_nil]
          exact ⟨_, rfl, hv, K1⟩
        refine ⟨_, rfl, _, _, rfl, .inl (SqL.of (K1 _ _ hp (by simp))), _, _, rfl, rfl, _, rfl, iteD (fun h0 => ?_) (fun h0 => no fun z => h0 (by rw [hpl]; omega))⟩
        refine ⟨_, rfl, _, _, _, _, rfl, rfl, SqT.of ht1', rfl, _, rfl, iteB (fun h1 => ?_) (fun h1 => no fun z => by rw [h1] at z; cases z.2)⟩
        have yes : 0 < p.length ∧ st.rd = true := ⟨by omega, h1⟩
        refine ⟨_, rfl, _, rfl, _, _, rfl, .inl (SqL.of (K1 _ _ hp (by simp))), _, _, rfl, rfl, _, _, rfl, ⟨by decide, by decide, by rw [hpl]; omega, by rw [hpl]; omega⟩, fun L nL => ?_⟩
        have en : ((((p.map nat).length : Nat) : Int) + 1 - 1).toNat = p.length := by rw [hpl]; omega
        rw [en]
        have nL0 := K1.free nL
        refine lc_range (lo := 1) (n := p.length) (fun j H2 => H2 L = some (.lst (((List.range j).map fun j => (if (stg S (j + 1)).rd = true then (1 : Int) else 0)).map V.int)) ∧ Keep [] H1 H2) ⟨upd_same, Keep.new nL⟩ ?_ ?_
        · rintro j H2 hj ⟨hD, k2⟩
          obtain ⟨t2, ht21, ht20⟩ := hSL.get (i := j + 1) (by omega)
          have kk := K1.trans k2
          have e1 : (1 : Int) + (j : Int) = ((j + 1 : Nat) : Int) := by omega
          rw [e1]
          refine ⟨rfl, yes_then ⟨_, rfl, _, rfl, _, _, _, _, rfl, rfl, SqL.of (kk _ _ hvs (by simp)), atI_nat ht21, _, _, _, _, rfl, rfl, SqT.of (kk _ _ ht20 (by simp)), rfl, .inr ⟨_, rfl, _, hD, by rw [List.length_map, List.length_map, List.length_range]; exact smallL (by omega), ?_, k2.then_own nL⟩⟩⟩
          rw [upd_same, List.range_succ, List.map_append, List.map_append]; rfl
        · rintro H2 ⟨hD, k2⟩
          refine ⟨L, _, rfl, SqL.of hD, And.intro (by show 2 ≤ sizeLine; decide) <| fun u1 m1 => And.intro (by show 1 ≤ sizeLine; decide) <| fun u2 m2 => ?_⟩
          have ers := rn_sum S p.length
          generalize ((List.range p.length).map fun j => (if (stg S (j + 1)).rd = true then (1 : Int) else 0)).sum = rr at *
          subst ers
          have kk := (Keep.new (W := []) (o := .tup [.str "round", .int (rn S (p.length + 1))]) m1).then_new (o := .tup [.ref u1]) m2
          refine add_evs (M := [(("round" : Str), [rn S (p.length + 1)])]) ((hv.tk k2.tk).tk kk.tk) upd_same (.cons (.tup (Keep.new (W := []) m2 _ _ upd_same (by simp)) (.cons (.str _) (td_ints [_]))) .nil) (by simp only [List.length_cons, List.length_nil]; omega) fun q H3 k3 hq => ?_
          refine ⟨.ref q, rfl, ?_, ((K1.trans k2).trans kk).trans k3⟩
          unfold rdE
          rw [hst, if_pos yes]; exact hq
      rintro σ H2 ⟨v2, rfl, hv2, K2⟩
      have ht2 := K2 _ _ ht0 (by simp)
      have hl2 : (vw S st.pl p p.length ++ rdE S p.length).length ≤ 2 + 4 * p.length := by
        unfold rdE
        rw [List.length_append]
        split <;> simp only [List.length_cons, List.length_nil] <;> omega
      refine ⟨_, rfl, _, rfl, _, rfl, _, _, _, _, rfl, rfl, SqT.of ht2, rfl, And.intro (by show 3 ≤ sizeLine; decide) <| fun u1 m1 => And.intro (by show 1 ≤ sizeLine; decide) <| fun u2 m2 => ?_⟩
      have kk := (Keep.new (W := []) (o := .tup [.str "move", .int (nm S p.length), .int (st.sz : Int)]) m1).then_new (o := .tup [.ref u1]) m2
      refine add_evs (M := [(("move" : Str), [nm S p.length, (st.sz : Int)])]) (hv2.tk kk.tk) upd_same (.cons (.tup (Keep.new (W := []) m2 _ _ upd_same (by simp)) (.cons (.str _) (td_ints [_, _]))) .nil) (by simp only [List.length_cons, List.length_nil]; omega) fun q H3 k3 hq => ?_
      refine k _ _ ?_ ((K2.trans kk).trans k3)
      unfold asked
      rw [hst]; exact hq
theorem metK_len (S : List Stg) (pl : Nat) (p : List Nat) : ∀ k f, (metK S pl p k f).length ≤ f.length + k
  | 0, f => Nat.le_refl _
  | k + 1, f => by
    have := metK_len S pl p k f
    unfold metK
    split
    · unfold insR
      split
      · omega
      · rw [List.length_append]; simp; omega
    · omega
theorem metK_ok (S : List Stg) (pl : Nat) (p : List Nat) : ∀ k f, (∀ r ∈ f, ∀ e ∈ r.1, OkE e) → ∀ r ∈ metK S pl p k f, ∀ e ∈ r.1, OkE e
  | 0, f, h => h
  | k + 1, f, h => by
    have ih := metK_ok S pl p k f h
    unfold metK
    split
    · unfold insR
      split
      · exact ih
      · intro r hr
        rcases List.mem_append.mp hr with q | q
        · exact ih r q
        · rw [List.mem_singleton.mp q]; exact asked_ok S p k
    · exact ih
theorem mem_rows {f : List Row} {r : Row} (hf : ∀ r ∈ f, ∀ e ∈ r.1, OkE e) : ((f.map dRow).any fun z => PyData.eqv z (dRow r)) = decide (r ∈ f) := by
  rw [List.any_map]
  induction f with
  | nil => rfl
  | cons a l ih =>
    rw [List.any_cons, ih fun x hx => hf x (List.mem_cons_of_mem _ hx)]
    show (PyData.eqv (dRow a) (dRow r) || _) = _
    rw [eqv_row (hf a (List.mem_cons_self ..))]
    by_cases h : a = r
    · subst h; simp
    · have h' : ¬ r = a := fun z => h z.symm
      simp [h, h']
theorem TDs.map_dp {H : Hp} {K : PySem.W.Frag} {a : Addr} {xs : List V} {ds : List PyData} (h : H a = some (.lst xs)) (t : TDs H xs ds) : Dp K H (.ref a) (.list ds) := .lst (SqL.of h) t.dp
theorem ok_met {f : Addr} {fd : FuncData} (D : C8.Def K mg "_law_met" s_law_met f fd) (b : Binds K fd ["stages", "player"] []) (T : Txt K mg C_Ratio C_Plan) (c_law_paths : C8.Cal P w K mg base 1 "_law_paths" sp_paths []) (c_law_asked : C8.Cal P w K mg base 2 "_law_asked" sp_asked []) : C8.Cal P w K mg base 3 "_law_met" sp_met [] := by
  refine cal0 D b .nil sc_law_met (fun vs H Q E h => ?_) (fun cdv A outer s H vs Q E hr h => ?_)
  · obtain ⟨a, S, pl, rfl, _⟩ := h
    rfl
  · obtain ⟨a, S, pl, rfl, hS, hok, k⟩ := h
    refine ⟨_, (pss_cons (ps_set (i := 2) sc_law_met.nd rfl (by first | exact Or.inl rfl | exact Or.inr rfl) (pe_lst pa_nil))
(pss_cons (ps_for PassesOwn.never rfl (pi_list (pe_c c_law_paths hr (by first | exact Nat.le_refl _ | decide | omega) rfl (pa_cons (pv 0) pa_nil))) (pg_name (i := 3) sc_law_met.nd rfl (by first | exact Or.inl rfl | exact Or.inr rfl))
  (pss_one (ps_for PassesOwn.never rfl (pi_range1 (by rfl) T.n_range (pa_cons (pe_callB call_len_seq (by rfl) T.n_len bo_len (pa_cons (pv 0) pa_nil)) pa_nil)) (pg_name (i := 4) sc_law_met.nd rfl (by first | exact Or.inl rfl | exact Or.inr rfl))
    (pss_one (ps_if (pt_cmpR op_eq (pe_ix ix_tup (pe_ix ix_list (pv 0) (pv 4) (fun _ _ => rfl)) pe_int (fun _ _ => rfl)) (pv 1) (nomark _))
      (pss_cons (ps_set (i := 5) sc_law_met.nd rfl (by first | exact Or.inl rfl | exact Or.inr rfl) (pe_c c_law_asked hr (by first | exact Nat.le_refl _ | decide | omega) rfl (pa_cons (pv 0) (pa_cons (pe_slice sl_list (pv 3) po_none (po_some (pv 4))) pa_nil))))
      (pss_one (ps_if (pt_cmpR (op_notInD (un65 hr)) (pe_tup (pa_cons (pv 5) (pa_cons (pe_ix ix_tup (pe_ix ix_list (pv 0) (pv 4) (fun _ _ => rfl)) pe_int (fun _ _ => rfl)) pa_nil))) (pv 2) (by rfl))
        (pss_one (ps_expr (pe_bm PySem.F.plainAttrs_list PySem.F.slot_list_append PySem.F.type_list_append mt_append (pv 2) (pa_cons (pe_tup (pa_cons (pv 5) (pa_cons (pe_ix ix_tup (pe_ix ix_list (pv 0) (pv 4) (fun _ _ => rfl)) pe_int (fun _ _ => rfl)) pa_nil))) pa_nil))))
        pss_nil)))
      pss_nil)))))
(pss_one (ps_ret (pv 2))))), ?_⟩
    obtain ⟨vs, hvs, hSL⟩ := id hS
    have hl4 := hok.len
    have hlS := hSL.len
    refine And.intro (by show 0 ≤ sizeLine; decide) <| fun l nl => ?_
    have k0 : Keep [] H (upd H l (.lst [])) := Keep.new nl
    refine ⟨_, rfl, a, S, rfl, hS.keep k0, hok, fun pa ps H1 npa hpa hps fr K1 => ?_⟩
    have hpl := hps.len
    rw [paths_len] at hpl
    have hp100 := hok.prod
    have hpl' : ps.length = prodS S := by rw [hpl]; show prodS S * 1 = _; omega
    refine ⟨pa, rfl, ⟨_, SqL.of hpa⟩, for_list (K := K) (a := pa) (xs := ps) (fun i σ H' => ∃ (xs : List V) (o3 o4 o5 : Option V), σ = [some (.ref a), some (.int pl), some (.ref l), o3, o4, o5] ∧ H' l = some (.lst xs) ∧ TDs H' xs ((((paths S [[]]).take i).foldl (fun f p => metK S pl p S.length f) []).map dRow) ∧ (((paths S [[]]).take i).foldl (fun f p => metK S pl p S.length f) []).length ≤ 4 * i ∧ (∀ r ∈ ((paths S [[]]).take i).foldl (fun f p => metK S pl p S.length f) [], ∀ e ∈ r.1, OkE e) ∧ Keep [] H H' ∧ (∀ b o, H1 b = some o → b ≠ l → H' b = some o))
      ⟨[], _, _, _, rfl, K1 _ _ upd_same (by simp), .nil, Nat.le_refl _, (fun _ h => by cases h), k0.trans K1, fun b o h _ => h⟩ (fun i σ H' _ ⟨_, _, _, _, _, _, _, _, _, _, kk⟩ => SqL.of (kk _ _ hpa (ne_of_none upd_same npa).symm)) ?_ ?_⟩
    · rintro i v σ H2 hi ⟨xs, o3, o4, o5, rfl, hl, hxs, hlen, hoks, kk, kb⟩
      obtain ⟨u, p, rfl, hp, hu⟩ := hps.get hi
      have hil := (List.getElem?_eq_some_iff.mp hp).1
      have hpn : p.length = S.length := by
        have := paths_each S [[]] 0 (fun q hq => by rw [List.mem_singleton.mp hq]; rfl) p (List.mem_of_getElem? hp)
        omega
      have eti : (paths S [[]]).take (i + 1) = (paths S [[]]).take i ++ [p] := by
        rw [List.take_succ_eq_append_getElem hil]
        rw [List.getElem?_eq_getElem hil] at hp
        rw [Option.some.inj hp]
      rw [eti, List.foldl_append]
      show ∃ _, _
      generalize ((paths S [[]]).take i).foldl (fun f p => metK S pl p S.length f) [] = f0 at *
      have nul : u ≠ l := (ne_of_none upd_same (fr u (List.mem_of_getElem? hi))).symm
      have hu2 := kb _ _ hu nul
      have hib : i < 100 := by
        have := (List.getElem?_eq_some_iff.mp hi).1
        omega
      refine ⟨_, rfl, _, _, rfl, .inl (SqL.of (kk _ _ hvs (by simp))), _, rfl, by rw [hlS]; omega, by rw [hlS]; omega, ?_⟩
      rw [hlS]
      refine for_range (lo := 0) (n := S.length) (fun j σ H' => ∃ (xs : List V) (o4 o5 : Option V), σ = [some (.ref a), some (.int pl), some (.ref l), some (.ref u), o4, o5] ∧ H' l = some (.lst xs) ∧ TDs H' xs ((metK S pl p j f0).map dRow) ∧ Keep [] H H' ∧ (∀ b o, H1 b = some o → b ≠ l → H' b = some o)) ⟨xs, _, _, rfl, hl, hxs, kk, kb⟩ ?_ ?_
      · rintro j σ H3 hj ⟨xs3, o4, o5, rfl, hl3, hxs3, k3, kb3⟩
        have e0 : (0 : Int) + (j : Int) = (j : Int) := by omega
        rw [e0]
        obtain ⟨t, ht1, ht0⟩ := hSL.get hj
        have hfl := metK_len S pl p j f0
        have hfo := metK_ok S pl p j f0 hoks
        have hu3 := kb3 _ _ hu nul
        have emk : metK S pl p (j + 1) f0 = if (stg S j).pl = pl then insR (metK S pl p j f0) (asked S p j, ((stg S j).sz : Int)) else metK S pl p j f0 := rfl
        rw [emk]
        generalize metK S pl p j f0 = f1 at *
        refine ⟨_, rfl, _, rfl, _, _, _, _, rfl, rfl, SqL.of (k3 _ _ hvs (by simp)), atI_nat ht1, _, _, _, _, rfl, rfl, SqT.of (k3 _ _ ht0 (by simp)), rfl, _, rfl, rfl, _, rfl, iteD (fun h => ?_) (fun h => ?_)⟩
        rotate_left
        · have hn : ¬ (stg S j).pl = pl := fun z => h (by rw [z])
          rw [if_neg hn]
          exact ⟨xs3, _, _, rfl, hl3, hxs3, k3, kb3⟩
        have hy : (stg S j).pl = pl := by have := V.int.inj h; omega
        rw [if_pos hy]
        refine ⟨_, rfl, _, rfl, _, rfl, _, rfl, _, _, rfl, SqL.of hu3, fun q nq => ?_⟩
        rw [cut_take (by omega)]
        have kq : Keep [] H3 (upd H3 q (.lst ((p.take j).map nat))) := Keep.new nq
        have hpj : (p.take j).length = j := by rw [List.length_take]; omega
        refine ⟨a, q, S, p.take j, rfl, hS.keep (k3.trans kq), hok, upd_same, by rw [hpj]; exact hj, fun v4 H4 hv4 K4 => ?_⟩
        rw [hpj, asked_take] at hv4
        have kq4 : Keep [] H3 H4 := kq.trans K4
        have hl44 := kq4 _ _ hl3 (by simp)
        have k4 := k3.trans kq4
        refine ⟨_, rfl, _, rfl, _, rfl, _, _, _, _, rfl, rfl, SqL.of (k4 _ _ hvs (by simp)), atI_nat ht1, _, _, _, _, rfl, rfl, SqT.of (k4 _ _ ht0 (by simp)), rfl, And.intro (by show 2 ≤ sizeLine; decide) <| fun t5 nt5 => ?_⟩
        have k5 : Keep [] H4 (upd H4 t5 (.tup [v4, .int ((stg S j).sz : Int)])) := Keep.new nt5
        have hr5 : TD (upd H4 t5 (.tup [v4, .int ((stg S j).sz : Int)])) (.ref t5) (dRow (asked S p j, ((stg S j).sz : Int))) := .tup upd_same (.cons (hv4.tk k5.tk) (.cons (.int _) .nil))
        have hx5 := (hxs3.tk kq4.tk).tk k5.tk
        have hro : ∀ e ∈ (asked S p j, ((stg S j).sz : Int)).1, OkE e := asked_ok S p j
        refine ⟨_, rfl, _, _, hr5.dp, hx5.map_dp (k5 _ _ hl44 (by simp)), shaped_row hro, shaped_list (fun d hd => ?_) (fun d hd => ?_), _, rfl, ?_⟩
        · obtain ⟨r, hr, rfl⟩ := List.mem_map.mp hd
          exact shaped_row (hfo r hr)
        · obtain ⟨r, hr, rfl⟩ := List.mem_map.mp hd
          exact depth_row r
        rw [mem_rows hfo]
        unfold insR
        have kb5 : ∀ b o, H1 b = some o → b ≠ l → upd H4 t5 (.tup [v4, .int ((stg S j).sz : Int)]) b = some o := fun b o hb nb => k5 _ _ (kq4 _ _ (kb3 _ _ hb nb) (by simp)) (by simp)
        refine iteN (fun hm => ?_) (fun hm => ?_)
        · rw [if_neg hm]
          have k35 := kq4.trans k5
          have k05 := k3.trans k35
          refine ⟨_, rfl, .inl ⟨rfl, _, SqL.of (k5 _ _ hl44 (by simp))⟩, _, rfl, _, rfl, _, rfl, _, _, _, _, rfl, rfl, SqL.of (k05 _ _ hvs (by simp)), atI_nat ht1, _, _, _, _, rfl, rfl, SqT.of (k05 _ _ ht0 (by simp)), rfl, And.intro (by show 2 ≤ sizeLine; decide) <| fun t6 nt6 => ?_⟩
          have k6 := Keep.new (W := []) (o := .tup [v4, .int ((stg S j).sz : Int)]) nt6
          have hl6 := k6 _ _ (k5 _ _ hl44 (by simp)) (by simp)
          have hxl := hxs3.length
          rw [List.length_map] at hxl
          have tk6 := k6.tk.trans (TK.lst (o := .lst (xs3 ++ [.ref t6])) hl6)
          refine ⟨_, _, _, rfl, rfl, hl6, smallL (by omega), xs3 ++ [.ref t6], _, _, rfl, upd_same, ?_, (k05.trans k6).then_own nl, fun b o hb nb => by rw [upd_ne nb]; exact k6 _ _ (kb5 b o hb nb) (by simp)⟩
          rw [List.map_append]
          refine (hx5.tk tk6).snoc (.tup ?_ (.cons ((hv4.tk k5.tk).tk tk6) (.cons (.int _) .nil)))
          rw [upd_ne (ne_of_none (k5 _ _ hl44 (by simp)) nt6).symm]; exact upd_same
        · have hm' : (asked S p j, ((stg S j).sz : Int)) ∈ f1 := hm
          rw [if_pos hm']
          exact ⟨xs3, _, _, rfl, k5 _ _ hl44 (by simp), hx5, k4.trans k5, kb5⟩
      · rintro σ H3 ⟨xs3, o4, o5, rfl, hl3, hxs3, k3, kb3⟩
        have hfl := metK_len S pl p S.length f0
        exact ⟨xs3, _, _, _, rfl, hl3, hxs3, by show (metK S pl p S.length f0).length ≤ _; omega, metK_ok S pl p S.length f0 hoks, k3, kb3⟩
    · rintro σ H2 ⟨xs, o3, o4, o5, rfl, hl, hxs, hlen, hoks, kk, kb⟩
      rw [hps.len, List.take_length] at hxs
      exact ⟨_, rfl, k l xs _ nl hl hxs kk⟩
end

/-! the stages of this law -/
section
variable {P : Program} {w : World} {K : PySem.W.Frag} {mg : Str → Option Value} {base : Heap} {C_Ratio : Addr} {C_Plan : Addr}
theorem ok_stages {f : Addr} {fd : FuncData} (D : C8.Def K mg "_law_stages" s_law_stages f fd) (b : Binds K fd ["script", "most"] []) (T : Txt K mg C_Ratio C_Plan) (c_law_cell : C8.Cal P w K mg base 1 "_law_cell" (sp_cell K) []) (c_law_row : C8.Cal P w K mg base 1 "_law_row" sp_row []) : C8.Cal P w K mg base 2 "_law_stages" (sp_stages K 36) [] := by
  refine cal0 D b .nil sc_law_stages (fun vs H Q E h => ?_) (fun cdv A outer s H vs Q E hr h => ?_)
  · obtain ⟨a, ns, m, rfl, _⟩ := h
    rfl
  · obtain ⟨a, ns, m, rfl, hm, hS, k⟩ := h
    subst hm
    refine ⟨_, (pss_cons (ps_set (i := 2) sc_law_stages.nd rfl (by first | exact Or.inl rfl | exact Or.inr rfl) (pe_lst pa_nil))
(pss_cons (ps_set (i := 3) sc_law_stages.nd rfl (by first | exact Or.inl rfl | exact Or.inr rfl) pe_int)
(pss_cons (ps_set (i := 4) sc_law_stages.nd rfl (by first | exact Or.inl rfl | exact Or.inr rfl) (pe_c c_law_row hr (by first | exact Nat.le_refl _ | decide | omega) rfl (pa_cons (pe_c c_law_cell hr (by first | exact Nat.le_refl _ | decide | omega) rfl (pa_cons (pv 0) (pa_cons pe_int pa_nil))) (pa_cons pe_int (pa_cons pe_int pa_nil)))))
(pss_cons (ps_for PassesOwn.never rfl (pi_range1 (by rfl) T.n_range (pa_cons (pe_op op_mod (pe_callTy call_int1 (by rfl) T.n_int bo_int (pa_cons (pe_ix ix_list (pv 4) pe_int (fun _ _ => rfl)) pa_nil)) pe_int) pa_nil)) (pg_name (i := 5) sc_law_stages.nd rfl (by first | exact Or.inl rfl | exact Or.inr rfl))
  (pss_cons (ps_set (i := 6) sc_law_stages.nd rfl (by first | exact Or.inl rfl | exact Or.inr rfl) (pe_op op_add pe_int (pe_op op_mod (pe_callTy call_int1 (by rfl) T.n_int bo_int (pa_cons (pe_ix ix_list (pv 4) (pe_op op_add (pe_op op_mul pe_int (pv 5)) pe_int) (fun _ _ => rfl)) pa_nil)) pe_int)))
  (pss_cut (ps_if (pt_cmpR op_gt (pe_op op_mul (pv 3) (pv 6)) (pv 1) (nomark _))
    (pss_one (ps_set (i := 6) sc_law_stages.nd rfl (by first | exact Or.inl rfl | exact Or.inr rfl) pe_int))
    pss_nil)
  (pss_cons (ps_set (i := 3) sc_law_stages.nd rfl (by first | exact Or.inl rfl | exact Or.inr rfl) (pe_op op_mul (pv 3) (pv 6)))
  (pss_cons (ps_set (i := 7) sc_law_stages.nd rfl (by first | exact Or.inl rfl | exact Or.inr rfl) (pe_ix ix_tup (pe_tup (pa_cons pe_int (pa_cons pe_int (pa_cons pe_int (pa_cons pe_int (pa_cons pe_int pa_nil)))))) (pe_op op_mod (pe_callTy call_int1 (by rfl) T.n_int bo_int (pa_cons (pe_ix ix_list (pv 4) (pe_op op_add (pe_op op_mul pe_int (pv 5)) pe_int) (fun _ _ => rfl)) pa_nil)) pe_int) (fun _ _ => rfl)))
  (pss_one (ps_expr (pe_bm PySem.F.plainAttrs_list PySem.F.slot_list_append PySem.F.type_list_append mt_append (pv 2) (pa_cons (pe_tup (pa_cons (pe_op op_mod (pe_callTy call_int1 (by rfl) T.n_int bo_int (pa_cons (pe_ix ix_list (pv 4) (pe_op op_add (pe_op op_mul pe_int (pv 5)) pe_int) (fun _ _ => rfl)) pa_nil)) pe_int) (pa_cons (pv 6) (pa_cons (pv 7) (pa_cons (pe_cmpR op_eq (pe_op op_mod (pe_callTy call_int1 (by rfl) T.n_int bo_int (pa_cons (pe_ix ix_list (pv 4) (pe_op op_add (pe_op op_mul pe_int (pv 5)) pe_int) (fun _ _ => rfl)) pa_nil)) pe_int) pe_int (nomark _)) pa_nil))))) pa_nil)))))))))
(pss_one (ps_ret (pv 2))))))), ?_⟩
    refine And.intro (by show 0 ≤ sizeLine; decide) <| fun l nl => ?_
    have k0 : Keep [] H (upd H l (.lst [])) := Keep.new nl
    refine ⟨_, rfl, a, ns, 0, rfl, k0.seqL hS (by simp), _, 20, 60, rfl, by decide, by decide, by decide, fun g ds H1 ng hg hdl hds K1 => ?_⟩
    have dig : ∀ j : Nat, j < 20 → ∃ z : Nat, (ds.map nat)[j]? = some (nat z) ∧ z < 60 := fun j hj => by
      have hj' : j < ds.length := by omega
      have h := hds _ (List.getElem_mem hj')
      exact ⟨ds[j], by rw [List.getElem?_map, List.getElem?_eq_getElem hj']; rfl, by omega⟩
    obtain ⟨z0, hz0, hz0b⟩ := dig 0 (by decide)
    refine ⟨_, rfl, _, _, _, _, rfl, rfl, SqL.of hg, atI_nat (j := 0) hz0, .inl ⟨_, rfl, _, _, rfl, rfl, by show (0 : Int) < 5; decide, ((z0 : Nat) : Int) % 5, rfl, by omega, by omega, ?_⟩⟩
    have hl1 := K1 _ _ (upd_same (H := H) (a := l) (o := .lst [])) (by simp)
    have hgl : g ≠ l := (ne_of_none upd_same ng).symm
    refine for_range (lo := 0) (n := (((z0 : Nat) : Int) % 5).toNat) (fun i σ H' => ∃ (S : List Stg) (o5 o6 o7 : Option V), σ = [some (.ref a), some (.int (36 : Nat)), some (.ref l), some (.int (prodS S : Nat)), some (.ref g), o5, o6, o7] ∧ StA H' l S ∧ (∀ s ∈ S, s.Ok) ∧ S.length = i ∧ prodS S ≤ 36 ∧ H' g = some (.lst (ds.map nat)) ∧ Keep [] H H')
      ⟨[], _, _, _, rfl, ⟨[], hl1, .nil⟩, (fun _ h => by cases h), rfl, by decide, hg, k0.trans K1⟩ ?_ ?_
    · rintro i σ H2 hi ⟨S, o5, o6, o7, rfl, ⟨vs, hvs, hSL⟩, hoks, hSn, hpr, hg2, k2⟩
      have hi5 : i < 4 := by omega
      have e0 : (0 : Int) + (i : Int) = (i : Int) := by omega
      rw [e0]
      have dg : ∀ j : Nat, j ≤ 4 → ∃ z : Nat, atI (ds.map nat) (((4 * i + j : Nat) : Int)) = some (nat z) ∧ z < 60 := fun j hj => by
        obtain ⟨z, h1, h2⟩ := dig (4 * i + j) (by omega)
        exact ⟨z, atI_nat h1, h2⟩
      obtain ⟨d1, hd1, hd1b⟩ := dg 1 (by decide)
      obtain ⟨d2, hd2, hd2b⟩ := dg 2 (by decide)
      obtain ⟨d3, hd3, hd3b⟩ := dg 3 (by decide)
      obtain ⟨d4, hd4, hd4b⟩ := dg 4 (by decide)
      have c1 : ((4 * i + 1 : Nat) : Int) = 4 * (i : Int) + 1 := by omega
      have c2 : ((4 * i + 2 : Nat) : Int) = 4 * (i : Int) + 2 := by omega
      have c3 : ((4 * i + 3 : Nat) : Int) = 4 * (i : Int) + 3 := by omega
      have c4 : ((4 * i + 4 : Nat) : Int) = 4 * (i : Int) + 4 := by omega
      rw [c1] at hd1
      rw [c2] at hd2
      rw [c3] at hd3
      rw [c4] at hd4
      clear c1 c2 c3 c4
      have mc : (fun i j : Int => True) 0 0 := trivial
      refine ⟨_, rfl, _, rfl, _, _, rfl, rfl, .inl ⟨by decide, by decide⟩, _, _, rfl, rfl, _, _, _, _, rfl, rfl, SqL.of hg2, hd1, .inl ⟨_, rfl, _, _, rfl, rfl, by show (0 : Int) < 3; decide, _, _, rfl, rfl, ?_⟩⟩
      have getd : ∀ {j : Int} {z : Nat} {Q' : VK}, atI (ds.map nat) (4 * (i : Int) + j) = some (nat z) → Q' (nat z) H2 → rIxL K (.ref g) (.int (4 * (i : Int) + j)) H2 Q' := fun h q => ⟨_, _, _, _, rfl, rfl, SqL.of hg2, h, q⟩
      obtain ⟨sz, hsz, s0, s1⟩ : ∃ sz : Nat, (1 : Int) + ((d1 : Nat) : Int) % 3 = ((sz : Nat) : Int) ∧ 1 ≤ sz ∧ sz ≤ 60 := ⟨1 + d1 % 3, by omega, by omega, by omega⟩
      show tCut _ _ _ [some (.ref a), some (.int (36 : Nat)), some (.ref l), some (.int (prodS S : Nat)), some (.ref g), some (.int (i : Int)), some (.int ((1 : Int) + ((d1 : Nat) : Int) % 3)), o7] H2
      rw [hsz]
      -- not too many
      refine ⟨fun σ H' => ∃ sz : Nat, 1 ≤ sz ∧ sz ≤ 60 ∧ prodS S * sz ≤ 36 ∧ H' = H2 ∧ σ = [some (.ref a), some (.int (36 : Nat)), some (.ref l), some (.int (prodS S : Nat)), some (.ref g), some (.int (i : Int)), some (.int (sz : Nat)), o7], ?_, ?_⟩
      · have hmul : ((prodS S : Nat) : Int) * ((sz : Nat) : Int) = ((prodS S * sz : Nat) : Int) := by rw [Int.natCast_mul]
        refine ⟨_, rfl, _, rfl, _, _, rfl, rfl, .inl ⟨by omega, by omega⟩, _, rfl, _, _, rfl, rfl, _, rfl, ?_⟩
        rw [hmul]
        refine iteD (fun h => ⟨1, by decide, by decide, by omega, rfl, rfl⟩) (fun h => ⟨sz, s0, s1, by omega, rfl, rfl⟩)
      rintro σ H4 ⟨sz, s0, s1, hps, rfl, rfl⟩
      have hmul : ((prodS S : Nat) : Int) * ((sz : Nat) : Int) = ((prodS S * sz : Nat) : Int) := by rw [Int.natCast_mul]
      refine ⟨_, rfl, _, rfl, _, _, rfl, rfl, .inl ⟨by omega, by omega⟩, ?_⟩
      obtain ⟨sh, hsh, hshb⟩ : ∃ sh : Nat, atI ([.int 0, .int 0, .int 1, .int 2, .int 3] : List V) (((d2 : Nat) : Int) % 5) = some (.int (sh : Int)) ∧ sh < 4 := by
        have : ((d2 : Nat) : Int) % 5 = 0 ∨ ((d2 : Nat) : Int) % 5 = 1 ∨ ((d2 : Nat) : Int) % 5 = 2 ∨ ((d2 : Nat) : Int) % 5 = 3 ∨ ((d2 : Nat) : Int) % 5 = 4 := by omega
        rcases this with h | h | h | h | h <;> rw [h]
        · exact ⟨0, rfl, by decide⟩
        · exact ⟨0, rfl, by decide⟩
        · exact ⟨1, rfl, by decide⟩
        · exact ⟨2, rfl, by decide⟩
        · exact ⟨3, rfl, by decide⟩
      refine And.intro (by show 5 ≤ sizeLine; decide) <| fun t5 nt5 => ?_
      have k5 : Keep [] H4 (upd H4 t5 (.tup [.int 0, .int 0, .int 1, .int 2, .int 3])) := Keep.new nt5
      have ht5 : upd H4 t5 (.tup [.int 0, .int 0, .int 1, .int 2, .int 3]) t5 = some (.tup [.int 0, .int 0, .int 1, .int 2, .int 3]) := upd_same
      generalize upd H4 t5 (.tup [.int 0, .int 0, .int 1, .int 2, .int 3]) = H5 at *
      have hg5 := k5 _ _ hg2 (by simp)
      have getd5 : ∀ {j : Int} {z : Nat} {Q' : VK}, atI (ds.map nat) (4 * (i : Int) + j) = some (nat z) → Q' (nat z) H5 → rIxL K (.ref g) (.int (4 * (i : Int) + j)) H5 Q' := fun h q => ⟨_, _, _, _, rfl, rfl, SqL.of hg5, h, q⟩
      refine ⟨_, rfl, _, rfl, _, _, rfl, rfl, .inl ⟨by decide, by decide⟩, _, _, rfl, rfl, getd5 hd2 (.inl ⟨_, rfl, _, _, rfl, rfl, by show (0 : Int) < 5; decide, _, _, _, _, rfl, rfl, SqT.of ht5, hsh, ?_⟩)⟩
      have hvs5 := k5 _ _ hvs (by simp)
      refine ⟨_, rfl, .inl ⟨rfl, _, SqL.of hvs5⟩, _, rfl, _, rfl, _, _, rfl, rfl, .inl ⟨by decide, by decide⟩, _, _, rfl, rfl, getd5 hd3 (.inl ⟨_, rfl, _, _, rfl, rfl, by show (0 : Int) < 3; decide, _, rfl, _, rfl, _, rfl, _, rfl, _, _, rfl, rfl, .inl ⟨by decide, by decide⟩, _, _, rfl, rfl, getd5 hd4 (.inl ⟨_, rfl, _, _, rfl, rfl, by show (0 : Int) < 3; decide, rfl, And.intro (by show 4 ≤ sizeLine; decide) <| fun u nu => ?_⟩)⟩)⟩
      have e3 : ((d3 : Nat) : Int) % 3 = ((d3 % 3 : Nat) : Int) := by omega
      have hrow : ([.int (((d3 : Nat) : Int) % 3), .int (sz : Int), .int (sh : Int), .bl (decide (V.int (((d4 : Nat) : Int) % 3) = V.int 1))] : List V) = Stg.row ⟨d3 % 3, sz, sh, decide (V.int (((d4 : Nat) : Int) % 3) = V.int 1)⟩ := by rw [e3]; rfl
      have k6 : Keep [] H5 (upd H5 u (.tup [.int (((d3 : Nat) : Int) % 3), .int (sz : Int), .int (sh : Int), .bl (decide (V.int (((d4 : Nat) : Int) % 3) = V.int 1))])) := Keep.new nu
      have hvs6 := k6 _ _ hvs5 (by simp)
      have hln := hSL.len
      have tk6 := (k5.trans k6).tk.trans (TK.lst (o := .lst (vs ++ [.ref u])) hvs6)
      have hul : u ≠ l := (ne_of_none hvs5 nu).symm
      refine ⟨_, _, _, rfl, rfl, hvs6, smallL (by omega), S ++ [⟨d3 % 3, sz, sh, decide (V.int (((d4 : Nat) : Int) % 3) = V.int 1)⟩], some (.int (i : Int)), some (.int (sz : Int)), some (.int (sh : Int)), ?_, ⟨vs ++ [.ref u], upd_same, (hSL.tk tk6).snoc (by rw [← hrow, upd_ne hul]; exact upd_same)⟩, fun s hs => ?_, by rw [List.length_append, hSn]; rfl, by rw [prod_app]; exact hps, by rw [upd_ne hgl]; exact k6 _ _ hg5 (by simp), (k2.trans (k5.trans k6)).then_own nl⟩
      · rw [prod_app, Int.natCast_mul]; rfl
      · rcases List.mem_append.mp hs with q | q
        · exact hoks s q
        · rw [List.mem_singleton.mp q]
          exact ⟨by show d3 % 3 < 3; omega, s0, by show sz ≤ 100; omega, hshb⟩
    · rintro σ H2 ⟨S, o5, o6, o7, rfl, hst, hoks, hSn, hpr, hg2, k2⟩
      exact ⟨_, rfl, k l S _ nl hst ⟨hoks, by omega, by omega⟩ hpr k2⟩
end

set_option exponentiation.threshold 100000
/-! the law's look whether two values are the same: only the answer True is told -/
def SameV : Nat → Hp → V → V → Prop
  | 0, _, _, _ => False
  | n + 1, H, a, d => (a = d ∧ ((∃ x, d = .str x) ∨ (∃ i, d = .int i) ∨ (∃ b, d = .bl b) ∨ d = .non)) ∨
    ∃ p q xs ys, a = .ref p ∧ d = .ref q ∧ ((H p = some (.lst xs) ∧ H q = some (.lst ys)) ∨ (H p = some (.tup xs) ∧ H q = some (.tup ys))) ∧ xs.length = ys.length ∧ xs.length ≤ sizeLine ∧
      ∀ (i : Nat) x y, xs[i]? = some x → ys[i]? = some y → SameV n H x y
def sp_law_same (n : Nat) : Sp := fun vs H Q _ => ∃ a d, vs = [a, d] ∧ SameV n H a d ∧ Q (.bl true) H
theorem sameV_strs {n : Nat} {H : Hp} {p q : Addr} {ys : List Str} (h1 : H p = some (.lst (ys.map V.str))) (h2 : H q = some (.lst (ys.map V.str))) (hl : ys.length ≤ sizeLine) : SameV (n + 2) H (.ref p) (.ref q) := by
  refine .inr ⟨p, q, _, _, rfl, rfl, .inl ⟨h1, h2⟩, rfl, by rw [List.length_map]; exact hl, fun i x y hx hy => ?_⟩
  rw [hx] at hy; cases hy
  obtain ⟨z, _, rfl⟩ := strs_get hx
  exact .inl ⟨rfl, .inl ⟨z, rfl⟩⟩
theorem sameV_str {n : Nat} {H : Hp} (x : Str) : SameV (n + 1) H (.str x) (.str x) := .inl ⟨rfl, .inl ⟨x, rfl⟩⟩
section
variable {K : PySem.W.Frag}
theorem kLT : PySem.W.kitOne K (.type "list") (.type "tuple") = some false := kit_ty (by decide +kernel)
theorem kLL : PySem.W.kitOne K (.type "list") (.type "list") = some true := kit_ty (by decide +kernel)
theorem kTT : PySem.W.kitOne K (.type "tuple") (.type "tuple") = some true := kit_ty (by decide +kernel)
theorem kTL : PySem.W.kitOne K (.type "tuple") (.type "list") = some false := kit_ty (by decide +kernel)
theorem kST : PySem.W.kitOne K (.type "str") (.type "tuple") = some false := kit_ty (by decide +kernel)
theorem kSL : PySem.W.kitOne K (.type "str") (.type "list") = some false := kit_ty (by decide +kernel)
theorem kSB : PySem.W.kitOne K (.type "str") (.type "bool") = some false := kit_ty (by decide +kernel)
theorem kSI : PySem.W.kitOne K (.type "str") (.type "int") = some false := kit_ty (by decide +kernel)
theorem kSS : PySem.W.kitOne K (.type "str") (.type "str") = some true := kit_ty (by decide +kernel)
theorem kIT : PySem.W.kitOne K (.type "int") (.type "tuple") = some false := kit_ty (by decide +kernel)
theorem kIL : PySem.W.kitOne K (.type "int") (.type "list") = some false := kit_ty (by decide +kernel)
theorem kIB : PySem.W.kitOne K (.type "int") (.type "bool") = some false := kit_ty (by decide +kernel)
theorem kII : PySem.W.kitOne K (.type "int") (.type "int") = some true := kit_ty (by decide +kernel)
theorem kBT : PySem.W.kitOne K (.type "bool") (.type "tuple") = some false := kit_ty (by decide +kernel)
theorem kBL : PySem.W.kitOne K (.type "bool") (.type "list") = some false := kit_ty (by decide +kernel)
theorem kBB : PySem.W.kitOne K (.type "bool") (.type "bool") = some true := kit_ty (by decide +kernel)
theorem kBI : PySem.W.kitOne K (.type "bool") (.type "int") = some true := kit_ty (by decide +kernel)
theorem kNT : PySem.W.kitOne K (.type "NoneType") (.type "tuple") = some false := kit_ty (by decide +kernel)
theorem kNL : PySem.W.kitOne K (.type "NoneType") (.type "list") = some false := kit_ty (by decide +kernel)
theorem kNB : PySem.W.kitOne K (.type "NoneType") (.type "bool") = some false := kit_ty (by decide +kernel)
theorem kNI : PySem.W.kitOne K (.type "NoneType") (.type "int") = some false := kit_ty (by decide +kernel)
end
theorem paired_strs {K : PySem.W.Frag} {H : Hp} {n : Nat} : ∀ ys : List Str, Paired (EqV K H (n + 1)) (ys.map V.str) (ys.map V.str)
  | [] => .nil
  | y :: r => .cons (.inl ⟨rfl, rfl⟩) (paired_strs r)
theorem canLay_intsL : ∀ l : List Int, PyData.canLayAll0 (l.map PyData.int) = true
  | [] => rfl
  | a :: r => by simp [PyData.canLayAll0, PyData.canLay0, canLay_intsL r]
theorem depth_intsL : ∀ l : List Int, PyData.depthAll (l.map PyData.int) ≤ 1
  | [] => by simp [PyData.depthAll]
  | a :: r => by
    have := depth_intsL r
    simp only [List.map_cons, PyData.depthAll, PyData.depth]
    omega
theorem shaped_ints (ys : List Int) : SeqAt.shaped (.list (ys.map PyData.int)) = true := by
  unfold SeqAt.shaped
  have h := depth_intsL ys
  rw [Bool.and_eq_true]
  refine ⟨by simp only [PyData.canLay0]; exact canLay_intsL ys, decide_eq_true ?_⟩
  simp only [PyData.depth]
  omega
theorem eqv_ints (ys : List Int) : PyData.eqv (.list (ys.map PyData.int)) (.list (ys.map PyData.int)) = true := SeqAt.eqv_refl _ (SeqAt.canLay_of_shaped (shaped_ints ys))
theorem dp_ints {K : PySem.W.Frag} {H : Hp} : ∀ (ys : List Int), DpAll K H (ys.map V.int) (ys.map PyData.int)
  | [] => .nil
  | y :: r => .cons (.int y) (dp_ints r)

section
variable {P : Program} {w : World} {K : PySem.W.Frag} {mg : Str → Option Value} {base : Heap} {C_Ratio : Addr} {C_Plan : Addr}
theorem ok_rat_init {f : Addr} {fd : FuncData} {ds : List Value} {dvs : List V} (M : Mk K C_Ratio f) (F : C8.Fun K "__init__" "Ratio.__init__" s_Ratio___init f fd) (b : Binds K fd ["self", "num", "den"] ds) (d : Vals dvs ds) (T : Txt K mg C_Ratio C_Plan) :
    C8.Mak P w K mg base 1 "Ratio" C_Ratio (sp_rat C_Ratio) dvs := by
  refine mak0 M T.m_Ratio F b d sc_Ratio___init (fun vs H Q E h => ?_) (fun cdv A outer s H vs Q E hr h => ?_)
  · obtain ⟨x, dx, n, d, rfl, _⟩ := h
    rfl
  · obtain ⟨x, dx, n, d, rfl, hd0, hdb, hx, k⟩ := h
    refine ⟨_, (pss_cons (ps_if (pt_cmpR op_eq (pv 2) pe_int (nomark _))
  (pss_one ps_never)
  pss_nil)
(pss_cons (ps_set (i := 3) sc_Ratio___init.nd rfl (by first | exact Or.inl rfl | exact Or.inr rfl) (pe_callBfun cr_gcd (by rfl) T.f_gcd (pa_cons (pv 1) (pa_cons (pv 2) pa_nil))))
(pss_cut (ps_if (pt_cmpR op_lt (pv 2) pe_int (nomark _))
  (pss_one (ps_set (i := 3) sc_Ratio___init.nd rfl (by first | exact Or.inl rfl | exact Or.inr rfl) (pe_un un_neg (pv 3))))
  pss_nil)
(pss_cons (ps_fld (pv 0) (pe_op op_fdivG (pv 1) (pv 3)) rfl)
(pss_one (ps_fld (pv 0) (pe_op op_fdivG (pv 2) (pv 3)) rfl)))))), ?_⟩
    refine ⟨_, rfl, rfl, _, rfl, iteDF (fun z => hd0 (V.int.inj z)) ?_⟩
    refine ⟨_, rfl, _, rfl, _, _, rfl, ?_⟩
    have hg := gcd_pos_of (n := n) hd0
    have hgb : Nat.gcd n.natAbs d.natAbs < 2 ^ 8000 := Nat.lt_of_le_of_lt (Nat.le_of_dvd (by omega) (Nat.gcd_dvd_right _ _)) hdb
    -- part is the sign's part
    refine ⟨fun σ H' => σ = [some (.ref x), some (.int n), some (.int d), some (.int (sg n d))] ∧ H' = H, ?_, ?_⟩
    · refine ⟨_, rfl, _, _, rfl, rfl, _, rfl, iteD (fun hn => ?_) (fun hn => ?_)⟩
      · refine ⟨_, rfl, _, rfl, ?_, rfl⟩
        unfold sg; rw [if_pos hn]; rfl
      · refine ⟨?_, rfl⟩
        unfold sg; rw [if_neg hn]; rfl
    · rintro σ H' ⟨rfl, rfl⟩
      have hs := sg_ne (n := n) hd0
      have hsb : CDivG n (sg n d) := ⟨hs, by
        refine Nat.lt_trans (log2_lt9 (b := 8000) ?_ (by decide)) (by decide)
        have : (sg n d).natAbs = Nat.gcd n.natAbs d.natAbs := by unfold sg; split <;> omega
        omega⟩
      refine ⟨_, rfl, _, rfl, _, _, rfl, rfl, hsb, _, rfl, x, C_Ratio, dx, [], rfl, hx, T.cl_Ratio, T.a_Ratio_num, by show 0 < 1000; decide, ?_⟩
      refine ⟨_, rfl, _, rfl, _, _, rfl, rfl, hsb, _, rfl, x, C_Ratio, dx, _, rfl, upd_same, T.cl_Ratio, T.a_Ratio_den, by show 1 < 1000; decide, ?_⟩
      exact k _ ((Keep.at_ (List.mem_singleton.mpr rfl)).then_at (List.mem_singleton.mpr rfl)) upd_same
end

/-! the common form -/
abbrev Rt := Int × Int
def lcmD (d : Nat) (r : Rt) : Nat := Nat.lcm d r.2.natAbs
def comD (rs : List Rt) : Nat := rs.foldl lcmD 1
def comN (rs : List Rt) : List Int := rs.map fun r => r.1 * ((comD rs : Nat) : Int).fdiv r.2
theorem comD_snoc (l : List Rt) (r : Rt) : comD (l ++ [r]) = lcmD (comD l) r := by unfold comD; rw [List.foldl_append]; rfl
theorem foldl_dvd_start : ∀ (l : List Rt) (d : Nat), d ∣ l.foldl lcmD d
  | [], d => Nat.dvd_refl d
  | r :: l, d => Nat.dvd_trans (Nat.dvd_lcm_left d r.2.natAbs) (foldl_dvd_start l (lcmD d r))
theorem foldl_dvd_mem : ∀ (l : List Rt) (d : Nat) {r : Rt}, r ∈ l → r.2.natAbs ∣ l.foldl lcmD d
  | r' :: l, d, r, h => by
    rcases List.mem_cons.mp h with e | e
    · subst e
      exact Nat.dvd_trans (Nat.dvd_lcm_right d r.2.natAbs) (foldl_dvd_start l (lcmD d r))
    · exact foldl_dvd_mem l (lcmD d r') e
theorem foldl_dvd_of : ∀ (l : List Rt) (d m : Nat), d ∣ m → (∀ r ∈ l, r.2.natAbs ∣ m) → l.foldl lcmD d ∣ m
  | [], d, m, h, _ => h
  | r :: l, d, m, h, hl => foldl_dvd_of l (lcmD d r) m (Nat.lcm_dvd h (hl r (List.mem_cons_self ..))) fun z hz => hl z (List.mem_cons_of_mem _ hz)
theorem comD_mem {rs : List Rt} {r : Rt} (h : r ∈ rs) : r.2.natAbs ∣ comD rs := foldl_dvd_mem rs 1 h
theorem comD_of {rs : List Rt} {m : Nat} (h : ∀ r ∈ rs, r.2.natAbs ∣ m) : comD rs ∣ m := foldl_dvd_of rs 1 m (Nat.one_dvd m) h
def sp_common (K : PySem.W.Frag) (C : Addr) : Sp := fun vs H Q _ => ∃ (a : Addr) (ps : List Addr) (rs : List Rt) (B : Nat), vs = [.ref a] ∧ SqL K H a (ps.map V.ref) ∧ ps.length = rs.length ∧ (∀ (i : Nat) p r, ps[i]? = some p → rs[i]? = some r → RatAt C H p r.1 r.2) ∧
  (∀ r ∈ rs, 0 < r.2 ∧ r.2.natAbs ∣ B ∧ r.1.natAbs < 2 ^ 300) ∧ 0 < B ∧ B < 2 ^ 1800 ∧ rs.length ≤ 1000 ∧
  ∀ l t H', H l = none → Keep [] H H' → H' l = some (.lst ((comN rs).map V.int)) → H' t = some (.tup [.ref l, .int (comD rs : Nat)]) → Q (.ref t) H'
section
variable {P : Program} {w : World} {K : PySem.W.Frag} {mg : Str → Option Value} {base : Heap} {C_Ratio : Addr} {C_Plan : Addr}
theorem ok_common {f : Addr} {fd : FuncData} (D : C8.Def K mg "common" s_common f fd) (b : Binds K fd ["ratios"] []) (T : Txt K mg C_Ratio C_Plan) : C8.Cal P w K mg base 1 "common" (sp_common K C_Ratio) [] := by
  refine cal0 D b .nil sc_common (fun vs H Q E h => ?_) (fun cdv A outer s H vs Q E hr h => ?_)
  · obtain ⟨a, ps, rs, B, rfl, _⟩ := h
    rfl
  · obtain ⟨a, ps, rs, B, rfl, hS, hlen, hrat, hrs, hB0, hB1, hn, k⟩ := h
    refine ⟨_, (pss_cons (ps_set (i := 1) sc_common.nd rfl (by first | exact Or.inl rfl | exact Or.inr rfl) pe_int)
(pss_cons (ps_for PassesOwn.never rfl (pi_list (pv 0)) (pg_name (i := 2) sc_common.nd rfl (by first | exact Or.inl rfl | exact Or.inr rfl))
  (pss_one (ps_set (i := 1) sc_common.nd rfl (by first | exact Or.inl rfl | exact Or.inr rfl) (pe_callBfun cr_lcm (by rfl) T.f_lcm (pa_cons (pv 1) (pa_cons (pe_fld (pv 2) rfl) pa_nil))))))
(pss_one (ps_ret (pe_tup (pa_cons (pe_lc (own := [("ratio", 2)]) (g := gName 2) (tt := tYes) rfl sc_common.nd (pi_list (pv 0)) (blkOk_by (N := ["ratios", "den", "ratio"]) (sc := fnScope s_common) (by decide +kernel)) (fun _ _ _ _ _ => pg_name (i := 2) sc_common.nd rfl (by first | exact Or.inl rfl | exact Or.inr rfl)) (fun _ _ _ _ _ => pts_nil) (fun _ _ _ _ _ => (pe_op op_mulO (pe_fldK (K := K) (pv 2) rfl) (pe_op op_fdivG (pv 1) (pe_fldK (K := K) (pv 2) rfl))))) (pa_cons (pv 1) pa_nil))))))), ?_⟩
    have bound : ∀ i, comD (rs.take i) < 2 ^ 1800 := fun i => Nat.lt_of_le_of_lt (Nat.le_of_dvd hB0 (comD_of fun r hr => (hrs r (List.mem_of_mem_take hr)).2.1)) hB1
    have big : ∀ {n : Nat}, n < 2 ^ 1800 → n < 2 ^ 6000 := fun h => Nat.lt_trans h (Nat.pow_lt_pow_right (by decide) (by decide))
    have rbound : ∀ r ∈ rs, r.2.natAbs < 2 ^ 1800 := fun r hr => Nat.lt_of_le_of_lt (Nat.le_of_dvd hB0 (hrs r hr).2.1) hB1
    refine ⟨_, rfl, a, rfl, ⟨_, hS⟩, for_list (K := K) (a := a) (xs := ps.map V.ref) (fun i σ H' => H' = H ∧ ∃ o2, σ = [some (.ref a), some (.int ((comD (rs.take i) : Nat) : Int)), o2])
      ⟨rfl, none, rfl⟩ (fun i σ H' _ ⟨e, _⟩ => by rw [e]; exact hS) ?_ ?_⟩
    · rintro i x σ H' hi ⟨rfl, o2, rfl⟩
      obtain ⟨p, hp, rfl⟩ : ∃ p, ps[i]? = some p ∧ x = V.ref p := by
        rw [List.getElem?_map] at hi
        cases e : ps[i]? with
        | none => rw [e] at hi; cases hi
        | some p => rw [e] at hi; exact ⟨p, rfl, (Option.some.inj hi).symm⟩
      have hil : i < rs.length := by have := (List.getElem?_eq_some_iff.mp hp).1; omega
      have hr : rs[i]? = some rs[i] := List.getElem?_eq_getElem hil
      obtain ⟨dx, hpx⟩ := hrat i p _ hp hr
      have hm := List.getElem_mem hil
      refine ⟨_, rfl, _, rfl, p, C_Ratio, dx, _, _, rfl, hpx, T.cl_Ratio, T.a_Ratio_den, rf_den _ _, _, _, rfl, big (by rw [Int.natAbs_natCast]; exact bound i), big (rbound _ hm), ?_⟩
      refine ⟨rfl, some (.ref p), ?_⟩
      have e1 : rs.take (i + 1) = rs.take i ++ [rs[i]] := by rw [List.take_add_one, hr]; rfl
      rw [e1, comD_snoc]
      rfl
    · rintro σ H0 ⟨rfl, o2, rfl⟩
      have et : rs.take (ps.map V.ref).length = rs := by rw [List.length_map, hlen, List.take_length]
      rw [et]
      have hD := bound rs.length
      rw [List.take_length] at hD
      refine ⟨_, rfl, a, rfl, ⟨_, hS⟩, fun L hL => ?_⟩
      refine lc_list (K := K) (a := a) (xs := ps.map V.ref) (fun i H' => H' L = some (.lst (((comN rs).take i).map V.int)) ∧ Keep [] H0 H')
        ⟨upd_same, Keep.new hL⟩ (fun i H' _ ⟨_, kk⟩ => kk.seqL hS (by simp)) ?_ ?_
      · rintro i x H' hi ⟨hDL, kk⟩
        obtain ⟨p, hp, rfl⟩ : ∃ p, ps[i]? = some p ∧ x = V.ref p := by
          rw [List.getElem?_map] at hi
          cases e : ps[i]? with
          | none => rw [e] at hi; cases hi
          | some p => rw [e] at hi; exact ⟨p, rfl, (Option.some.inj hi).symm⟩
        have hil : i < rs.length := by have := (List.getElem?_eq_some_iff.mp hp).1; omega
        have hr : rs[i]? = some rs[i] := List.getElem?_eq_getElem hil
        obtain ⟨dx, hpx⟩ := (hrat i p _ hp hr).keep0 kk
        have hm := List.getElem_mem hil
        obtain ⟨hp0, hpd, hpn⟩ := hrs _ hm
        have hfd : ((((comD rs : Nat) : Int).fdiv rs[i].2)).natAbs < 2 ^ 1800 := by
          rw [Int.fdiv_eq_ediv_of_nonneg _ (by omega)]
          refine Nat.lt_of_le_of_lt (Int.natAbs_ediv_le_natAbs _ _) ?_
          rw [Int.natAbs_natCast]; exact hD
        have cd : CDivG ((comD rs : Nat) : Int) rs[i].2 := ⟨by omega, Nat.lt_trans (log2_lt9 (rbound _ hm) (by decide)) (by decide)⟩
        have cm : IntMulOk rs[i].1 (((comD rs : Nat) : Int).fdiv rs[i].2) := IntMulOk.of_le (m := 300) (n := 1800) (intBits_le_iff.mpr hpn) (intBits_le_iff.mpr hfd) (by decide)
        refine ⟨rfl, yes_then ⟨_, rfl, p, C_Ratio, dx, _, _, rfl, hpx, T.cl_Ratio, T.a_Ratio_num, rf_num _ _, _, rfl, _, rfl, p, C_Ratio, dx, _, _, rfl, hpx, T.cl_Ratio, T.a_Ratio_den, rf_den _ _, _, _, rfl, rfl, cd, _, _, rfl, rfl, cm, ?_⟩⟩
        refine ⟨_, hDL, by rw [List.length_map, List.length_take]; exact smallL (by omega), ?_, kk.then_own hL⟩
        have e1 : (comN rs)[i]? = some (rs[i].1 * (((comD rs : Nat) : Int).fdiv rs[i].2)) := by unfold comN; rw [List.getElem?_map, hr]; rfl
        rw [List.take_add_one, e1, List.map_append]
        exact upd_same
      · rintro H' ⟨hDL, kk⟩
        have e2 : (comN rs).take (ps.map V.ref).length = comN rs := by
          refine List.take_of_length_le ?_
          unfold comN; rw [List.length_map, List.length_map, hlen]; exact Nat.le_refl _
        rw [e2] at hDL
        refine ⟨_, rfl, by show 2 ≤ sizeLine; decide, fun t ht => ?_⟩
        exact k L t _ hL (kk.then_new ht) (by rw [upd_ne (ne_of_none hDL ht)]; exact hDL) upd_same
end

/-! trees of chances and turns -/
inductive TM where
  | fin
  | lot (ps : List TM)
  | turn (q : Nat) (es : List Ev) (ps : List TM)
mutual
def TM.hgt : TM → Nat
  | .fin => 0
  | .lot ps => hgts ps + 1
  | .turn _ _ ps => hgts ps + 1
def TM.hgts : List TM → Nat
  | [] => 0
  | m :: ms => Nat.max m.hgt (hgts ms)
end
mutual
def TM.nds : TM → Nat
  | .fin => 1
  | .lot ps => ndss ps + 1
  | .turn _ _ ps => ndss ps + 1
def TM.ndss : List TM → Nat
  | [] => 0
  | m :: ms => m.nds + ndss ms
end
theorem hgts_get : ∀ {ps : List TM} {i : Nat} {m : TM}, ps[i]? = some m → m.hgt ≤ TM.hgts ps
  | p :: ps, 0, m, h => by simp at h; subst h; exact Nat.le_max_left ..
  | p :: ps, i + 1, m, h => by simp at h; exact Nat.le_trans (hgts_get h) (Nat.le_max_right ..)
theorem ndss_app : ∀ ps qs : List TM, TM.ndss (ps ++ qs) = TM.ndss ps + TM.ndss qs
  | [], qs => by show _ = 0 + _; rw [Nat.zero_add]; rfl
  | p :: ps, qs => by show p.nds + TM.ndss (ps ++ qs) = p.nds + TM.ndss ps + TM.ndss qs; rw [ndss_app ps qs]; omega
theorem nds_pos : ∀ m : TM, 1 ≤ m.nds
  | .fin => Nat.le_refl _
  | .lot ps => Nat.le_add_left ..
  | .turn _ _ ps => Nat.le_add_left ..
theorem ndss_len : ∀ ps : List TM, ps.length ≤ TM.ndss ps
  | [] => Nat.le_refl _
  | p :: ps => by
    have h1 := nds_pos p
    have h2 := ndss_len ps
    show ps.length + 1 ≤ p.nds + TM.ndss ps
    omega
theorem ndss_take (ps : List TM) {i : Nat} {m : TM} (h : ps[i]? = some m) : TM.ndss (ps.take i) + m.nds ≤ TM.ndss ps := by
  have hi := (List.getElem?_eq_some_iff.mp h)
  obtain ⟨hi, e⟩ := hi
  have e2 : ps = ps.take i ++ (m :: ps.drop (i + 1)) := by
    rw [← e, List.getElem_cons_drop hi, List.take_append_drop]
  rw [e2, ndss_app]
  have e3 : (ps.take i ++ (m :: ps.drop (i + 1))).take i = ps.take i := by rw [← e2]
  rw [e3]
  show TM.ndss (ps.take i) + m.nds ≤ TM.ndss (ps.take i) + (m.nds + TM.ndss (ps.drop (i + 1)))
  omega
section
variable (CE CL CT : Addr)
mutual
def TA (H : Hp) : TM → V → Prop
  | .fin, v => ∃ p dx z, v = .ref p ∧ H p = some (.ins CE dx [("paid", z)])
  | .lot ps, v => ∃ p dx t vs, v = .ref p ∧ H p = some (.ins CL dx [("parts", .ref t)]) ∧ H t = some (.tup vs) ∧ TAs H ps vs
  | .turn q es ps, v => ∃ p dx w t vs, v = .ref p ∧ H p = some (.ins CT dx [("player", .int q), ("view", w), ("parts", .ref t)]) ∧ TD H w (dView es) ∧ H t = some (.tup vs) ∧ TAs H ps vs
def TAs (H : Hp) : List TM → List V → Prop
  | [], vs => vs = []
  | m :: ms, vs => ∃ v r, vs = v :: r ∧ TA H m v ∧ TAs H ms r
end
end
theorem Keep.made {H : Hp} {x d : Addr} {o : HO} (hx : H x = none) (hd : H d = none) : Keep [] H (upd (upd H d (.own x)) x o) := fun b u q _ => by
  rw [upd_ne (ne_of_none q hx), upd_ne (ne_of_none q hd)]; exact q
/-- tuples and instances stand -/
def KI (H H' : Hp) : Prop := (∀ b xs, H b = some (.tup xs) → H' b = some (.tup xs)) ∧ ∀ b C dx fs, H b = some (.ins C dx fs) → H' b = some (.ins C dx fs)
theorem KI.tk {H H' : Hp} (k : KI H H') : TK H H' := k.1
theorem KI.of {H H' : Hp} (k : Keep [] H H') : KI H H' := ⟨fun b xs h => k _ _ h (by simp), fun b C dx fs h => k _ _ h (by simp)⟩
theorem KI.trans {H H1 H2 : Hp} (a : KI H H1) (b : KI H1 H2) : KI H H2 := ⟨fun c xs h => b.1 _ _ (a.1 _ _ h), fun c C dx fs h => b.2 _ _ _ _ (a.2 _ _ _ _ h)⟩
theorem KI.at_ {H H' : Hp} {d : Addr} {o : HO} (hd : H d = some o) (k : Keep [d] H H') (h1 : ∀ xs, o ≠ .tup xs) (h2 : ∀ C dx fs, o ≠ .ins C dx fs) : KI H H' :=
  ⟨fun b xs h => k _ _ h (by intro z; rw [List.mem_singleton.mp z] at h; exact h1 _ (Option.some.inj (hd.symm.trans h))), fun b C dx fs h => k _ _ h (by intro z; rw [List.mem_singleton.mp z] at h; exact h2 _ _ _ (Option.some.inj (hd.symm.trans h)))⟩
theorem KI.lst {H : Hp} {d : Addr} {o : HO} {xs : List V} (hd : H d = some (.lst xs)) : KI H (upd H d o) := KI.at_ hd (Keep.at_ (by simp)) (fun _ z => nomatch z) (fun _ _ _ z => nomatch z)
mutual
theorem TA.ki {CE CL CT : Addr} {H H' : Hp} (k : KI H H') : ∀ (m : TM) {v : V}, TA CE CL CT H m v → TA CE CL CT H' m v
  | .fin, _, ⟨p, dx, z, e, h⟩ => ⟨p, dx, z, e, k.2 _ _ _ _ h⟩
  | .lot ps, _, ⟨p, dx, t, vs, e, h, ht, hs⟩ => ⟨p, dx, t, vs, e, k.2 _ _ _ _ h, k.1 _ _ ht, TAs.ki k ps hs⟩
  | .turn q es ps, _, ⟨p, dx, w, t, vs, e, h, hw, ht, hs⟩ => ⟨p, dx, w, t, vs, e, k.2 _ _ _ _ h, hw.tk k.1, k.1 _ _ ht, TAs.ki k ps hs⟩
theorem TAs.ki {CE CL CT : Addr} {H H' : Hp} (k : KI H H') : ∀ (ms : List TM) {vs : List V}, TAs CE CL CT H ms vs → TAs CE CL CT H' ms vs
  | [], _, h => h
  | m :: ms, _, ⟨v, r, e, h, hs⟩ => ⟨v, r, e, TA.ki k m h, TAs.ki k ms hs⟩
end
theorem TAs.get {CE CL CT : Addr} {H : Hp} : ∀ {ms : List TM} {vs : List V} {i : Nat} {v : V}, TAs CE CL CT H ms vs → vs[i]? = some v → ∃ m, ms[i]? = some m ∧ TA CE CL CT H m v
  | [], vs, i, v, h, e => by rw [show vs = [] from h] at e; simp at e
  | m :: ms, vs, 0, v, ⟨u, r, e1, h, hs⟩, e => by subst e1; simp at e; subst e; exact ⟨m, rfl, h⟩
  | m :: ms, vs, i + 1, v, ⟨u, r, e1, h, hs⟩, e => by subst e1; simp at e; obtain ⟨n, a, b⟩ := TAs.get hs e; exact ⟨n, by simpa using a, b⟩
theorem TAs.len {CE CL CT : Addr} {H : Hp} : ∀ {ms : List TM} {vs : List V}, TAs CE CL CT H ms vs → vs.length = ms.length
  | [], vs, h => by rw [show vs = [] from h]; rfl
  | m :: ms, vs, ⟨u, r, e1, h, hs⟩ => by rw [e1, List.length_cons, List.length_cons, TAs.len hs]
theorem TAs.app {CE CL CT : Addr} {H : Hp} : ∀ {ms ns : List TM} {vs ws : List V}, TAs CE CL CT H ms vs → TAs CE CL CT H ns ws → TAs CE CL CT H (ms ++ ns) (vs ++ ws)
  | [], ns, vs, ws, h, g => by rw [show vs = [] from h]; exact g
  | m :: ms, ns, vs, ws, ⟨u, r, e1, h, hs⟩, g => ⟨u, r ++ ws, by rw [e1]; rfl, h, TAs.app hs g⟩
theorem TAs.snoc {CE CL CT : Addr} {H : Hp} {ms : List TM} {vs : List V} {m : TM} {v : V} (h : TAs CE CL CT H ms vs) (g : TA CE CL CT H m v) : TAs CE CL CT H (ms ++ [m]) (vs ++ [v]) := h.app ⟨v, [], rfl, g, rfl⟩
theorem TAs.rev {CE CL CT : Addr} {H : Hp} : ∀ {ms : List TM} {vs : List V}, TAs CE CL CT H ms vs → TAs CE CL CT H ms.reverse vs.reverse
  | [], vs, h => by rw [show vs = [] from h]; rfl
  | m :: ms, vs, ⟨u, r, e1, h, hs⟩ => by rw [e1, List.reverse_cons, List.reverse_cons]; exact (TAs.rev hs).snoc h
/-! the views that one player meets, in order -/
def insV (f : List Row) (r : Row) : List Row := if f.any (fun x => decide (x.1 = r.1)) = true then f else f ++ [r]
mutual
def coll (pl : Nat) : TM → List Row → List Row
  | .fin, f => f
  | .lot ps, f => colls pl ps f
  | .turn q es ps, f => colls pl ps (if q = pl then insV f (es, (ps.length : Int)) else f)
def colls (pl : Nat) : List TM → List Row → List Row
  | [], f => f
  | m :: ms, f => colls pl ms (coll pl m f)
end
theorem colls_app (pl : Nat) : ∀ (ps qs : List TM) (f : List Row), colls pl (ps ++ qs) f = colls pl qs (colls pl ps f)
  | [], _, _ => rfl
  | _ :: ps, qs, f => colls_app pl ps qs _
theorem insV_len (f : List Row) (r : Row) : (insV f r).length ≤ f.length + 1 := by
  unfold insV
  split
  · omega
  · simp
mutual
theorem coll_len (pl : Nat) : ∀ (m : TM) (f : List Row), (coll pl m f).length ≤ f.length + m.nds
  | .fin, f => Nat.le_add_right ..
  | .lot ps, f => by
    have := colls_len pl ps f
    show (colls pl ps f).length ≤ f.length + (TM.ndss ps + 1)
    omega
  | .turn q es ps, f => by
    have := colls_len pl ps (if q = pl then insV f (es, (ps.length : Int)) else f)
    have h2 : (if q = pl then insV f (es, (ps.length : Int)) else f).length ≤ f.length + 1 := by
      split
      · exact insV_len ..
      · omega
    show (colls pl ps _).length ≤ f.length + (TM.ndss ps + 1)
    omega
theorem colls_len (pl : Nat) : ∀ (ms : List TM) (f : List Row), (colls pl ms f).length ≤ f.length + TM.ndss ms
  | [], f => Nat.le_add_right ..
  | m :: ms, f => by
    have h1 := coll_len pl m f
    have h2 := colls_len pl ms (coll pl m f)
    show (colls pl ms (coll pl m f)).length ≤ f.length + (m.nds + TM.ndss ms)
    omega
end
/-! a tree whose players remember: their last rows at each turn are the given ones -/
mutual
def keepsM : TM → Option Row → Option Row → Bool
  | .fin, _, _ => true
  | .lot ps, a, b => keepsL ps a b
  | .turn q es ps, a, b => decide (lastRow es = if q = 1 then a else b) && keepsT q es 0 ps a b
def keepsL : List TM → Option Row → Option Row → Bool
  | [], _, _ => true
  | m :: ms, a, b => keepsM m a b && keepsL ms a b
def keepsT (q : Nat) (es : List Ev) : Nat → List TM → Option Row → Option Row → Bool
  | _, [], _, _ => true
  | k, m :: ms, a, b => (if q = 1 then keepsM m (some (es, (k : Int))) b else keepsM m a (some (es, (k : Int)))) && keepsT q es (k + 1) ms a b
end
/-! keys -/
def keyE (e : Ev) : NestedKey := .tup (.text e.1 :: e.2.map .num)
def keyV (L : List Ev) : NestedKey := .tup (L.map keyE)
theorem nk_ints {H : Hp} : ∀ l : List Int, NKs H (l.map NestedKey.num) (l.map V.int)
  | [] => .nil
  | a :: r => .cons (.num a) (nk_ints r)
theorem tds_ints {H : Hp} : ∀ {l : List Int} {vs : List V}, TDs H vs (l.map PyData.int) → vs = l.map V.int
  | [], _, h => by cases h; rfl
  | a :: r, _, h => by
    cases h with
    | cons h1 h2 => cases h1; rw [tds_ints h2]; rfl
theorem nk_ev {H : Hp} {v : V} {e : Ev} (h : TD H v (dEv e)) : NK H (keyE e) v := by
  unfold dEv at h
  cases h with
  | tup h1 h2 =>
    cases h2 with
    | cons h3 h4 =>
      cases h3
      rw [tds_ints h4] at h1
      exact .tup h1 (.cons (.text _) (nk_ints _))
theorem nk_evs {H : Hp} : ∀ {L : List Ev} {vs : List V}, TDs H vs (L.map dEv) → NKs H (L.map keyE) vs
  | [], _, h => by cases h; exact .nil
  | e :: L, _, h => by
    cases h with
    | cons h1 h2 => exact .cons (nk_ev h1) (nk_evs h2)
theorem nk_view {H : Hp} {v : V} {L : List Ev} (h : TD H v (dView L)) : NK H (keyV L) v := by
  unfold dView at h
  cases h with
  | tup h1 h2 => exact .tup h1 (nk_evs h2)
theorem keyI_inj : ∀ {l m : List Int}, l.map NestedKey.num = m.map NestedKey.num → l = m
  | [], [], _ => rfl
  | [], _ :: _, h => by simp at h
  | _ :: _, [], h => by simp at h
  | a :: l, b :: m, h => by
    simp only [List.map_cons, List.cons.injEq, NestedKey.num.injEq] at h
    rw [h.1, keyI_inj h.2]
theorem keyE_inj {e f : Ev} (h : keyE e = keyE f) : e = f := by
  unfold keyE at h
  simp only [NestedKey.tup.injEq, List.cons.injEq, NestedKey.text.injEq] at h
  exact Prod.ext h.1 (keyI_inj h.2)
theorem keyEs_inj : ∀ {l m : List Ev}, l.map keyE = m.map keyE → l = m
  | [], [], _ => rfl
  | [], _ :: _, h => by simp at h
  | _ :: _, [], h => by simp at h
  | a :: l, b :: m, h => by
    simp only [List.map_cons, List.cons.injEq] at h
    rw [keyE_inj h.1, keyEs_inj h.2]
theorem keyV_inj {l m : List Ev} (h : keyV l = keyV m) : l = m := keyEs_inj (NestedKey.tup.inj h)
theorem depth_ks : ∀ l : List Int, NestedKey.depthAll (l.map NestedKey.num) = 0
  | [] => rfl
  | a :: r => by
    show max 0 (NestedKey.depthAll (r.map NestedKey.num)) = 0
    rw [depth_ks r]; rfl
theorem depth_ke (e : Ev) : (keyE e).depth = 1 := by
  show max 0 (NestedKey.depthAll (e.2.map NestedKey.num)) + 1 = 1
  rw [depth_ks]; rfl
theorem depth_kes : ∀ L : List Ev, NestedKey.depthAll (L.map keyE) ≤ 1
  | [] => Nat.zero_le _
  | e :: L => by
    show max (keyE e).depth (NestedKey.depthAll (L.map keyE)) ≤ 1
    rw [depth_ke]
    exact Nat.max_le.mpr ⟨Nat.le_refl _, depth_kes L⟩
theorem depth_kv (L : List Ev) : (keyV L).depth ≤ 8 := by
  have := depth_kes L
  show NestedKey.depthAll (L.map keyE) + 1 ≤ 8
  omega
/-! the dict of views -/
inductive FE (H : Hp) : List Ent → List Row → Prop
  | nil : FE H [] []
  | cons {b : Addr} {xs : List Ent} {f : List Row} {r : Row} : TD H (.ref b) (dView r.1) → FE H xs f → FE H ((keyV r.1, b, .int r.2) :: xs) (r :: f)
theorem FE.tk {H H' : Hp} (k : TK H H') {xs : List Ent} {f : List Row} (h : FE H xs f) : FE H' xs f := by
  induction h with
  | nil => exact .nil
  | cons h _ ih => exact .cons (h.tk k) ih
theorem FE.len {H : Hp} {xs : List Ent} {f : List Row} (h : FE H xs f) : xs.length = f.length := by
  induction h with
  | nil => rfl
  | cons _ _ ih => rw [List.length_cons, List.length_cons, ih]
theorem FE.snoc {H : Hp} {xs : List Ent} {f : List Row} {b : Addr} {r : Row} (h : FE H xs f) (hb : TD H (.ref b) (dView r.1)) : FE H (xs ++ [(keyV r.1, b, .int r.2)]) (f ++ [r]) := by
  induction h with
  | nil => exact .cons hb .nil
  | cons h _ ih => exact .cons h ih
theorem FE.get {H : Hp} {xs : List Ent} {f : List Row} (h : FE H xs f) : ∀ {i : Nat} {x : Ent}, xs[i]? = some x → ∃ r, f[i]? = some r ∧ x.2.2 = .int r.2 ∧ TD H (.ref x.2.1) (dView r.1) := by
  induction h with
  | nil => intro i x e; simp at e
  | @cons b xs f r h _ ih =>
    intro i x e
    cases i with
    | zero => simp at e; subst e; exact ⟨r, rfl, rfl, h⟩
    | succ j => simp at e; obtain ⟨q, a, b⟩ := ih e; exact ⟨q, by simpa using a, b⟩
theorem FE.val {H : Hp} {xs : List Ent} {f : List Row} (h : FE H xs f) (L : List Ev) : (valN xs (keyV L)).isSome = f.any (fun x => decide (x.1 = L)) := by
  induction h with
  | nil => rfl
  | @cons b xs f r h _ ih =>
    by_cases e : r.1 = L
    · have e1 : keyV r.1 = keyV L := by rw [e]
      rw [valN_pos (p := (keyV r.1, b, .int r.2)) e1]
      simp [e]
    · have e1 : ¬ keyV r.1 = keyV L := fun z => e (keyV_inj z)
      rw [valN_neg (p := (keyV r.1, b, .int r.2)) e1, ih]
      simp [e]
def FD (P : Program) (w : World) (H : Hp) (d : Addr) (f : List Row) : Prop := ∃ xs, H d = some (ndO P w d xs) ∧ FE H xs f
theorem FE.nk {H : Hp} {xs : List Ent} {f : List Row} (h : FE H xs f) : ∀ x ∈ xs, NK H x.1 (.ref x.2.1) ∧ x.1.depth ≤ 8 := by
  induction h with
  | nil => intro x hx; cases hx
  | @cons b xs f r h _ ih =>
    intro x hx
    rcases List.mem_cons.mp hx with e | e
    · subst e; exact ⟨nk_view h, depth_kv _⟩
    · exact ih x e
theorem FD.keep {P : Program} {w : World} {H H' : Hp} {d : Addr} {f : List Row} (h : FD P w H d f) (k : Keep [] H H') : FD P w H' d f := by
  obtain ⟨xs, h1, h2⟩ := h
  exact ⟨xs, k _ _ h1 (by simp), h2.tk k.tk⟩
theorem FD.ki {P : Program} {w : World} {H H' : Hp} {d : Addr} {f : List Row} (h : FD P w H d f) (k : Keep [d] H H') : KI H H' := by
  obtain ⟨xs, h1, h2⟩ := h
  exact KI.at_ h1 k (fun _ z => nomatch z) (fun _ _ _ z => nomatch z)
theorem TA.form {CE CL CT : Addr} {H : Hp} : ∀ {tm : TM} {v : V}, TA CE CL CT H tm v → (tm = .fin ∧ ∃ p dx z, v = .ref p ∧ H p = some (.ins CE dx [("paid", z)])) ∨
    ∃ C p dx t fs vs ps, v = .ref p ∧ H p = some (.ins C dx fs) ∧ fs.lookup ("parts" : Str) = some (.ref t) ∧ H t = some (.tup vs) ∧ TAs CE CL CT H ps vs ∧ TM.hgts ps < tm.hgt ∧ TM.ndss ps < tm.nds ∧
      ((C = CL ∧ tm = .lot ps) ∨ (C = CT ∧ ∃ q es wv, tm = .turn q es ps ∧ fs.lookup ("player" : Str) = some (.int (q : Nat)) ∧ fs.lookup ("view" : Str) = some wv ∧ TD H wv (dView es)))
  | .fin, v, ⟨p, dx, z, e, h⟩ => .inl ⟨rfl, p, dx, z, e, h⟩
  | .lot ps, v, ⟨p, dx, t, vs, e, h, ht, hs⟩ => .inr ⟨CL, p, dx, t, _, vs, ps, e, h, rfl, ht, hs, Nat.lt_succ_self _, Nat.lt_succ_self _, .inl ⟨rfl, rfl⟩⟩
  | .turn q es ps, v, ⟨p, dx, w, t, vs, e, h, hw, ht, hs⟩ => .inr ⟨CT, p, dx, t, _, vs, ps, e, h, rfl, ht, hs, Nat.lt_succ_self _, Nat.lt_succ_self _, .inr ⟨rfl, q, es, w, rfl, rfl, rfl, hw⟩⟩

/-! lots and plans -/
structure RtOk (r : Rt) : Prop where
  pos : 0 < r.2
  one : Nat.gcd r.1.natAbs r.2.natAbs = 1
  n : r.1.natAbs < 2 ^ 300
  d : r.2.natAbs < 2 ^ 300
inductive RL (C : Addr) (H : Hp) : List V → List Rt → Prop
  | nil : RL C H [] []
  | cons {p : Addr} {r : Rt} {vs : List V} {rs : List Rt} : RatAt C H p r.1 r.2 → RL C H vs rs → RL C H (.ref p :: vs) (r :: rs)
theorem RL.keep {C : Addr} {H H' : Hp} (k : KI H H') {vs : List V} {rs : List Rt} (h : RL C H vs rs) : RL C H' vs rs := by
  induction h with
  | nil => exact .nil
  | cons h _ ih =>
    obtain ⟨dx, h⟩ := h
    exact .cons ⟨dx, k.2 _ _ _ _ h⟩ ih
theorem RL.keepx {C CP x dx : Addr} {H H' : Hp} (k : Keep [x] H H') (hx : H x = some (.ins CP dx [])) {vs : List V} {rs : List Rt} (h : RL C H vs rs) : RL C H' vs rs := by
  induction h with
  | nil => exact .nil
  | @cons p r vs rs h _ ih =>
    obtain ⟨dx', h⟩ := h
    refine .cons ⟨dx', k _ _ h ?_⟩ ih
    intro z
    rw [List.mem_singleton.mp z, hx] at h
    have e := (HO.ins.inj (Option.some.inj h)).2.2
    have := rf_num r.1 r.2
    rw [← e] at this
    cases this
theorem RL.len {C : Addr} {H : Hp} {vs : List V} {rs : List Rt} (h : RL C H vs rs) : vs.length = rs.length := by
  induction h with
  | nil => rfl
  | cons _ _ ih => rw [List.length_cons, List.length_cons, ih]
theorem RL.snoc {C : Addr} {H : Hp} {vs : List V} {rs : List Rt} {p : Addr} {r : Rt} (h : RL C H vs rs) (hp : RatAt C H p r.1 r.2) : RL C H (vs ++ [.ref p]) (rs ++ [r]) := by
  induction h with
  | nil => exact .cons hp .nil
  | cons h _ ih => exact .cons h ih
theorem RL.get {C : Addr} {H : Hp} {vs : List V} {rs : List Rt} (h : RL C H vs rs) : ∀ {i : Nat} {r : Rt}, rs[i]? = some r → ∃ p, vs[i]? = some (.ref p) ∧ RatAt C H p r.1 r.2 := by
  induction h with
  | nil => intro i r e; simp at e
  | @cons p r vs rs h _ ih =>
    intro i q e
    cases i with
    | zero => simp at e; subst e; exact ⟨p, rfl, h⟩
    | succ j => simp at e; obtain ⟨p', a, b⟩ := ih e; exact ⟨p', by simpa using a, b⟩
theorem RL.refs {C : Addr} {H : Hp} {vs : List V} {rs : List Rt} (h : RL C H vs rs) : ∃ ps : List Addr, vs = ps.map V.ref ∧ ps.length = rs.length ∧ ∀ (i : Nat) p r, ps[i]? = some p → rs[i]? = some r → RatAt C H p r.1 r.2 := by
  induction h with
  | nil => exact ⟨[], rfl, rfl, fun i p r e => by simp at e⟩
  | @cons p r vs rs h _ ih =>
    obtain ⟨ps, h1, h2, h3⟩ := ih
    refine ⟨p :: ps, by rw [h1]; rfl, by rw [List.length_cons, List.length_cons, h2], fun i q s e1 e2 => ?_⟩
    cases i with
    | zero => simp at e1 e2; subst e1 e2; exact h
    | succ j => exact h3 j q s (by simpa using e1) (by simpa using e2)
def LA (C : Addr) (H : Hp) (a : Addr) (rs : List Rt) : Prop := ∃ vs, H a = some (.lst vs) ∧ RL C H vs rs
theorem LA.keep {C : Addr} {H H' : Hp} {a : Addr} {rs : List Rt} (h : LA C H a rs) (k : Keep [] H H') : LA C H' a rs := by
  obtain ⟨vs, h1, h2⟩ := h
  exact ⟨vs, k _ _ h1 (by simp), h2.keep (KI.of k)⟩
/-- lots that a plan takes -/
structure LotsOk (rs : List Rt) : Prop where
  B : ∃ B : Nat, 0 < B ∧ B < 2 ^ 1800 ∧ ∀ r ∈ rs, 0 < r.2 ∧ r.2.natAbs ∣ B ∧ r.1.natAbs < 2 ^ 300
  sum : (comN rs).sum = (comD rs : Nat)
  nn : ∀ n ∈ comN rs, 0 ≤ n
  ne : rs ≠ []
  len : rs.length ≤ 1000
abbrev Ent2 := List Ev × List Rt
inductive PE (C : Addr) (H : Hp) : List Ent → List Ent2 → Prop
  | nil : PE C H [] []
  | cons {b l : Addr} {xs : List Ent} {t : List Ent2} {L : List Ev} {rs : List Rt} : TD H (.ref b) (dView L) → LA C H l rs → PE C H xs t → PE C H ((keyV L, b, .ref l) :: xs) ((L, rs) :: t)
def look (t : List Ent2) (L : List Ev) : Option (List Rt) := (t.find? fun e => decide (e.1 = L)).map (·.2)
theorem PE.look {C : Addr} {H : Hp} {xs : List Ent} {t : List Ent2} (h : PE C H xs t) (L : List Ev) : (∃ rs l, look t L = some rs ∧ valN xs (keyV L) = some (.ref l) ∧ LA C H l rs) ∨ (look t L = none ∧ valN xs (keyV L) = none) := by
  induction h with
  | nil => exact .inr ⟨rfl, rfl⟩
  | @cons b l xs t M rs hb hl _ ih =>
    by_cases e : M = L
    · have e1 : keyV M = keyV L := by rw [e]
      refine .inl ⟨rs, l, ?_, valN_pos (p := (keyV M, b, .ref l)) e1, hl⟩
      unfold My.look
      rw [List.find?_cons, decide_eq_true e]; rfl
    · have e1 : ¬ keyV M = keyV L := fun z => e (keyV_inj z)
      rw [valN_neg (p := (keyV M, b, .ref l)) e1]
      have e2 : My.look ((M, rs) :: t) L = My.look t L := by
        unfold My.look
        rw [List.find?_cons, decide_eq_false e]
      rw [e2]
      exact ih
theorem PE.nk {C : Addr} {H : Hp} {xs : List Ent} {t : List Ent2} (h : PE C H xs t) : ∀ x ∈ xs, NK H x.1 (.ref x.2.1) ∧ x.1.depth ≤ 8 := by
  induction h with
  | nil => intro x hx; cases hx
  | cons hb _ _ ih =>
    intro x hx
    rcases List.mem_cons.mp hx with e | e
    · subst e; exact ⟨nk_view hb, depth_kv _⟩
    · exact ih x e
theorem PE.keep {C : Addr} {H H' : Hp} (k : KI H H') (kl : ∀ b ys, H b = some (.lst ys) → H' b = some (.lst ys)) {xs : List Ent} {t : List Ent2} (h : PE C H xs t) : PE C H' xs t := by
  induction h with
  | nil => exact .nil
  | cons hb hl _ ih =>
    obtain ⟨vs, h1, h2⟩ := hl
    exact .cons (hb.tk k.tk) ⟨vs, kl _ _ h1, h2.keep k⟩ ih
theorem PE.snoc {C : Addr} {H : Hp} {xs : List Ent} {t : List Ent2} {b l : Addr} {L : List Ev} {rs : List Rt} (h : PE C H xs t) (hb : TD H (.ref b) (dView L)) (hl : LA C H l rs) : PE C H (xs ++ [(keyV L, b, .ref l)]) (t ++ [(L, rs)]) := by
  induction h with
  | nil => exact .cons hb hl .nil
  | cons a b' _ ih => exact .cons a b' ih
theorem PE.len {C : Addr} {H : Hp} {xs : List Ent} {t : List Ent2} (h : PE C H xs t) : xs.length = t.length := by
  induction h with
  | nil => rfl
  | cons _ _ _ ih => rw [List.length_cons, List.length_cons, ih]
def PlanAt (P : Program) (w : World) (CP CR : Addr) (H : Hp) (x : Addr) (t : List Ent2) : Prop := ∃ dx d xs, H x = some (.ins CP dx [("table", .ref d)]) ∧ H d = some (ndO P w d xs) ∧ PE CR H xs t
theorem PlanAt.keep {P : Program} {w : World} {CP CR : Addr} {H H' : Hp} {x : Addr} {t : List Ent2} (h : PlanAt P w CP CR H x t) (k : Keep [] H H') : PlanAt P w CP CR H' x t := by
  obtain ⟨dx, d, xs, h1, h2, h3⟩ := h
  exact ⟨dx, d, xs, k _ _ h1 (by simp), k _ _ h2 (by simp), h3.keep (KI.of k) fun b ys q => k _ _ q (by simp)⟩
/-- the entries that are given: pairs of a view and a list of lots -/
inductive GL (C : Addr) (H : Hp) : List V → List Ent2 → Prop
  | nil : GL C H [] []
  | cons {q l : Addr} {vw : V} {vs : List V} {t : List Ent2} {L : List Ev} {rs : List Rt} : H q = some (.tup [vw, .ref l]) → TD H vw (dView L) → LA C H l rs → GL C H vs t → GL C H (.ref q :: vs) ((L, rs) :: t)
theorem GL.keep {C : Addr} {H H' : Hp} (k : KI H H') (kl : ∀ b ys, H b = some (.lst ys) → H' b = some (.lst ys)) {vs : List V} {t : List Ent2} (h : GL C H vs t) : GL C H' vs t := by
  induction h with
  | nil => exact .nil
  | cons hq hv hl _ ih =>
    obtain ⟨us, h1, h2⟩ := hl
    exact .cons (k.1 _ _ hq) (hv.tk k.tk) ⟨us, kl _ _ h1, h2.keep k⟩ ih
theorem GL.len {C : Addr} {H : Hp} {vs : List V} {t : List Ent2} (h : GL C H vs t) : vs.length = t.length := by
  induction h with
  | nil => rfl
  | cons _ _ _ _ ih => rw [List.length_cons, List.length_cons, ih]
theorem GL.snoc {C : Addr} {H : Hp} {vs : List V} {t : List Ent2} {q l : Addr} {vw : V} {L : List Ev} {rs : List Rt} (h : GL C H vs t) (hq : H q = some (.tup [vw, .ref l])) (hv : TD H vw (dView L)) (hl : LA C H l rs) : GL C H (vs ++ [.ref q]) (t ++ [(L, rs)]) := by
  induction h with
  | nil => exact .cons hq hv hl .nil
  | cons a b c _ ih => exact .cons a b c ih
theorem GL.get {C : Addr} {H : Hp} {vs : List V} {t : List Ent2} (h : GL C H vs t) : ∀ {i : Nat} {v : V}, vs[i]? = some v → ∃ q l vw L rs, v = .ref q ∧ t[i]? = some (L, rs) ∧ H q = some (.tup [vw, .ref l]) ∧ TD H vw (dView L) ∧ LA C H l rs := by
  induction h with
  | nil => intro i v e; simp at e
  | @cons q l vw vs t L rs a b c _ ih =>
    intro i v e
    cases i with
    | zero => simp at e; subst e; exact ⟨q, l, vw, L, rs, rfl, rfl, a, b, c⟩
    | succ j => simp at e; obtain ⟨q', l', vw', L', rs', e1, e2, e3, e4, e5⟩ := ih e; exact ⟨q', l', vw', L', rs', e1, by simpa using e2, e3, e4, e5⟩
def rs0 (c : Nat) : List Rt := (List.range c).map fun k => (if k = 0 then (1 : Int) else 0, (1 : Int))
def lotsAt (t : List Ent2) (L : List Ev) (c : Nat) : List Rt := match look t L with
  | some rs => if rs.length = c then rs else rs0 c
  | none => rs0 c
def sp_are_lots (C : Addr) : Sp := fun vs H Q _ => ∃ (a : Addr) (rs : List Rt), vs = [.ref a] ∧ LA C H a rs ∧ LotsOk rs ∧ ∀ H', Keep [] H H' → Q (.bl true) H'
def sp_plan (P : Program) (w : World) (CP CR : Addr) : Sp := fun vs H Q _ => ∃ (x dx a : Addr) (es : List V) (t : List Ent2), vs = [.ref x, .ref a] ∧ H x = some (.ins CP dx []) ∧ H a = some (.lst es) ∧ GL CR H es t ∧ (∀ e ∈ t, LotsOk e.2) ∧ (t.map (·.1)).Nodup ∧ t.length ≤ 1000 ∧ ∀ H', PlanAt P w CP CR H' x t → Keep [x] H H' → Q .non H'
def sp_lots_at (P : Program) (w : World) (CP CR : Addr) : Sp := fun vs H Q _ => ∃ (x : Addr) (v : V) (t : List Ent2) (L : List Ev) (c : Nat), vs = [.ref x, v, .int c] ∧ PlanAt P w CP CR H x t ∧ TD H v (dView L) ∧ c ≤ 1000 ∧ (∀ e ∈ t, e.2.length ≤ 1000) ∧ ∀ l H', H l = none → LA CR H' l (lotsAt t L c) → Keep [] H H' → Q (.ref l) H'
theorem red_one (n : Int) : redN n 1 = n ∧ redD n 1 = 1 := by
  have e : sg n 1 = 1 := by unfold sg; rw [if_neg (by decide)]; show ((Nat.gcd n.natAbs 1 : Nat) : Int) = 1; rw [Nat.gcd_one_right]; rfl
  unfold redN redD
  rw [e]
  exact ⟨Int.fdiv_one n, rfl⟩
theorem rs0_succ (i : Nat) : rs0 (i + 1) = rs0 i ++ [(if i = 0 then (1 : Int) else 0, (1 : Int))] := by
  unfold rs0
  rw [List.range_succ, List.map_append]; rfl
theorem rs0_len (c : Nat) : (rs0 c).length = c := by unfold rs0; rw [List.length_map, List.length_range]
theorem lotsAt_some {t : List Ent2} {L : List Ev} {c : Nat} {rs : List Rt} (h : look t L = some rs) (hl : rs.length = c) : lotsAt t L c = rs := by unfold lotsAt; rw [h]; exact if_pos hl
theorem lotsAt_not {t : List Ent2} {L : List Ev} {c : Nat} {rs : List Rt} (h : look t L = some rs) (hl : rs.length ≠ c) : lotsAt t L c = rs0 c := by unfold lotsAt; rw [h]; exact if_neg hl
theorem lotsAt_none {t : List Ent2} {L : List Ev} {c : Nat} (h : look t L = none) : lotsAt t L c = rs0 c := by unfold lotsAt; rw [h]

theorem dec_len (n : Nat) : decide (V.int (n : Int) = V.int 0) = decide (n = 0) := by
  by_cases h : n = 0
  · subst h; rfl
  · rw [decide_eq_false h, decide_eq_false (fun z => h (by have := V.int.inj z; omega))]
section
variable {P : Program} {w : World} {K : PySem.W.Frag} {mg : Str → Option Value} {base : Heap} {C_Ratio : Addr} {C_Plan : Addr}
theorem ok_are_lots {f : Addr} {fd : FuncData} (D : C8.Def K mg "are_lots" s_are_lots f fd) (b : Binds K fd ["ratios"] []) (T : Txt K mg C_Ratio C_Plan) (c_common : C8.Cal P w K mg base 1 "common" (sp_common K C_Ratio) []) : C8.Cal P w K mg base 2 "are_lots" (sp_are_lots C_Ratio) [] := by
  refine cal0 D b .nil sc_are_lots (fun vs H Q E h => ?_) (fun cdv A outer s H vs Q E hr h => ?_)
  · obtain ⟨a, rs, rfl, _⟩ := h
    rfl
  · obtain ⟨a, rs, rfl, ⟨vs, ha, hrl⟩, hok, k⟩ := h
    refine ⟨_, (pss_cons (ps_asg (pe_c c_common hr (by first | exact Nat.le_refl _ | decide | omega) rfl (pa_cons (pv 0) pa_nil)) (pg_tup (by rfl) (pgs_cons (pg_name (i := 1) sc_are_lots.nd rfl (by first | exact Or.inl rfl | exact Or.inr rfl)) (pgs_cons (pg_name (i := 2) sc_are_lots.nd rfl (by first | exact Or.inl rfl | exact Or.inr rfl)) pgs_nil))))
(pss_one (ps_ret (pe_and (pe_cmpR op_eq (pe_callB (cr_sum rfl) (by rfl) T.n_sum bo_sum (pa_cons (pv 1) pa_nil)) (pv 2) (nomark _)) (pe_one (pe_callB (cr_all rfl) (by rfl) T.n_all bo_all (pa_cons (pe_lc (own := [("weight", 3)]) (g := gName 3) (tt := tYes) rfl sc_are_lots.nd (pi_list (pv 1)) (blkOk_by (N := ["ratios", "weights", "den", "weight"]) (sc := fnScope s_are_lots) (by decide +kernel)) (fun _ _ _ _ _ => pg_name (i := 3) sc_are_lots.nd rfl (by first | exact Or.inl rfl | exact Or.inr rfl)) (fun _ _ _ _ _ => pts_nil) (fun _ _ _ _ _ => (pe_cmpR op_ge (pv 3) pe_int (nomark _)))) pa_nil))))))), ?_⟩
    obtain ⟨ps, rfl, hpl, hpr⟩ := hrl.refs
    obtain ⟨B, hB0, hB, hBr⟩ := hok.B
    refine ⟨_, rfl, a, ps, rs, B, rfl, SqL.of ha, hpl, hpr, hBr, hB0, hB, hok.len, fun l t H1 nl K1 hl ht => ?_⟩
    refine ⟨t, _, rfl, SqT.of ht, rfl, _, _, rfl, _, _, rfl, rfl, ?_⟩
    refine ⟨_, rfl, l, _, rfl, SqL.of hl, _, rfl, rfl, _, rfl, ?_⟩
    rw [hok.sum]
    refine iteDT rfl ⟨_, rfl, l, rfl, ⟨_, SqL.of hl⟩, fun D nD => ?_⟩
    have hcl : (comN rs).length = rs.length := by unfold comN; rw [List.length_map]
    refine lc_list (K := K) (a := l) (xs := (comN rs).map V.int) (fun i H' => H' D = some (.lst ((List.replicate i true).map V.bl)) ∧ Keep [] H1 H') ⟨upd_same, Keep.new nD⟩ (fun i H' _ ⟨_, kk⟩ => SqL.of (kk _ _ hl (by simp))) ?_ ?_
    · rintro i x H' hx ⟨hD, kk⟩
      obtain ⟨z, hz, rfl⟩ := ints_get hx
      have h0 := hok.nn z (List.mem_of_getElem? hz)
      have hi := (List.getElem?_eq_some_iff.mp hx).1
      rw [List.length_map, hcl] at hi
      refine ⟨rfl, yes_then ⟨_, rfl, _, _, rfl, rfl, _, hD, smallL (by have := hok.len; simp; omega), ?_, kk.then_own nD⟩⟩
      rw [List.replicate_succ', List.map_append]
      show upd H' D (.lst (_ ++ [V.bl (decide (0 ≤ z))])) D = _
      rw [decide_eq_true h0]; exact upd_same
    · rintro H' ⟨hD, kk⟩
      refine ⟨D, _, rfl, SqL.of hD, ?_⟩
      rw [show (List.replicate ((comN rs).map V.int).length true).all id = true by rw [List.all_replicate]; simp]
      exact k _ (K1.trans kk)
theorem ok_plan {f : Addr} {fd : FuncData} (M : Mk K C_Plan f) (F : C8.Fun K "__init__" "Plan.__init__" s_Plan___init f fd) (b : Binds K fd ["self", "entries"] []) (T : Txt K mg C_Ratio C_Plan) (c_are_lots : C8.Cal P w K mg base 2 "are_lots" (sp_are_lots C_Ratio) []) : C8.Mak P w K mg base 3 "Plan" C_Plan (sp_plan P w C_Plan C_Ratio) [] := by
  refine mak0 M T.m_Plan F b .nil sc_Plan___init (fun vs H Q E h => ?_) (fun cdv A outer s H vs Q E hr h => ?_)
  · obtain ⟨x, dx, a, es, t, rfl, _⟩ := h
    rfl
  · obtain ⟨x, dx, a, es, t, rfl, hx, ha, hg, hok, hnd, hlen, k⟩ := h
    refine ⟨_, (pss_cons (ps_fld (pv 0) (pe_nnew (P := P) (w := w)) rfl)
(pss_one (ps_for PassesOwn.never rfl (pi_enum (by rfl) T.n_enumerate (pa_cons (pv 1) pa_nil)) (pg_tup (by rfl) (pgs_cons (pg_name (i := 2) sc_Plan___init.nd rfl (by first | exact Or.inl rfl | exact Or.inr rfl)) (pgs_cons (pg_name (i := 3) sc_Plan___init.nd rfl (by first | exact Or.inl rfl | exact Or.inr rfl)) pgs_nil)))
  (pss_cons (ps_asg (pv 3) (pg_tup (by rfl) (pgs_cons (pg_name (i := 4) sc_Plan___init.nd rfl (by first | exact Or.inl rfl | exact Or.inr rfl)) (pgs_cons (pg_name (i := 5) sc_Plan___init.nd rfl (by first | exact Or.inl rfl | exact Or.inr rfl)) pgs_nil))))
  (pss_cons (ps_if (PW.pt (pw_or (pt_cmp (pc_nin (P := P) (w := w) (un65 hr) (pv 4) (pe_fld (pv 0) rfl))) (pw_or (pt_not (pt_truth (pv 5) (by intro _; rfl))) (pw_or1 (pt_not (pt_val (pe_c c_are_lots hr (by first | exact Nat.le_refl _ | decide | omega) rfl (pa_cons (pv 5) pa_nil))))))))
    (pss_one ps_never)
    pss_nil)
  (pss_one (ps_nput (P := P) (w := w) (un65 hr) (pe_fld (pv 0) rfl) (pv 4) (pe_callTy call_list_of (by rfl) T.n_list bo_list (pa_cons (pv 5) pa_nil)) (by rfl)))))))), ?_⟩
    refine fun d nd => ?_
    have k0 : Keep [] H (upd H d (ndO P w d [])) := Keep.new nd
    have hx0 := k0 _ _ hx (by simp)
    refine ⟨_, rfl, x, C_Plan, dx, [], rfl, hx0, T.cl_Plan, T.a_Plan_table, by show 0 < 1000; decide, ?_⟩
    have nxd : x ≠ d := ne_of_none hx nd
    have k1 : Keep [x] H (upd (upd H d (ndO P w d [])) x (.ins C_Plan dx [("table", .ref d)])) := (k0.mono (by simp)).then_at (by simp)
    have hx1 : upd (upd H d (ndO P w d [])) x (.ins C_Plan dx [("table", .ref d)]) x = some (.ins C_Plan dx [("table", .ref d)]) := upd_same
    have hd1 : upd (upd H d (ndO P w d [])) x (.ins C_Plan dx [("table", .ref d)]) d = some (ndO P w d []) := by rw [upd_ne nxd.symm]; exact upd_same
    have hxl : ∀ {b : Addr} {ys : List V}, H b = some (.lst ys) → b ≠ x := fun h => ne_of h hx (by intro z; cases z)
    have ha1 := k1 _ _ ha (by simpa using hxl ha)
    refine ⟨_, rfl, a, es, rfl, SqL.of ha1, for_it walk_enum (fun i σ H' => ∃ xs o2 o3 o4 o5, σ = [some (.ref x), some (.ref a), o2, o3, o4, o5] ∧ H' x = some (.ins C_Plan dx [("table", .ref d)]) ∧ H' d = some (ndO P w d xs) ∧ PE C_Ratio H' xs (t.take i) ∧ Keep [x] H H') ⟨[], _, _, _, _, rfl, hx1, hd1, .nil, k1⟩ (fun i σ H' _ ⟨_, _, _, _, _, _, _, _, _, kk⟩ => SqL.of (kk _ _ ha (by simpa using hxl ha))) ?_ ?_⟩
    · rintro i v σ H2 H3 hi ⟨xs, o2, o3, o4, o5, rfl, hx2, hd2, hpe, k2⟩ ⟨T1, y1, y2, rfl, nT, rfl, hy1, hy2⟩
      obtain ⟨q, l, vw, L, rs, rfl, hti, hq, hvw, ⟨ys, hl, hrl⟩⟩ := hg.get hy2
      obtain rfl : V.int ((i : Nat) : Int) = y1 := Option.some.inj hy1
      have kT := Keep.new (W := []) (o := .tup [.int (i : Nat), .ref q]) nT
      have hT : upd H2 T1 (.tup [.int (i : Nat), .ref q]) T1 = some (.tup [.int (i : Nat), .ref q]) := upd_same
      generalize upd H2 T1 (.tup [.int (i : Nat), .ref q]) = H3 at *
      have k3 := k2.trans (kT.mono (by simp))
      have nq : q ≠ x := ne_of hq hx (by intro z; cases z)
      have hq3 := k3 _ _ hq (by simpa using nq)
      have hl3 := k3 _ _ hl (by simpa using hxl hl)
      have hx3 := kT _ _ hx2 (by simp)
      have hd3 := kT _ _ hd2 (by simp)
      have tk3 : TK H H3 := fun b zs hb => k3 _ _ hb (by simpa using (show b ≠ x from ne_of hb hx (by intro z; cases z)))
      have hvw3 := hvw.tk tk3
      have hpe3 := hpe.keep (KI.of kT) fun b zs hb => kT _ _ hb (by simp)
      refine ⟨T1, _, rfl, SqT.of hT, rfl, _, _, rfl, _, _, rfl, rfl, ?_⟩
      refine ⟨_, rfl, q, _, rfl, SqT.of hq3, rfl, _, _, rfl, _, _, rfl, rfl, ?_⟩
      obtain ⟨bb, vxs, rfl, hbb, hvv, hvl⟩ := td_grow hvw3
      have hnd3 : NDat P w H3 d xs := ⟨.inl hd3, hpe3.nk⟩
      have hnone : valN xs (keyV L) = none := by
        rcases hpe3.look L with ⟨rs', l', h1, h2, _⟩ | ⟨_, h2⟩
        · exfalso
          unfold look at h1
          obtain ⟨e, he, _⟩ := Option.map_eq_some_iff.mp h1
          have hm := List.mem_of_find?_eq_some he
          have hL := List.find?_some he
          obtain ⟨j, hj⟩ := List.getElem?_of_mem hm
          have hjt : j < i ∧ t[j]? = some e := by
            have := (List.getElem?_eq_some_iff.mp hj).1
            rw [List.length_take] at this
            refine ⟨by omega, ?_⟩
            rw [List.getElem?_take_of_lt (by omega)] at hj; exact hj
          have e1 : (t.map (·.1))[j]? = some L := by rw [List.getElem?_map, hjt.2]; exact congrArg some (of_decide_eq_true hL)
          have e2 : (t.map (·.1))[i]? = some L := by rw [List.getElem?_map, hti]; rfl
          have := (List.getElem?_inj (by have := (List.getElem?_eq_some_iff.mp e1).1; exact this) hnd).mp (e1.trans e2.symm)
          omega
        · exact h2
      have hlo := hok (L, rs) (List.mem_of_getElem? hti)
      have hrl3 : RL C_Ratio H3 ys rs := hrl.keepx k3 hx
      have hne : ys ≠ [] := fun z => hlo.ne (by have := hrl.len; rw [z] at this; exact List.length_eq_zero_iff.mp this.symm)
      refine ⟨_, rfl, _, rfl, x, C_Plan, dx, _, _, rfl, hx3, T.cl_Plan, T.a_Plan_table, rfl, d, _, rfl, ⟨xs, keyV L, bb, hnd3, rfl, nk_view hvw3, depth_kv _, rfl⟩, _, rfl, ?_⟩
      rw [hnone]
      refine iteF ⟨_, rfl, true, ?_, iteF ⟨_, rfl, l, rs, rfl, ⟨ys, hl3, hrl3⟩, hlo, fun H4 k4 => ⟨_, rfl, iteF ?_⟩⟩⟩
      · refine .inl ⟨ys, SqL.of hl3, ?_⟩
        cases ys with
        | nil => exact absurd rfl hne
        | cons _ _ => rfl
      have hl4 := k4 _ _ hl3 (by simp)
      refine ⟨_, rfl, l, ys, rfl, .inl (SqL.of hl4), fun l2 nl2 => ?_⟩
      have k5 := k4.trans (Keep.new (W := []) (o := .lst ys) nl2)
      have hl5 : upd H4 l2 (.lst ys) l2 = some (.lst ys) := upd_same
      have nl23 : H3 l2 = none := k4.free nl2
      generalize upd H4 l2 (.lst ys) = H5 at *
      have hx5 := k5 _ _ hx3 (by simp)
      have hd5 := k5 _ _ hd3 (by simp)
      have hv5 := hvw3.tk k5.tk
      have hpe5 := hpe3.keep (KI.of k5) fun b zs hb => k5 _ _ hb (by simp)
      have hrl5 := hrl3.keep (KI.of k5)
      have hpl := hpe5.len
      rw [List.length_take] at hpl
      refine ⟨_, rfl, x, C_Plan, dx, _, _, rfl, hx5, T.cl_Plan, T.a_Plan_table, rfl, _, rfl, d, _, rfl, ⟨xs, keyV L, bb, ⟨.inl hd5, hpe5.nk⟩, hd5, rfl, nk_view hv5, depth_kv _, smallL (by omega), rfl⟩, ?_⟩
      have kd : Keep [d] H5 (upd H5 d (ndO P w d (putN xs (keyV L) bb (.ref l2)))) := Keep.at_ (by simp)
      have ki := KI.at_ hd5 kd (fun _ z => nomatch z) (fun _ _ _ z => nomatch z)
      have kl : ∀ b zs, H5 b = some (.lst zs) → upd H5 d (ndO P w d (putN xs (keyV L) bb (.ref l2))) b = some (.lst zs) := fun b zs hb => by
        rw [upd_ne (ne_of hb hd5 (by intro z; cases z))]; exact hb
      refine ⟨putN xs (keyV L) bb (.ref l2), _, _, _, _, rfl, ki.2 _ _ _ _ hx5, upd_same, ?_, ?_⟩
      · have et : t.take (i + 1) = t.take i ++ [(L, rs)] := by
          obtain ⟨hil, hie⟩ := List.getElem?_eq_some_iff.mp hti
          rw [List.take_succ_eq_append_getElem hil, hie]
        rw [et, putN_new hnone]
        rw [putN_new hnone] at ki kl
        exact (hpe5.keep ki kl).snoc (hv5.tk ki.tk) ⟨ys, kl _ _ hl5, hrl5.keep ki⟩
      · intro b o hb hbx
        have hbd : b ≠ d := ne_of_none hb nd
        rw [upd_ne hbd]
        exact k5 _ _ (k3 _ _ hb hbx) (by simp)
    · rintro σ H2 ⟨xs, o2, o3, o4, o5, rfl, hx2, hd2, hpe, k2⟩
      rw [hg.len, List.take_length] at hpe
      exact k _ ⟨dx, d, xs, hx2, hd2, hpe⟩ k2
theorem ok_lots_at {f : Addr} {fd : FuncData} (M : Meth K C_Plan "lots_at" f) (F : C8.Fun K "lots_at" "Plan.lots_at" s_Plan_lots_at f fd) (b : Binds K fd ["self", "view", "count"] []) (T : Txt K mg C_Ratio C_Plan) (c_Ratio : C8.Mak P w K mg base 1 "Ratio" C_Ratio (sp_rat C_Ratio) [.int 1]) : C8.Met P w K mg base 3 C_Plan "lots_at" (sp_lots_at P w C_Plan C_Ratio) [] := by
  refine met0 T.cl_Plan M F b sc_Plan_lots_at (fun vs H Q E h => ?_) (fun cdv A outer s H vs Q E hr h => ?_)
  · obtain ⟨x, v, t, L, c, rfl, _⟩ := h
    rfl
  · obtain ⟨x, v, t, L, c, rfl, hp, hv, hc, hl, k⟩ := h
    refine ⟨_, (pss_cons (ps_set (i := 3) sc_Plan_lots_at.nd rfl (by first | exact Or.inl rfl | exact Or.inr rfl) (pe_nget2 (P := P) (w := w) (un65 hr) (pe_fld (pv 0) rfl) (pv 1) pe_non ⟨rfl, by rfl, rfl, rfl⟩))
(pss_cons (ps_if (PW.pt (pw_or (pt_cmpR op_isN (pv 3) pe_non (nomark _)) (pw_or1 (pt_cmpR op_ne (pe_callB call_len_seq (by rfl) T.n_len bo_len (pa_cons (pv 3) pa_nil)) (pv 2) (nomark _)))))
  (pss_one (ps_ret (pe_lc (own := [("k", 4)]) (g := gName 4) (tt := tYes) rfl sc_Plan_lots_at.nd (pi_range1 (by rfl) T.n_range (pa_cons (pv 2) pa_nil)) (blkOk_by (N := ["self", "view", "count", "lots", "k"]) (sc := fnScope s_Plan_lots_at) (by decide +kernel)) (fun _ _ _ _ _ => pg_name (i := 4) sc_Plan_lots_at.nd rfl (by first | exact Or.inl rfl | exact Or.inr rfl)) (fun _ _ _ _ _ => pts_nil) (fun _ _ _ _ _ => (pe_mk c_Ratio hr (by first | exact Nat.le_refl _ | decide | omega) rfl (pa_cons (pe_callTy call_int1 (by rfl) T.n_int bo_int (pa_cons (pe_cmpR op_eq (pv 4) pe_int (nomark _)) pa_nil)) pa_nil))))))
  pss_nil)
(pss_one (ps_ret (pe_callTy call_list_of (by rfl) T.n_list bo_list (pa_cons (pv 3) pa_nil)))))), ?_⟩
    obtain ⟨dx, d, xs, hx, hd, hpe⟩ := hp
    obtain ⟨bb, vxs, rfl, hbb, hvv, hvl⟩ := td_grow hv
    refine ⟨_, rfl, x, C_Plan, dx, _, _, rfl, hx, T.cl_Plan, T.a_Plan_table, rfl, d, xs, rfl, .inl hd, _, rfl, _, ⟨xs, keyV L, bb, ⟨.inl hd, hpe.nk⟩, rfl, nk_view hv, depth_kv _, rfl⟩, ?_⟩
    rcases hpe.look L with ⟨rs, l0, h1, h2, ⟨ys, hys, hrl⟩⟩ | ⟨h1, h2⟩
    · rw [h2]
      have hyl := hrl.len
      refine ⟨_, rfl, rfl, _, rfl, iteDF (fun z => by cases z) ⟨_, rfl, l0, ys, rfl, .inl (SqL.of hys), _, rfl, rfl, _, rfl, iteN (fun hne => ?_) (fun heq => ?_)⟩⟩
      · have hne' : rs.length ≠ c := fun z => hne (by rw [hyl, z])
        refine ⟨_, rfl, (c : Int), rfl, by omega, by omega, fun l nl => ?_⟩
        refine lc_range (lo := 0) (n := c) (fun i H' => LA C_Ratio H' l (rs0 i) ∧ Keep [] H H') ⟨⟨[], upd_same, .nil⟩, Keep.new nl⟩ ?_ ?_
        · rintro i H' hi ⟨⟨us, hus, hur⟩, kk⟩
          have e0 : (0 : Int) + (i : Int) = (i : Int) := by omega
          rw [e0]
          have hul := hur.len
          rw [rs0_len] at hul
          refine ⟨rfl, yes_then ⟨_, rfl, rfl, .inr ⟨_, rfl, fun x' dx' nx ndx ne => ⟨x', dx', _, 1, rfl, by decide, by decide, upd_same, fun H2 K2 hx2 => ⟨rfl, ?_⟩⟩⟩⟩⟩
          have km := keep_made nx ndx K2
          rw [(red_one _).1, (red_one _).2, dec_len] at hx2
          have hus2 := km _ _ hus (by simp)
          refine ⟨us, hus2, smallL (by omega), ⟨us ++ [.ref x'], upd_same, ?_⟩, (kk.trans km).then_own nl⟩
          rw [rs0_succ]
          refine ((hur.keep (KI.of km)).keep (KI.lst hus2)).snoc ⟨dx', ?_⟩
          have hx3 := (KI.lst (o := .lst (us ++ [.ref x'])) hus2).2 _ _ _ _ hx2
          rw [hx3]
          by_cases h : i = 0
          · rw [decide_eq_true h, if_pos h]; rfl
          · rw [decide_eq_false h, if_neg h]; rfl
        · rintro H' ⟨hla, kk⟩
          refine k l H' nl ?_ kk
          rw [lotsAt_not h1 hne']
          exact hla
      · have heq' : rs.length = c := by have := V.int.inj heq; omega
        refine ⟨_, rfl, l0, ys, rfl, .inl (SqL.of hys), fun l nl => ?_⟩
        have kl := Keep.new (W := []) (o := .lst ys) nl
        refine k l _ nl ?_ kl
        rw [lotsAt_some h1 heq']
        exact ⟨ys, upd_same, hrl.keep (KI.of kl)⟩
    · rw [h2]
      refine ⟨_, rfl, rfl, _, rfl, iteDT rfl ?_⟩
      refine ⟨_, rfl, (c : Int), rfl, by omega, by omega, fun l nl => ?_⟩
      refine lc_range (lo := 0) (n := c) (fun i H' => LA C_Ratio H' l (rs0 i) ∧ Keep [] H H') ⟨⟨[], upd_same, .nil⟩, Keep.new nl⟩ ?_ ?_
      · rintro i H' hi ⟨⟨us, hus, hur⟩, kk⟩
        have e0 : (0 : Int) + (i : Int) = (i : Int) := by omega
        rw [e0]
        have hul := hur.len
        rw [rs0_len] at hul
        refine ⟨rfl, yes_then ⟨_, rfl, rfl, .inr ⟨_, rfl, fun x' dx' nx ndx ne => ⟨x', dx', _, 1, rfl, by decide, by decide, upd_same, fun H2 K2 hx2 => ⟨rfl, ?_⟩⟩⟩⟩⟩
        have km := keep_made nx ndx K2
        rw [(red_one _).1, (red_one _).2, dec_len] at hx2
        have hus2 := km _ _ hus (by simp)
        refine ⟨us, hus2, smallL (by omega), ⟨us ++ [.ref x'], upd_same, ?_⟩, (kk.trans km).then_own nl⟩
        rw [rs0_succ]
        refine ((hur.keep (KI.of km)).keep (KI.lst hus2)).snoc ⟨dx', ?_⟩
        have hx3 := (KI.lst (o := .lst (us ++ [.ref x'])) hus2).2 _ _ _ _ hx2
        rw [hx3]
        by_cases h : i = 0
        · rw [decide_eq_true h, if_pos h]; rfl
        · rw [decide_eq_false h, if_neg h]; rfl
      · rintro H' ⟨hla, kk⟩
        refine k l H' nl ?_ kk
        rw [lotsAt_none h1]
        exact hla
end

theorem two_halves {a b : Nat} (h : b ≤ a) : b * (a % b) * 2 ≤ a * b := by
  rcases Nat.eq_zero_or_pos b with hb | hb
  · subst hb; simp
  · have h1 : a % b < b := Nat.mod_lt _ hb
    have h2 : a % b + b ≤ a := by
      have h3 := Nat.div_add_mod a b
      have h4 : 1 ≤ a / b := (Nat.one_le_div_iff hb).mpr h
      have h5 : b * 1 ≤ b * (a / b) := Nat.mul_le_mul_left _ h4
      omega
    have h6 : (a % b) * 2 ≤ a := by omega
    calc b * (a % b) * 2 = b * ((a % b) * 2) := Nat.mul_assoc _ _ _
      _ ≤ b * a := Nat.mul_le_mul_left _ h6
      _ = a * b := Nat.mul_comm _ _

def sp_fraction : Sp := fun vs H Q _ => ∃ n d : Int, vs = [.int n, .int d] ∧ 0 < d ∧ n.natAbs < 2 ^ 1900 ∧ d.natAbs < 2 ^ 1900 ∧ ∀ t H', H' t = some (.tup [.int (redN n d), .int (redD n d)]) → Keep [] H H' → Q (.ref t) H'
def sp_equals (C : Addr) : Sp := fun vs H Q _ => ∃ (p q : Addr) (r : Rt), vs = [.ref p, .ref q] ∧ RatAt C H p r.1 r.2 ∧ H q = some (.tup [.int r.1, .int r.2]) ∧ RtOk r ∧ ∀ H', Keep [] H H' → Q (.bl true) H'
inductive DL (H : Hp) : List V → List Rt → Prop
  | nil : DL H [] []
  | cons {q : Addr} {r : Rt} {vs : List V} {rs : List Rt} : H q = some (.tup [.int r.1, .int r.2]) → DL H vs rs → DL H (.ref q :: vs) (r :: rs)
theorem DL.tk {H H' : Hp} (k : TK H H') {vs : List V} {rs : List Rt} (h : DL H vs rs) : DL H' vs rs := by
  induction h with
  | nil => exact .nil
  | cons h _ ih => exact .cons (k _ _ h) ih
theorem DL.len {H : Hp} {vs : List V} {rs : List Rt} (h : DL H vs rs) : vs.length = rs.length := by
  induction h with
  | nil => rfl
  | cons _ _ ih => rw [List.length_cons, List.length_cons, ih]
theorem DL.snoc {H : Hp} {vs : List V} {rs : List Rt} {q : Addr} {r : Rt} (h : DL H vs rs) (hq : H q = some (.tup [.int r.1, .int r.2])) : DL H (vs ++ [.ref q]) (rs ++ [r]) := by
  induction h with
  | nil => exact .cons hq .nil
  | cons h _ ih => exact .cons h ih
theorem DL.get {H : Hp} {vs : List V} {rs : List Rt} (h : DL H vs rs) : ∀ {i : Nat} {r : Rt}, rs[i]? = some r → ∃ q, vs[i]? = some (.ref q) ∧ H q = some (.tup [.int r.1, .int r.2]) := by
  induction h with
  | nil => intro i r e; simp at e
  | @cons q r vs rs h _ ih =>
    intro i s e
    cases i with
    | zero => simp at e; subst e; exact ⟨q, rfl, h⟩
    | succ j => simp at e; obtain ⟨p', a, b⟩ := ih e; exact ⟨p', by simpa using a, b⟩
def sp_lots (P : Program) (w : World) (CP CR : Addr) : Sp := fun vs H Q _ => ∃ (x dl : Addr) (v : V) (t : List Ent2) (L : List Ev) (c : Nat) (ds : List V), vs = [.ref x, v, .int c, .ref dl] ∧ PlanAt P w CP CR H x t ∧ TD H v (dView L) ∧ 1 ≤ c ∧ c ≤ 500 ∧ (∀ e ∈ t, e.2.length ≤ 1000) ∧ H dl = some (.lst ds) ∧ DL H ds (lotsAt t L c) ∧ (∀ r ∈ lotsAt t L c, RtOk r) ∧ (lotsAt t L c).length = c ∧ ∀ H', Keep [] H H' → Q (.bl true) H'
theorem sg_pos {n d : Int} (h : 0 < d) : sg n d = ((Nat.gcd n.natAbs d.natAbs : Nat) : Int) := by unfold sg; rw [if_neg (by omega)]
theorem red_red {r : Rt} (h : RtOk r) : redD r.1 r.2 = r.2 := by
  unfold redD
  rw [sg_pos h.pos, h.one]
  exact Int.fdiv_one _
theorem inV_rep (n : Nat) : inV (V.bl false) (List.replicate n (V.bl true)) = false ∧ (List.replicate n (V.bl true)).all flatV = true := by
  induction n with
  | zero => exact ⟨rfl, rfl⟩
  | succ m ih =>
    rw [List.replicate_succ]
    refine ⟨?_, ?_⟩
    · show (eqV (V.bl true) (V.bl false) || inV (V.bl false) (List.replicate m (V.bl true))) = false
      rw [ih.1]; rfl
    · rw [List.all_cons, ih.2]; rfl
section
variable {P : Program} {w : World} {K : PySem.W.Frag} {mg : Str → Option Value} {base : Heap} {C_Ratio : Addr} {C_Plan : Addr}
theorem ok_fraction {f : Addr} {fd : FuncData} (D : C8.Def K mg "_law_fraction" s_law_fraction f fd) (b : Binds K fd ["num", "den"] []) (T : Txt K mg C_Ratio C_Plan) : C8.Cal P w K mg base 1 "_law_fraction" sp_fraction [] := by
  refine cal0 D b .nil sc_law_fraction (fun vs H Q E h => ?_) (fun cdv A outer s H vs Q E hr h => ?_)
  · obtain ⟨n, d, rfl, _⟩ := h
    rfl
  · obtain ⟨n, d, rfl, hd, hnb, hdb, k⟩ := h
    refine ⟨_, (pss_cons (ps_set (i := 2) sc_law_fraction.nd rfl (by first | exact Or.inl rfl | exact Or.inr rfl) (pe_callB call_abs (by rfl) T.n_abs bo_abs (pa_cons (pv 0) pa_nil)))
(pss_cons (ps_set (i := 3) sc_law_fraction.nd rfl (by first | exact Or.inl rfl | exact Or.inr rfl) (pe_callB call_abs (by rfl) T.n_abs bo_abs (pa_cons (pv 1) pa_nil)))
(pss_cut (ps_for PassesOwn.never rfl (pi_range1 (by rfl) T.n_range (pa_cons pe_int pa_nil)) (pg_name (i := 4) sc_law_fraction.nd rfl (by first | exact Or.inl rfl | exact Or.inr rfl))
  (pss_cons (ps_if (pt_cmpR op_eq (pv 3) pe_int (nomark _))
    (pss_one ps_break)
    pss_nil)
  (pss_cons (ps_set (i := 5) sc_law_fraction.nd rfl (by first | exact Or.inl rfl | exact Or.inr rfl) (pe_op op_mod (pe_callTy call_int1 (by rfl) T.n_int bo_int (pa_cons (pv 2) pa_nil)) (pv 3)))
  (pss_cons (ps_set (i := 2) sc_law_fraction.nd rfl (by first | exact Or.inl rfl | exact Or.inr rfl) (pv 3))
  (pss_one (ps_set (i := 3) sc_law_fraction.nd rfl (by first | exact Or.inl rfl | exact Or.inr rfl) (pv 5)))))))
(pss_one (ps_ret (pe_tup (pa_cons (pe_op op_fdivG (pv 0) (pv 2)) (pa_cons (pe_op op_fdivG (pv 1) (pv 2)) pa_nil)))))))), ?_⟩
    have abs_eq : ∀ z : Int, (if z < 0 then -z else z) = ((z.natAbs : Nat) : Int) := fun z => by split <;> omega
    have hab : n.natAbs * d.natAbs < 2 ^ 3900 := by
      refine Nat.lt_of_lt_of_le (Nat.mul_lt_mul'' hnb hdb) ?_
      rw [← Nat.pow_add]; exact Nat.pow_le_pow_right (by decide) (by decide)
    refine ⟨_, rfl, _, rfl, _, rfl, _, rfl, ?_⟩
    refine ⟨fun σ H' => H' = H ∧ ∃ o3 o4 o5, σ = [some (.int n), some (.int d), some (.int ((Nat.gcd n.natAbs d.natAbs : Nat) : Int)), o3, o4, o5], ?_, ?_⟩
    · refine ⟨4000, rfl, by decide, by decide, ?_⟩
      show (∃ W : Nat → Nat → L2.St → Hp → Prop, (∃ m, W 0 m [some (.int n), some (.int d), some (.int (if n < 0 then -n else n)), some (.int (if d < 0 then -d else d)), none, none] H) ∧ _)
      rw [abs_eq, abs_eq]
      refine for_range (lo := 0) (n := 4000) (fun i σ H' => H' = H ∧ ∃ (x y : Nat) (o2 o3 : Option V), σ = [some (.int n), some (.int d), some (.int (x : Int)), some (.int (y : Int)), o2, o3] ∧ Nat.gcd x y = Nat.gcd n.natAbs d.natAbs ∧
          (i = 0 ∨ y ≤ x) ∧ x * y * 2 ^ (i - 1) < 2 ^ 3900)
        ⟨rfl, n.natAbs, d.natAbs, none, none, rfl, rfl, .inl rfl, ?_⟩ ?_ ?_
      · show n.natAbs * d.natAbs * 1 < _
        rw [Nat.mul_one]; exact hab
      · rintro i σ H' hi ⟨rfl, x, y, o2, o3, rfl, hg, hxy, hp⟩
        refine ⟨_, rfl, rfl, _, rfl, iteD (fun e => ?_) (fun e => ?_)⟩
        · have hy : y = 0 := by have := V.int.inj e; omega
          subst hy
          refine ⟨rfl, some (.int ((0 : Nat) : Int)), some (.int ((0 : Int) + (i : Int))), o3, ?_⟩
          have : ((Nat.gcd n.natAbs d.natAbs : Nat) : Int) = (x : Int) := by rw [← hg, Nat.gcd_zero_right]
          rw [this]; rfl
        · have hy : 0 < y := by
            have : ¬ ((y : Nat) : Int) = 0 := fun z => e (congrArg V.int z)
            omega
          refine ⟨_, rfl, .inl ⟨_, rfl, _, rfl, _, _, rfl, rfl, (by show (0 : Int) < _; omega), ?_⟩⟩
          refine ⟨_, rfl, _, rfl, rfl, y, x % y, _, _, rfl, ?_, .inr (Nat.le_of_lt (Nat.mod_lt _ hy)), ?_⟩
          · rw [Nat.gcd_comm x y, Nat.gcd_rec] at hg
            rw [Nat.gcd_comm]; exact hg
          · show y * (x % y) * 2 ^ (i + 1 - 1) < _
            rw [Nat.add_sub_cancel]
            rcases hxy with h0 | h0
            · subst h0
              have h1 : y * (x % y) ≤ x * y := by rw [Nat.mul_comm x y]; exact Nat.mul_le_mul_left _ (Nat.mod_le _ _)
              exact Nat.lt_of_le_of_lt (Nat.mul_le_mul_right _ h1) hp
            · cases i with
              | zero =>
                have h1 : y * (x % y) ≤ x * y := by rw [Nat.mul_comm x y]; exact Nat.mul_le_mul_left _ (Nat.mod_le _ _)
                exact Nat.lt_of_le_of_lt (Nat.mul_le_mul_right _ h1) hp
              | succ j =>
                rw [Nat.add_sub_cancel] at hp
                have h1 := two_halves h0
                rw [Nat.pow_succ, Nat.mul_comm (2 ^ j) 2, ← Nat.mul_assoc]
                exact Nat.lt_of_le_of_lt (Nat.mul_le_mul_right _ h1) hp
      · rintro σ H' ⟨rfl, x, y, o2, o3, rfl, hg, hxy, hp⟩
        have hyx : y ≤ x := hxy.resolve_left (by decide)
        have hy : y = 0 := by
          rcases Nat.eq_zero_or_pos y with h0 | h0
          · exact h0
          · exfalso
            have h1 : 1 ≤ x * y := Nat.mul_pos (by omega) h0
            have h2 : 1 * 2 ^ (4000 - 1) ≤ x * y * 2 ^ (4000 - 1) := Nat.mul_le_mul_right _ h1
            have h3 : (2 : Nat) ^ 3900 ≤ 2 ^ (4000 - 1) := Nat.pow_le_pow_right (by decide) (by decide)
            omega
        subst hy
        refine ⟨rfl, some (.int ((0 : Nat) : Int)), o2, o3, ?_⟩
        have : ((Nat.gcd n.natAbs d.natAbs : Nat) : Int) = (x : Int) := by rw [← hg, Nat.gcd_zero_right]
        rw [this]
    · rintro σ H' ⟨rfl, o3, o4, o5, rfl⟩
      have hs := sg_ne (n := n) (d := d) (by omega)
      rw [← sg_pos hd]
      have hgb : Nat.gcd n.natAbs d.natAbs < 2 ^ 1900 := Nat.lt_of_le_of_lt (Nat.le_of_dvd (by omega) (Nat.gcd_dvd_right _ _)) hdb
      have hsb : CDivG n (sg n d) := ⟨hs, by
        refine Nat.lt_trans (log2_lt9 (b := 1900) ?_ (by decide)) (by decide)
        rw [sg_pos hd]; omega⟩
      refine ⟨_, rfl, _, rfl, _, _, rfl, rfl, hsb, _, rfl, _, rfl, _, _, rfl, rfl, hsb, And.intro (by show 2 ≤ sizeLine; decide) <| fun t nt => ?_⟩
      exact k t _ upd_same (Keep.new nt)
theorem ok_equals {f : Addr} {fd : FuncData} (D : C8.Def K mg "_law_equals" s_law_equals f fd) (b : Binds K fd ["actual", "pair"] []) (T : Txt K mg C_Ratio C_Plan) (c_law_is_integer : C8.Cal P w K mg base 1 "_law_is_integer" sp_isint []) (c_law_fraction : C8.Cal P w K mg base 1 "_law_fraction" sp_fraction []) : C8.Cal P w K mg base 2 "_law_equals" (sp_equals C_Ratio) [] := by
  refine cal0 D b .nil sc_law_equals (fun vs H Q E h => ?_) (fun cdv A outer s H vs Q E hr h => ?_)
  · obtain ⟨p, q, r, rfl, _⟩ := h
    rfl
  · obtain ⟨p, q, r, rfl, ⟨dx, hp⟩, hq, hok, k⟩ := h
    refine ⟨_, (pss_cons (ps_if (PW.pt (pw_or (pt_not (pt_val (pe_callB (call_isC T.i_Ratio) (by rfl) T.n_isinstance bo_isinstance (pa_cons (pv 0) (pa_cons (pe_glob (v := .ref _) rfl T.m_Ratio rfl) pa_nil))))) (pw_or (pt_not (pt_val (pe_c c_law_is_integer hr (by first | exact Nat.le_refl _ | decide | omega) rfl (pa_cons (pe_fld (pv 0) rfl) pa_nil)))) (pw_or1 (pt_not (pt_val (pe_c c_law_is_integer hr (by first | exact Nat.le_refl _ | decide | omega) rfl (pa_cons (pe_fld (pv 0) rfl) pa_nil))))))))
  (pss_one (ps_ret pe_bl))
  pss_nil)
(pss_one (ps_ret (pe_and (pe_cmpR op_gt (pe_fld (pv 0) rfl) pe_int (nomark _)) (pe_and (pe_cmpR op_eq (pe_op op_mulO (pe_fld (pv 0) rfl) (pe_ix ix_tup (pv 1) pe_int (fun _ _ => rfl))) (pe_op op_mulO (pe_ix ix_tup (pv 1) pe_int (fun _ _ => rfl)) (pe_fld (pv 0) rfl)) (nomark _)) (pe_one (pe_cmpR op_eq (pe_ix ix_tup (pe_c c_law_fraction hr (by first | exact Nat.le_refl _ | decide | omega) rfl (pa_cons (pe_fld (pv 0) rfl) (pa_cons (pe_fld (pv 0) rfl) pa_nil))) pe_int (fun _ _ => rfl)) (pe_fld (pv 0) rfl) (nomark _)))))))), ?_⟩
    refine ⟨_, rfl, p, dx, _, rfl, hp, _, rfl, iteF ?_⟩
    refine ⟨_, rfl, p, C_Ratio, dx, _, _, rfl, hp, T.cl_Ratio, T.a_Ratio_num, rf_num _ _, _, rfl, _, rfl, iteF ?_⟩
    refine ⟨_, rfl, p, C_Ratio, dx, _, _, rfl, hp, T.cl_Ratio, T.a_Ratio_den, rf_den _ _, _, rfl, _, rfl, iteF ?_⟩
    have b1 := hok.n
    have b2 := hok.d
    have big : (2 : Nat) ^ 300 ≤ 2 ^ 1900 := Nat.pow_le_pow_right (by decide) (by decide)
    have cm : ∀ i j : Int, i.natAbs < 2 ^ 300 → j.natAbs < 2 ^ 300 → IntMulOk i j := fun i j h1 h2 => IntMulOk.of_le (m := 300) (n := 300) (intBits_le_iff.mpr h1) (intBits_le_iff.mpr h2) (by decide)
    refine ⟨_, rfl, p, C_Ratio, dx, _, _, rfl, hp, T.cl_Ratio, T.a_Ratio_den, rf_den _ _, _, _, rfl, rfl, ?_⟩
    refine ⟨_, rfl, iteDT hok.pos ?_⟩
    refine ⟨_, rfl, p, C_Ratio, dx, _, _, rfl, hp, T.cl_Ratio, T.a_Ratio_num, rf_num _ _, _, rfl, _, _, _, _, rfl, rfl, SqT.of hq, rfl, _, _, rfl, rfl, cm _ _ b1 b2, ?_⟩
    refine ⟨_, rfl, _, _, _, _, rfl, rfl, SqT.of hq, rfl, _, rfl, p, C_Ratio, dx, _, _, rfl, hp, T.cl_Ratio, T.a_Ratio_den, rf_den _ _, _, _, rfl, rfl, cm _ _ b1 b2, rfl, _, rfl, iteDT rfl ?_⟩
    refine ⟨_, rfl, p, C_Ratio, dx, _, _, rfl, hp, T.cl_Ratio, T.a_Ratio_num, rf_num _ _, _, rfl, p, C_Ratio, dx, _, _, rfl, hp, T.cl_Ratio, T.a_Ratio_den, rf_den _ _, r.1, r.2, rfl, hok.pos, by omega, by omega, fun t H1 ht K1 => ?_⟩
    refine ⟨_, _, _, _, rfl, rfl, SqT.of ht, rfl, _, rfl, p, C_Ratio, dx, _, _, rfl, K1 _ _ hp (by simp), T.cl_Ratio, T.a_Ratio_den, rf_den _ _, rfl, ?_⟩
    rw [red_red hok, decide_eq_true rfl]
    exact k _ K1
theorem ok_lots {f : Addr} {fd : FuncData} (D : C8.Def K mg "_law_lots" s_law_lots f fd) (b : Binds K fd ["plan", "view", "count", "due"] []) (T : Txt K mg C_Ratio C_Plan) (c_Plan_lots_at : C8.Met P w K mg base 3 C_Plan "lots_at" (sp_lots_at P w C_Plan C_Ratio) []) (c_law_equals : C8.Cal P w K mg base 2 "_law_equals" (sp_equals C_Ratio) []) (c_Ratio : C8.Mak P w K mg base 1 "Ratio" C_Ratio (sp_rat C_Ratio) [.int 1]) : C8.Cal P w K mg base 4 "_law_lots" (sp_lots P w C_Plan C_Ratio) [] := by
  refine cal0 D b .nil sc_law_lots (fun vs H Q E h => ?_) (fun cdv A outer s H vs Q E hr h => ?_)
  · obtain ⟨x, dl, v, t, L, c, ds, rfl, _⟩ := h
    rfl
  · obtain ⟨x, dl, v, t, L, c, ds, rfl, hP, hv, hc1, hc2, ht, hdl, hds, hok, hlen, k⟩ := h
    refine ⟨_, (pss_cons (ps_set (i := 4) sc_law_lots.nd rfl (by first | exact Or.inl rfl | exact Or.inr rfl) (pe_mt c_Plan_lots_at hr (by first | exact Nat.le_refl _ | decide | omega) (pv 0) (pa_cons (pv 1) (pa_cons (pv 2) pa_nil))))
(pss_cons (ps_if (PW.pt (pw_or (pt_not (pt_val (pe_callB call_isi (by rfl) T.n_isinstance bo_isinstance (pa_cons (pv 4) (pa_cons (pe_bltn (v := .ty "list") (by rfl) T.n_list bo_list rfl) pa_nil))))) (pw_or1 (pt_cmpR op_ne (pe_callB call_len_seq (by rfl) T.n_len bo_len (pa_cons (pv 4) pa_nil)) (pv 2) (nomark _)))))
  (pss_one (ps_ret pe_bl))
  pss_nil)
(pss_cons (ps_for PassesOwn.never rfl (pi_range1 (by rfl) T.n_range (pa_cons (pv 2) pa_nil)) (pg_name (i := 5) sc_law_lots.nd rfl (by first | exact Or.inl rfl | exact Or.inr rfl))
  (pss_one (ps_if (pt_not (pt_val (pe_c c_law_equals hr (by first | exact Nat.le_refl _ | decide | omega) rfl (pa_cons (pe_ix ix_list (pv 4) (pv 5) (fun _ _ => rfl)) (pa_cons (pe_ix ix_list (pv 3) (pv 5) (fun _ _ => rfl)) pa_nil)))))
    (pss_one (ps_ret pe_bl))
    pss_nil)))
(pss_cons (ps_expr (pe_bm PySem.F.plainAttrs_list PySem.F.slot_list_append PySem.F.type_list_append mt_append (pv 4) (pa_cons (pe_mk c_Ratio hr (by first | exact Nat.le_refl _ | decide | omega) rfl (pa_cons pe_int pa_nil)) pa_nil)))
(pss_cons (ps_asg (pe_mk c_Ratio hr (by first | exact Nat.le_refl _ | decide | omega) rfl (pa_cons pe_int pa_nil)) (pg_sub (pv 4) pe_int set_list))
(pss_cons (ps_set (i := 6) sc_law_lots.nd rfl (by first | exact Or.inl rfl | exact Or.inr rfl) (pe_mt c_Plan_lots_at hr (by first | exact Nat.le_refl _ | decide | omega) (pv 0) (pa_cons (pv 1) (pa_cons (pv 2) pa_nil))))
(pss_cons (ps_if (PW.pt (pw_or (pt_not (pt_val (pe_callB call_isi (by rfl) T.n_isinstance bo_isinstance (pa_cons (pv 6) (pa_cons (pe_bltn (v := .ty "list") (by rfl) T.n_list bo_list rfl) pa_nil))))) (pw_or1 (pt_cmpR op_ne (pe_callB call_len_seq (by rfl) T.n_len bo_len (pa_cons (pv 6) pa_nil)) (pv 2) (nomark _)))))
  (pss_one (ps_ret pe_bl))
  pss_nil)
(pss_cons (ps_if (PW.pt (pw_or (pt_cmpR op_ne (pe_callB call_len_seq (by rfl) T.n_len bo_len (pa_cons (pv 4) pa_nil)) (pe_op op_add (pv 2) pe_int) (nomark _)) (pw_or1 (pt_not (pt_val (pe_c c_law_equals hr (by first | exact Nat.le_refl _ | decide | omega) rfl (pa_cons (pe_ix ix_list (pv 4) pe_int (fun _ _ => rfl)) (pa_cons (pe_tup (pa_cons pe_int (pa_cons pe_int pa_nil))) pa_nil))))))))
  (pss_one (ps_ret pe_bl))
  pss_nil)
(pss_one (ps_ret (pe_cmpR op_notIn_seq pe_bl (pe_lc (own := [("k", 5)]) (g := gName 5) (tt := tYes) rfl sc_law_lots.nd (pi_range1 (by rfl) T.n_range (pa_cons (pv 2) pa_nil)) (blkOk_by (N := ["plan", "view", "count", "due", "actual", "k", "again"]) (sc := fnScope s_law_lots) (by decide +kernel)) (fun _ _ _ _ _ => pg_name (i := 5) sc_law_lots.nd rfl (by first | exact Or.inl rfl | exact Or.inr rfl)) (fun _ _ _ _ _ => pts_nil) (fun _ _ _ _ _ => (pe_c c_law_equals hr (by first | exact Nat.le_refl _ | decide | omega) rfl (pa_cons (pe_ix (ix_listK (K := K)) (pv 6) (pv 5) (fun _ _ => rfl)) (pa_cons (pe_ix (ix_listK (K := K)) (pv 3) (pv 5) (fun _ _ => rfl)) pa_nil))))) (by rfl)))))))))))), ?_⟩
    have kLL : PySem.W.kitOne K (.type "list") (.type "list") = some true := kit_ty (by decide +kernel)
    obtain ⟨dx, d, xs, hx, hd, hpe⟩ := id hP
    refine ⟨_, rfl, x, dx, _, rfl, hx, rfl, _, rfl, _, rfl, x, v, t, L, c, rfl, hP, hv, by omega, ht, fun l H1 nl hla K1 => ?_⟩
    obtain ⟨us, hl, hur⟩ := hla
    have hul := hur.len
    refine ⟨_, rfl, _, _, _, _, _, rfl, .ty _, .base (.lst hl), kLL, _, rfl, iteF ⟨_, rfl, l, us, rfl, .inl (SqL.of hl), _, rfl, rfl, _, rfl, iteNF (by rw [hul, hlen]) ?_⟩⟩
    have hdl1 := K1 _ _ hdl (by simp)
    have hds1 := hds.tk K1.tk
    refine ⟨_, rfl, (c : Int), rfl, by omega, by omega, for_range (lo := 0) (n := c) (fun i σ H' => ∃ o5, σ = [some (.ref x), some v, some (.int c), some (.ref dl), some (.ref l), o5, none] ∧ Keep [] H1 H') ⟨none, rfl, Keep.refl _ _⟩ ?_ ?_⟩
    · rintro i σ H2 hi ⟨o5, rfl, k2⟩
      have e0 : (0 : Int) + (i : Int) = (i : Int) := by omega
      rw [e0]
      have hri : (lotsAt t L c)[i]? = some (lotsAt t L c)[i] := List.getElem?_eq_getElem (by omega)
      obtain ⟨p, hp, hpr⟩ := hur.get hri
      obtain ⟨q, hq, hqr⟩ := hds1.get hri
      exact ⟨_, rfl, _, rfl, _, _, _, _, rfl, rfl, SqL.of (k2 _ _ hl (by simp)), atI_nat hp, _, rfl, _, rfl, _, _, _, _, rfl, rfl, SqL.of (k2 _ _ hdl1 (by simp)), atI_nat hq, p, q, _, rfl, hpr.keep0 k2, k2 _ _ hqr (by simp), hok _ (List.getElem_mem _), fun H3 K3 => ⟨_, rfl, iteF ⟨_, rfl, k2.trans K3⟩⟩⟩
    · rintro σ H2 ⟨o5, rfl, k2⟩
      have k02 := K1.trans k2
      have hl2 := k2 _ _ hl (by simp)
      refine ⟨_, rfl, .inl ⟨rfl, _, SqL.of hl2⟩, fun x1 dx1 nx1 ndx1 ne1 => ⟨x1, dx1, 7, 1, rfl, by decide, by decide, upd_same, fun H3 K3 hx3 => ⟨rfl, ?_⟩⟩⟩
      have km3 := keep_made nx1 ndx1 K3
      have hl3 := km3 _ _ hl2 (by simp)
      have k03 := k02.trans km3
      refine ⟨_, _, _, rfl, rfl, hl3, smallL (by omega), ?_⟩
      have k04 : Keep [] H (upd H3 l (.lst (us ++ [.ref x1]))) := k03.then_own nl
      have hl4 : upd H3 l (.lst (us ++ [.ref x1])) l = some (.lst (us ++ [.ref x1])) := upd_same
      generalize upd H3 l (.lst (us ++ [.ref x1])) = H4 at *
      refine fun x2 dx2 nx2 ndx2 ne2 => ⟨x2, dx2, 5, 1, rfl, by decide, by decide, upd_same, fun H5 K5 hx5 => ⟨rfl, ?_⟩⟩
      have km5 := keep_made nx2 ndx2 K5
      have hl5 := km5 _ _ hl4 (by simp)
      have k05 := k04.trans km5
      have hix : ixN (us ++ [V.ref x1]).length 0 = some 0 := by
        have : (0 : Int) < ((us ++ [V.ref x1]).length : Int) := by rw [List.length_append]; simp only [List.length_cons, List.length_nil]; omega
        unfold ixN
        rw [if_pos (by decide), if_pos this]; rfl
      refine ⟨_, rfl, l, us ++ [.ref x1], 0, 0, rfl, rfl, hl5, hix, ?_⟩
      have k06 : Keep [] H (upd H5 l (.lst ((us ++ [V.ref x1]).set 0 (V.ref x2)))) := k05.then_own nl
      have hl6 : upd H5 l (.lst ((us ++ [V.ref x1]).set 0 (V.ref x2))) l = some (.lst ((us ++ [V.ref x1]).set 0 (V.ref x2))) := upd_same
      have hx6 := (KI.lst (o := .lst ((us ++ [V.ref x1]).set 0 (V.ref x2))) hl5).2 _ _ _ _ hx5
      generalize upd H5 l (.lst ((us ++ [V.ref x1]).set 0 (V.ref x2))) = H6 at *
      have hP6 := hP.keep k06
      have hx06 := k06 _ _ hx (by simp)
      refine ⟨_, rfl, x, dx, _, rfl, hx06, rfl, _, rfl, _, rfl, x, v, t, L, c, rfl, hP6, hv.tk k06.tk, by omega, ht, fun l2 H7 nl2 hla2 K7 => ?_⟩
      obtain ⟨us2, hl7, hur2⟩ := hla2
      have hul2 := hur2.len
      refine ⟨_, rfl, _, _, _, _, _, rfl, .ty _, .base (.lst hl7), kLL, _, rfl, iteF ⟨_, rfl, l2, us2, rfl, .inl (SqL.of hl7), _, rfl, rfl, _, rfl, iteNF (by rw [hul2, hlen]) ?_⟩⟩
      have hl67 := K7 _ _ hl6 (by simp)
      have k07 := k06.trans K7
      refine ⟨_, rfl, l, _, rfl, .inl (SqL.of hl67), ?_⟩
      refine ⟨_, rfl, _, _, rfl, rfl, rfl, _, rfl, iteNF (by rw [List.length_set, List.length_append, hul, hlen]; rfl) ?_⟩
      have h0 : ((us ++ [V.ref x1]).set 0 (V.ref x2))[0]? = some (V.ref x2) := by
        rw [List.getElem?_set_self (by rw [List.length_append]; simp)]
      refine ⟨_, rfl, _, _, _, _, rfl, rfl, SqL.of hl67, atI_nat (j := 0) h0, And.intro (by show 2 ≤ sizeLine; decide) <| fun tq ntq => ?_⟩
      have kt := Keep.new (W := []) (o := .tup [.int 5, .int 1]) ntq
      have hx7 := (K7.trans kt) _ _ hx6 (by simp)
      rw [(red_one 5).1, (red_one 5).2] at hx7
      refine ⟨x2, tq, (5, 1), rfl, ⟨dx2, hx7⟩, upd_same, ⟨by decide, by decide, by decide, by decide⟩, fun H8 K8 => ⟨_, rfl, iteF ?_⟩⟩
      have k78 := kt.trans K8
      have k08 := k07.trans k78
      have hl28 := k78 _ _ hl7 (by simp)
      have hdl8 := k08 _ _ hdl (by simp)
      have hds8 := hds.tk k08.tk
      refine ⟨_, rfl, (c : Int), rfl, by omega, by omega, fun D nD => ?_⟩
      refine lc_range (lo := 0) (n := c) (fun i H' => H' D = some (.lst (List.replicate i (.bl true))) ∧ Keep [] H8 H') ⟨upd_same, Keep.new nD⟩ ?_ ?_
      · rintro i H9 hi ⟨hD, k9⟩
        have e0 : (0 : Int) + (i : Int) = (i : Int) := by omega
        rw [e0]
        have hri : (lotsAt t L c)[i]? = some (lotsAt t L c)[i] := List.getElem?_eq_getElem (by omega)
        obtain ⟨p, hp, hpr⟩ := hur2.get hri
        obtain ⟨q, hq, hqr⟩ := hds8.get hri
        refine ⟨rfl, yes_then ⟨_, rfl, _, rfl, _, _, _, _, rfl, rfl, SqL.of (k9 _ _ hl28 (by simp)), atI_nat hp, _, rfl, _, rfl, _, _, _, _, rfl, rfl, SqL.of (k9 _ _ hdl8 (by simp)), atI_nat hq, p, q, _, rfl, hpr.keep0 (k78.trans k9), k9 _ _ hqr (by simp), hok _ (List.getElem_mem _), fun H10 K10 => ?_⟩⟩
        refine ⟨_, K10 _ _ hD (by simp), smallL (by rw [List.length_replicate]; omega), ?_, (k9.trans K10).then_own nD⟩
        rw [← List.replicate_succ']; exact upd_same
      · rintro H9 ⟨hD, k9⟩
        obtain ⟨i1, i2⟩ := inV_rep c
        refine ⟨D, _, rfl, .inl (SqL.of hD), rfl, i2, ?_⟩
        rw [i1]
        exact k _ (k08.trans k9)
end

/-! weights -/
def wr (ws : List Nat) : List Rt := ws.map fun (w : Nat) => (redN (w : Int) (ws.sum : Int), redD (w : Int) (ws.sum : Int))
structure WOk (ws : List Nat) : Prop where
  pos : 0 < ws.sum
  small : ∀ w ∈ ws, w ≤ 10
  len : ws.length ≤ 150
theorem sum_le {n : Nat} : ∀ {ws : List Nat}, (∀ w ∈ ws, w ≤ n) → ws.sum ≤ ws.length * n
  | [], _ => Nat.zero_le _
  | w :: ws, h => by
    have h1 := h w (List.mem_cons_self ..)
    have h2 := sum_le fun x hx => h x (List.mem_cons_of_mem _ hx)
    rw [List.sum_cons, List.length_cons, Nat.add_mul, Nat.one_mul]
    omega
theorem WOk.le {ws : List Nat} (h : WOk ws) : ws.sum ≤ 1500 := by
  have h1 := sum_le h.small
  have h2 := h.len
  omega
theorem sum_cast : ∀ ws : List Nat, (ws.map fun (w : Nat) => (w : Int)).sum = ((ws.sum : Nat) : Int)
  | [] => rfl
  | w :: ws => by rw [List.map_cons, List.sum_cons, List.sum_cons, sum_cast ws]; push_cast; rfl
theorem scaled {W D : Int} {f : Nat → Int} (hf : ∀ w, f w * W = w * D) : ∀ ws : List Nat, (ws.map f).sum * W = ((ws.sum : Nat) : Int) * D
  | [] => by simp
  | w :: ws => by
    rw [List.map_cons, List.sum_cons, List.sum_cons, Int.add_mul, scaled hf ws, hf w]
    push_cast
    rw [Int.add_mul]
theorem wr_lots {ws : List Nat} (h : WOk ws) : LotsOk (wr ws) := by
  have hp := h.pos
  have hW : (0 : Int) < (ws.sum : Nat) := by omega
  have hle := h.le
  have big : (1500 : Nat) < 2 ^ 300 := by decide
  have hdv : ∀ r ∈ wr ws, r.2 ∣ ((ws.sum : Nat) : Int) := fun r hr => by
    obtain ⟨w, _, rfl⟩ := List.mem_map.mp hr
    exact red_dvd (by omega)
  have hD : comD (wr ws) ∣ ws.sum := comD_of fun r hr => by
    have := hdv r hr
    rw [← Int.natAbs_dvd_natAbs] at this
    simpa using this
  have hD0 : 0 < comD (wr ws) := Nat.pos_of_dvd_of_pos hD hp
  have term : ∀ w : Nat, w ∈ ws → redN (w : Int) (ws.sum : Nat) * ((comD (wr ws) : Nat) : Int).fdiv (redD (w : Int) (ws.sum : Nat)) * ((ws.sum : Nat) : Int) = (w : Int) * ((comD (wr ws) : Nat) : Int) := fun w hw => by
    have hr : (redN (w : Int) (ws.sum : Nat), redD (w : Int) (ws.sum : Nat)) ∈ wr ws := List.mem_map.mpr ⟨w, hw, rfl⟩
    have h1 : (redD (w : Int) (ws.sum : Nat)).natAbs ∣ comD (wr ws) := comD_mem hr
    have h2 : redD (w : Int) (ws.sum : Nat) ∣ ((comD (wr ws) : Nat) : Int) := by
      rw [← Int.natAbs_dvd_natAbs]; simpa using h1
    obtain ⟨q, hq⟩ := h2
    have hne : redD (w : Int) (ws.sum : Nat) ≠ 0 := by have := redD_pos (n := (w : Int)) (d := (ws.sum : Nat)) (by omega); omega
    rw [fdiv_of_mul hne hq]
    have hc := red_cross (n := (w : Int)) (d := (ws.sum : Nat)) (by omega)
    rw [hq]
    calc redN (w : Int) (ws.sum : Nat) * q * ((ws.sum : Nat) : Int) = (redN (w : Int) (ws.sum : Nat) * ((ws.sum : Nat) : Int)) * q := by rw [Int.mul_assoc, Int.mul_comm q, ← Int.mul_assoc]
      _ = ((w : Int) * redD (w : Int) (ws.sum : Nat)) * q := by rw [hc]
      _ = (w : Int) * (redD (w : Int) (ws.sum : Nat) * q) := Int.mul_assoc ..
  have eN : comN (wr ws) = ws.map fun (w : Nat) => redN (w : Int) (ws.sum : Nat) * ((comD (wr ws) : Nat) : Int).fdiv (redD (w : Int) (ws.sum : Nat)) := by
    show (ws.map _).map _ = _
    rw [List.map_map]; rfl
  have all : ∀ us : List Nat, (∀ u ∈ us, u ∈ ws) → (us.map fun (w : Nat) => redN (w : Int) (ws.sum : Nat) * ((comD (wr ws) : Nat) : Int).fdiv (redD (w : Int) (ws.sum : Nat))).sum * ((ws.sum : Nat) : Int) = ((us.sum : Nat) : Int) * ((comD (wr ws) : Nat) : Int) := by
    intro us
    induction us with
    | nil => intro _; simp
    | cons u us ih =>
      intro hu
      rw [List.map_cons, List.sum_cons, List.sum_cons, Int.add_mul, ih fun x hx => hu x (List.mem_cons_of_mem _ hx), term u (hu u (List.mem_cons_self ..))]
      push_cast
      rw [Int.add_mul]
  refine ⟨⟨ws.sum, hp, ?_, fun r hr => ?_⟩, ?_, fun n hn => ?_, fun z => ?_, ?_⟩
  · exact Nat.lt_of_le_of_lt hle (by decide)
  · obtain ⟨w, hw, rfl⟩ := List.mem_map.mp hr
    refine ⟨redD_pos (by omega), ?_, ?_⟩
    · have := hdv _ hr
      rw [← Int.natAbs_dvd_natAbs] at this
      simpa using this
    · have := red_abs_n (n := (w : Int)) (d := (ws.sum : Nat)) (by omega)
      have := h.small w hw
      show (redN (w : Int) (ws.sum : Nat)).natAbs < 2 ^ 300
      omega
  · have := all ws (fun _ h => h)
    rw [eN]
    have h2 : (ws.map fun (w : Nat) => redN (w : Int) (ws.sum : Nat) * ((comD (wr ws) : Nat) : Int).fdiv (redD (w : Int) (ws.sum : Nat))).sum * ((ws.sum : Nat) : Int) = ((comD (wr ws) : Nat) : Int) * ((ws.sum : Nat) : Int) := by rw [this, Int.mul_comm]
    exact Int.eq_of_mul_eq_mul_right (by omega) h2
  · rw [eN] at hn
    obtain ⟨w, hw, rfl⟩ := List.mem_map.mp hn
    have ht := term w hw
    have h0 : (0 : Int) ≤ (w : Int) * ((comD (wr ws) : Nat) : Int) := Int.mul_nonneg (by omega) (by omega)
    rw [← ht] at h0
    rcases Int.lt_or_le (redN (w : Int) (ws.sum : Nat) * ((comD (wr ws) : Nat) : Int).fdiv (redD (w : Int) (ws.sum : Nat))) 0 with z | z
    · have := Int.mul_neg_of_neg_of_pos z hW
      omega
    · exact z
  · have : ws.length = 0 := by
      have := congrArg List.length z
      unfold wr at this
      simpa using this
    rw [List.length_eq_zero_iff.mp this] at hp
    cases hp
  · unfold wr
    rw [List.length_map]
    have := h.len
    omega
theorem wr_rt {ws : List Nat} (h : WOk ws) : ∀ r ∈ wr ws, RtOk r := fun r hr => by
  have hp := h.pos
  have hle := h.le
  have big : (1500 : Nat) < 2 ^ 300 := by decide
  obtain ⟨w, hw, rfl⟩ := List.mem_map.mp hr
  refine ⟨redD_pos (by omega), red_gcd (by omega), ?_, ?_⟩
  · have := red_abs_n (n := (w : Int)) (d := (ws.sum : Nat)) (by omega)
    have := h.small w hw
    show (redN (w : Int) (ws.sum : Nat)).natAbs < 2 ^ 300
    omega
  · have h1 := red_dvd (n := (w : Int)) (d := (ws.sum : Nat)) (by omega)
    rw [← Int.natAbs_dvd_natAbs] at h1
    have := Nat.le_of_dvd (by simpa using hp) h1
    show (redD (w : Int) (ws.sum : Nat)).natAbs < 2 ^ 300
    have e : (((ws.sum : Nat) : Int)).natAbs = ws.sum := Int.natAbs_natCast _
    omega
theorem rs0_rt (c : Nat) : ∀ r ∈ rs0 c, RtOk r := fun r hr => by
  obtain ⟨k, _, rfl⟩ := List.mem_map.mp hr
  by_cases h : k = 0
  · rw [if_pos h]; exact ⟨by decide, by decide, by decide, by decide⟩
  · rw [if_neg h]; exact ⟨by decide, by decide, by decide, by decide⟩
abbrev WE := List Ev × List Nat
inductive WL (N : Addr → Prop) (H : Hp) : List V → List WE → Prop
  | nil : WL N H [] []
  | cons {q l : Addr} {vw : V} {vs : List V} {t : List WE} {L : List Ev} {ws : List Nat} : H q = some (.tup [vw, .ref l]) → TD H vw (dView L) → H l = some (.lst (ws.map nat)) → N l → WL N H vs t → WL N H (.ref q :: vs) ((L, ws) :: t)
theorem WL.keep {N : Addr → Prop} {H H' : Hp} (tk : TK H H') (kl : ∀ b ys, N b → H b = some (.lst ys) → H' b = some (.lst ys)) {vs : List V} {t : List WE} (h : WL N H vs t) : WL N H' vs t := by
  induction h with
  | nil => exact .nil
  | cons a b c n _ ih => exact .cons (tk _ _ a) (b.tk tk) (kl _ _ n c) n ih
theorem WL.keep0 {N : Addr → Prop} {H H' : Hp} (k : Keep [] H H') {vs : List V} {t : List WE} (h : WL N H vs t) : WL N H' vs t := h.keep k.tk fun b ys _ hb => k _ _ hb (by simp)
theorem WL.mono {N M : Addr → Prop} {H : Hp} (f : ∀ b ys, H b = some (.lst ys) → N b → M b) {vs : List V} {t : List WE} (h : WL N H vs t) : WL M H vs t := by
  induction h with
  | nil => exact .nil
  | cons a b c n _ ih => exact .cons a b c (f _ _ c n) ih
theorem WL.len {N : Addr → Prop} {H : Hp} {vs : List V} {t : List WE} (h : WL N H vs t) : vs.length = t.length := by
  induction h with
  | nil => rfl
  | cons _ _ _ _ _ ih => rw [List.length_cons, List.length_cons, ih]
theorem WL.snoc {N : Addr → Prop} {H : Hp} {vs : List V} {t : List WE} {q l : Addr} {vw : V} {L : List Ev} {ws : List Nat} (h : WL N H vs t) (hq : H q = some (.tup [vw, .ref l])) (hv : TD H vw (dView L)) (hl : H l = some (.lst (ws.map nat))) (n : N l) : WL N H (vs ++ [.ref q]) (t ++ [(L, ws)]) := by
  induction h with
  | nil => exact .cons hq hv hl n .nil
  | cons a b c m _ ih => exact .cons a b c m ih
theorem WL.get {N : Addr → Prop} {H : Hp} {vs : List V} {t : List WE} (h : WL N H vs t) : ∀ {i : Nat} {v : V}, vs[i]? = some v → ∃ q l vw L ws, v = .ref q ∧ t[i]? = some (L, ws) ∧ H q = some (.tup [vw, .ref l]) ∧ TD H vw (dView L) ∧ H l = some (.lst (ws.map nat)) ∧ N l := by
  induction h with
  | nil => intro i v e; simp at e
  | @cons q l vw vs t L ws a b c n _ ih =>
    intro i v e
    cases i with
    | zero => simp at e; subst e; exact ⟨q, l, vw, L, ws, rfl, rfl, a, b, c, n⟩
    | succ j => simp at e; obtain ⟨q', l', vw', L', ws', e1, e2, e3, e4, e5⟩ := ih e; exact ⟨q', l', vw', L', ws', e1, by simpa using e2, e3, e4, e5⟩
inductive GN (C : Addr) (N : Addr → Prop) (H : Hp) : List V → List Ent2 → Prop
  | nil : GN C N H [] []
  | cons {q l : Addr} {vw : V} {vs : List V} {t : List Ent2} {L : List Ev} {rs : List Rt} : H q = some (.tup [vw, .ref l]) → TD H vw (dView L) → LA C H l rs → N l → GN C N H vs t → GN C N H (.ref q :: vs) ((L, rs) :: t)
theorem GN.keep {C : Addr} {N : Addr → Prop} {H H' : Hp} (k : KI H H') (kl : ∀ b ys, N b → H b = some (.lst ys) → H' b = some (.lst ys)) {vs : List V} {t : List Ent2} (h : GN C N H vs t) : GN C N H' vs t := by
  induction h with
  | nil => exact .nil
  | cons hq hv hl n _ ih =>
    obtain ⟨us, h1, h2⟩ := hl
    exact .cons (k.1 _ _ hq) (hv.tk k.tk) ⟨us, kl _ _ n h1, h2.keep k⟩ n ih
theorem GN.gl {C : Addr} {N : Addr → Prop} {H : Hp} {vs : List V} {t : List Ent2} (h : GN C N H vs t) : GL C H vs t := by
  induction h with
  | nil => exact .nil
  | cons a b c _ _ ih => exact .cons a b c ih
theorem GN.len {C : Addr} {N : Addr → Prop} {H : Hp} {vs : List V} {t : List Ent2} (h : GN C N H vs t) : vs.length = t.length := h.gl.len
theorem GN.snoc {C : Addr} {N : Addr → Prop} {H : Hp} {vs : List V} {t : List Ent2} {q l : Addr} {vw : V} {L : List Ev} {rs : List Rt} (h : GN C N H vs t) (hq : H q = some (.tup [vw, .ref l])) (hv : TD H vw (dView L)) (hl : LA C H l rs) (n : N l) : GN C N H (vs ++ [.ref q]) (t ++ [(L, rs)]) := by
  induction h with
  | nil => exact .cons hq hv hl n .nil
  | cons a b c m _ ih => exact .cons a b c m ih
theorem cut_nat (ds : List Nat) (a b : Option Int) : ∃ m n, cutV (ds.map nat) a b = ((ds.drop m).take n).map nat := by
  refine ⟨HT.sIx (ds.map nat).length 0 a, HT.sIx (ds.map nat).length (ds.map nat).length b - HT.sIx (ds.map nat).length 0 a, ?_⟩
  show ((ds.map nat).drop _).take _ = _
  rw [← List.map_drop, ← List.map_take]

theorem pi_listK {X : Cx} {K : PySem.W.Frag} {tg l : Expr} {tl : TE} (hl : L2.PE X l tl) (hK : X.K = K := by rfl) : PI X tg l (iList K tl) := hK ▸ pi_list hl
theorem cr_sumK {X : Cx} {K : PySem.W.Frag} (hc : X.calm = true) (hK : X.K = K := by rfl) : CallR X (.builtin "sum") (rSum K) := hK ▸ cr_sum hc
def sp_entries : Sp := fun vs H Q _ => ∃ (va : Addr) (c : Int) (vxs : List V) (R : List Row), vs = [.ref va, .int c] ∧ H va = some (.lst vxs) ∧ TDs H vxs (R.map dRow) ∧ (∀ r ∈ R, 0 ≤ r.2 ∧ r.2 ≤ 100) ∧ R.length ≤ 200 ∧
  ∀ l xs es H', H l = none → H' l = some (.lst xs) → WL (fun b => b ≠ l) H' xs es → es.map (·.1) = R.map (·.1) → (∀ e ∈ es, WOk e.2 ∧ e.2.length ≤ 121 ∧ ∀ w ∈ e.2, w ≤ 5) → Keep [] H H' → Q (.ref l) H'
def tab (es : List WE) : List Ent2 := es.map fun e => (e.1, wr e.2)
def sp_lawplan (P : Program) (w : World) (CP CR : Addr) : Sp := fun vs H Q _ => ∃ (a : Addr) (xs : List V) (es : List WE), vs = [.ref a] ∧ H a = some (.lst xs) ∧ WL (fun _ => True) H xs es ∧ (∀ e ∈ es, WOk e.2) ∧ (es.map (·.1)).Nodup ∧ es.length ≤ 300 ∧ ∀ p H', PlanAt P w CP CR H' p (tab es) → Keep [] H H' → Q (.ref p) H'
def farV (a b m : Int) : List Ev := [(("round" : Str), [a]), (("told" : Str), [b]), (("move" : Str), [m, 2])]
def farW (a m : Int) : List Ev := [(("round" : Str), [a]), (("move" : Str), [m, 2])]
def sp_far : Sp := fun vs H Q _ => ∃ c : Int, vs = [.int c] ∧ ∀ l v0 v1 v2 a b m a' b' m' H', H' l = some (.lst [v0, v1, v2]) → TD H' v0 (dView (farV a b m)) → TD H' v1 (dView (farV a' b' m')) → TD H' v2 (dView (farW a m)) → 4 ≤ a → 4 ≤ a' → (a ≠ a' ∨ b ≠ b' ∨ m ≠ m') → Keep [] H H' → Q (.ref l) H'
section
variable {P : Program} {w : World} {K : PySem.W.Frag} {mg : Str → Option Value} {base : Heap} {C_Ratio : Addr} {C_Plan : Addr}
theorem ok_entries {f : Addr} {fd : FuncData} (D : C8.Def K mg "_law_entries" s_law_entries f fd) (b : Binds K fd ["views", "cell"] []) (T : Txt K mg C_Ratio C_Plan) (c_law_row : C8.Cal P w K mg base 1 "_law_row" sp_row []) : C8.Cal P w K mg base 2 "_law_entries" sp_entries [] := by
  refine cal0 D b .nil sc_law_entries (fun vs H Q E h => ?_) (fun cdv A outer s H vs Q E hr h => ?_)
  · obtain ⟨va, c, vxs, R, rfl, _⟩ := h
    rfl
  · obtain ⟨va, c, vxs, R, rfl, hva, hvx, hR, hRl, k⟩ := h
    refine ⟨_, (pss_cons (ps_set (i := 2) sc_law_entries.nd rfl (by first | exact Or.inl rfl | exact Or.inr rfl) (pe_lst pa_nil))
(pss_cons (ps_set (i := 3) sc_law_entries.nd rfl (by first | exact Or.inl rfl | exact Or.inr rfl) (pe_c c_law_row hr (by first | exact Nat.le_refl _ | decide | omega) rfl (pa_cons (pv 1) (pa_cons pe_int (pa_cons pe_int pa_nil)))))
(pss_cons (ps_set (i := 4) sc_law_entries.nd rfl (by first | exact Or.inl rfl | exact Or.inr rfl) pe_int)
(pss_cons (ps_for PassesOwn.never rfl (pi_list (pv 0)) (pg_name (i := 5) sc_law_entries.nd rfl (by first | exact Or.inl rfl | exact Or.inr rfl))
  (pss_cons (ps_set (i := 6) sc_law_entries.nd rfl (by first | exact Or.inl rfl | exact Or.inr rfl) (pe_slice sl_list (pv 3) (po_some (pv 4)) (po_some (pe_op op_add (pv 4) (pe_ix ix_tup (pv 5) pe_int (fun _ _ => rfl))))))
  (pss_cons (ps_set (i := 4) sc_law_entries.nd rfl (by first | exact Or.inl rfl | exact Or.inr rfl) (pe_op op_add (pv 4) (pe_ix ix_tup (pv 5) pe_int (fun _ _ => rfl))))
  (pss_cut (ps_if (pt_cmpR op_eq (pe_callB (cr_sum rfl) (by rfl) T.n_sum bo_sum (pa_cons (pv 6) pa_nil)) pe_int (nomark _))
    (pss_one (ps_set (i := 6) sc_law_entries.nd rfl (by first | exact Or.inl rfl | exact Or.inr rfl) (pe_op op_cat (pe_lst (pa_cons pe_int pa_nil)) (pe_slice sl_list (pv 6) (po_some pe_int) po_none))))
    pss_nil)
  (pss_one (ps_expr (pe_bm PySem.F.plainAttrs_list PySem.F.slot_list_append PySem.F.type_list_append mt_append (pv 2) (pa_cons (pe_tup (pa_cons (pe_ix ix_tup (pv 5) pe_int (fun _ _ => rfl)) (pa_cons (pv 6) pa_nil))) pa_nil))))))))
(pss_one (ps_ret (pv 2))))))), ?_⟩
    refine And.intro (by show 0 ≤ sizeLine; decide) <| fun l nl => ?_
    have k0 : Keep [] H (upd H l (.lst [])) := Keep.new nl
    refine ⟨_, rfl, c, 120, 4, rfl, by decide, by decide, by decide, fun g ds H1 ng hg hdl hds K1 => ?_⟩
    have k1 := k0.trans K1
    have hl1 := K1 _ _ (upd_same (H := H) (a := l) (o := .lst [])) (by simp)
    have hgl : g ≠ l := (ne_of_none upd_same ng).symm
    have hvl := hvx.length
    rw [List.length_map] at hvl
    refine ⟨_, rfl, va, rfl, ⟨_, SqL.of (k1 _ _ hva (by simp))⟩, for_list (K := K) (a := va) (xs := vxs) (fun i σ H' => ∃ (xs : List V) (es : List WE) (o5 o6 : Option V) (at_ : Int), σ = [some (.ref va), some (.int c), some (.ref l), some (.ref g), some (.int at_), o5, o6] ∧ H' l = some (.lst xs) ∧ WL (fun b => b ≠ l) H' xs es ∧ es.map (·.1) = (R.take i).map (·.1) ∧ (∀ e ∈ es, WOk e.2 ∧ e.2.length ≤ 121 ∧ ∀ w ∈ e.2, w ≤ 5) ∧ H' g = some (.lst (ds.map nat)) ∧ Keep [] H H' ∧ (∀ q ∈ es, True)) ⟨[], [], _, _, 0, rfl, hl1, .nil, rfl, (fun e h => by cases h), hg, k1, fun _ _ => trivial⟩ (fun i σ H' _ ⟨_, _, _, _, _, _, _, _, _, _, _, kk, _⟩ => SqL.of (kk _ _ hva (by simp))) ?_ ?_⟩
    · rintro i x σ H2 hx ⟨xs, es, o5, o6, at_, rfl, hl, hwl, hes, hok, hg2, k2, _⟩
      have hi := (List.getElem?_eq_some_iff.mp hx).1
      have hiR : i < R.length := by omega
      obtain ⟨x', hx', hxd⟩ := hvx.get (i := i) (d := dRow R[i]) (by rw [List.getElem?_map, List.getElem?_eq_getElem hiR]; rfl)
      rw [hx] at hx'
      cases hx'
      have hxd2 := hxd.tk k2.tk
      obtain ⟨tt, tes, rfl, htt, htes⟩ := td_view hxd2
      cases htes with
      | @cons v0 _ _ _ h0 hr1 =>
        cases hr1 with
        | cons h1 hr2 =>
          cases hr2
          cases h1
          obtain ⟨hs0, hs1⟩ := hR R[i] (List.getElem_mem hiR)
          have hxl := hwl.len
          have hel : es.length = i := by have := congrArg List.length hes; rw [List.length_map, List.length_map, List.length_take] at this; omega
          refine ⟨_, rfl, _, rfl, _, rfl, _, rfl, _, rfl, _, _, _, _, rfl, rfl, SqT.of htt, rfl, _, _, rfl, rfl, _, rfl, _, _, rfl, SqL.of hg2, fun q nq => ?_⟩
          obtain ⟨m, n, hcut⟩ := cut_nat ds (some (at_ : Int)) (some ((at_ : Int) + R[i].2))
          rw [hcut]
          have hws4 : ∀ w ∈ (ds.drop m).take n, w ≤ 5 := fun w hw => by
            have := hds w (List.mem_of_mem_drop (List.mem_of_mem_take hw))
            omega
          have hwsl : ((ds.drop m).take n).length ≤ 120 := by rw [List.length_take, List.length_drop]; omega
          generalize (ds.drop m).take n = ws at *
          have kq := Keep.new (W := []) (o := .lst (ws.map nat)) nq
          have hq : upd H2 q (.lst (ws.map nat)) q = some (.lst (ws.map nat)) := upd_same
          have nql : q ≠ l := (ne_of_none hl nq).symm
          generalize upd H2 q (.lst (ws.map nat)) = H3 at *
          have htt3 := kq _ _ htt (by simp)
          refine ⟨_, rfl, _, rfl, _, _, _, _, rfl, rfl, SqT.of htt3, rfl, _, _, rfl, rfl, ?_⟩
          refine ⟨fun σ H' => ∃ wl ws', σ = [some (.ref va), some (.int c), some (.ref l), some (.ref g), some (.int ((at_ : Int) + R[i].2)), some (.ref tt), some (.ref wl)] ∧ H' wl = some (.lst (ws'.map nat)) ∧ WOk ws' ∧ (ws'.length ≤ 121 ∧ ∀ w ∈ ws', w ≤ 5) ∧ wl ≠ l ∧ Keep [] H2 H', ?_, ?_⟩
          · refine ⟨_, rfl, q, ws.map (fun (w : Nat) => (w : Int)), rfl, SqL.of (by rw [List.map_map]; exact hq), rfl, _, rfl, ?_⟩
            rw [sum_cast]
            refine iteD (fun e => ?_) (fun e => ?_)
            · refine And.intro (by show 1 ≤ sizeLine; decide) <| fun g1 ng1 => ?_
              have kg1 := Keep.new (W := []) (o := .lst [.int 1]) ng1
              refine ⟨_, rfl, _, rfl, _, _, rfl, SqL.of (kg1 _ _ hq (by simp)), fun q2 nq2 => ?_⟩
              obtain ⟨m2, n2, hcut2⟩ := cut_nat ws (some 1) none
              rw [hcut2]
              have hu4 : ∀ w ∈ (ws.drop m2).take n2, w ≤ 5 := fun w hw => hws4 w (List.mem_of_mem_drop (List.mem_of_mem_take hw))
              have hul : ((ws.drop m2).take n2).length ≤ 120 := by rw [List.length_take, List.length_drop]; omega
              generalize (ws.drop m2).take n2 = us at *
              have kq2 := Keep.new (W := []) (o := .lst (us.map nat)) nq2
              refine ⟨g1, q2, _, _, rfl, rfl, kq2 _ _ upd_same (by simp), upd_same, smallM (by rw [List.length_map]; simp; omega), fun r nr => ?_⟩
              have kr := Keep.new (W := []) (o := .lst ([.int 1] ++ us.map nat)) nr
              refine ⟨r, 1 :: us, rfl, upd_same, ⟨by rw [List.sum_cons]; omega, fun w hw => ?_, by rw [List.length_cons]; omega⟩, ⟨by rw [List.length_cons]; omega, fun w hw => ?_⟩, (ne_of_none ((kg1.trans kq2) _ _ (kq _ _ hl (by simp)) (by simp)) nr).symm, ((kq.trans kg1).trans kq2).trans kr⟩
              · rcases List.mem_cons.mp hw with rfl | hw
                · decide
                · have := hu4 w hw; omega
              · rcases List.mem_cons.mp hw with rfl | hw
                · decide
                · exact hu4 w hw
            · have hpos : 0 < ws.sum := by
                rcases Nat.eq_zero_or_pos ws.sum with z | z
                · exact absurd (by rw [z]; rfl) e
                · exact z
              exact ⟨q, ws, rfl, hq, ⟨hpos, fun w hw => by have := hws4 w hw; omega, by omega⟩, ⟨by omega, hws4⟩, nql, kq⟩
          · rintro σ H4 ⟨wl, ws', rfl, hwl4, hwok, hwlen, nwl, k4⟩
            have hl4 := k4 _ _ hl (by simp)
            refine ⟨_, rfl, .inl ⟨rfl, _, SqL.of hl4⟩, _, rfl, _, _, _, _, rfl, rfl, SqT.of (k4 _ _ htt (by simp)), rfl, _, rfl, And.intro (by show 2 ≤ sizeLine; decide) <| fun t2 nt2 => ?_⟩
            have kt := Keep.new (W := []) (o := .tup [v0, .ref wl]) nt2
            have ht2 : upd H4 t2 (.tup [v0, .ref wl]) t2 = some (.tup [v0, .ref wl]) := upd_same
            generalize upd H4 t2 (.tup [v0, .ref wl]) = H5 at *
            have hl5 := kt _ _ hl4 (by simp)
            have k25 := k4.trans kt
            refine ⟨_, _, _, rfl, rfl, hl5, smallL (by omega), ?_⟩
            have tk6 : TK H5 (upd H5 l (.lst (xs ++ [.ref t2]))) := TK.lst hl5
            have kl6 : ∀ b ys, b ≠ l → H5 b = some (.lst ys) → upd H5 l (.lst (xs ++ [.ref t2])) b = some (.lst ys) := fun b ys nb hb => by rw [upd_ne nb]; exact hb
            refine ⟨xs ++ [.ref t2], es ++ [(R[i].1, ws')], _, _, (at_ : Int) + R[i].2, rfl, upd_same, ?_, ?_, ?_, ?_, (k2.trans k25).then_own nl, fun _ _ => trivial⟩
            · exact ((hwl.keep0 k25).keep tk6 kl6).snoc (tk6 _ _ ht2) ((h0.tk k25.tk).tk tk6) (kl6 _ _ nwl (kt _ _ hwl4 (by simp))) nwl
            · rw [List.map_append, hes, List.take_succ_eq_append_getElem hiR, List.map_append]; rfl
            · intro e he
              rcases List.mem_append.mp he with he | he
              · exact hok e he
              · rw [List.mem_singleton.mp he]; exact ⟨hwok, hwlen⟩
            · rw [upd_ne hgl]; exact k25 _ _ hg2 (by simp)
    · rintro σ H2 ⟨xs, es, o5, o6, at_, rfl, hl, hwl, hes, hok, hg2, k2, _⟩
      rw [hvl, List.take_length] at hes
      exact ⟨_, rfl, k l xs es H2 nl hl hwl hes hok k2⟩
theorem ok_lawplan {f : Addr} {fd : FuncData} (D : C8.Def K mg "_law_plan" s_law_plan f fd) (b : Binds K fd ["entries"] []) (T : Txt K mg C_Ratio C_Plan) (c_Ratio2 : C8.Mak P w K mg base 1 "Ratio" C_Ratio (sp_rat C_Ratio) []) (c_Plan : C8.Mak P w K mg base 3 "Plan" C_Plan (sp_plan P w C_Plan C_Ratio) []) : C8.Cal P w K mg base 5 "_law_plan" (sp_lawplan P w C_Plan C_Ratio) [] := by
  refine cal0 D b .nil sc_law_plan (fun vs H Q E h => ?_) (fun cdv A outer s H vs Q E hr h => ?_)
  · obtain ⟨a, xs, es, rfl, _⟩ := h
    rfl
  · obtain ⟨a, xs, es, rfl, ha, hwl, hok, hnd, hlen, k⟩ := h
    refine ⟨_, (pss_one (ps_ret (pe_mk c_Plan hr (by first | exact Nat.le_refl _ | decide | omega) rfl (pa_cons (pe_lc (own := [("entry", 1)]) (g := gName 1) (tt := tYes) rfl sc_law_plan.nd (pi_list (pv 0)) (blkOk_by (N := ["entries", "entry", "weight"]) (sc := fnScope s_law_plan) (by decide +kernel)) (fun _ _ _ _ _ => pg_name (i := 1) sc_law_plan.nd rfl (by first | exact Or.inl rfl | exact Or.inr rfl)) (fun _ _ _ _ _ => pts_nil) (fun _ _ _ _ _ => (pe_tup (pa_cons (pe_ix (ix_tupK (K := K)) (pv 1) pe_int (fun _ _ => rfl)) (pa_cons (pe_lc (own := [("weight", 2)]) (g := gName 2) (tt := tYes) rfl sc_law_plan.nd (pi_listK (K := K) (pe_ix (ix_tupK (K := K)) (pv 1) pe_int (fun _ _ => rfl))) (blkOk_by (N := ["entries", "entry", "weight"]) (sc := ⟨.function, [(".0", .local), ("entry", .cell)], false, false, []⟩) (by decide +kernel)) (fun _ _ _ _ _ => pg_name (i := 2) sc_law_plan.nd rfl (by first | exact Or.inl rfl | exact Or.inr rfl)) (fun _ _ _ _ _ => pts_nil) (fun _ _ _ _ _ => (pe_mk c_Ratio2 hr (by first | exact Nat.le_refl _ | decide | omega) rfl (pa_cons (pv 2) (pa_cons (pe_callB (cr_sumK (K := K) rfl) (by rfl) T.n_sum bo_sum (pa_cons (pe_ix (ix_tupK (K := K)) (pv 1) pe_int (fun _ _ => rfl)) pa_nil)) pa_nil))))) pa_nil))))) pa_nil)))), ?_⟩
    have hxl := hwl.len
    refine ⟨_, rfl, a, rfl, ⟨_, SqL.of ha⟩, fun D nD => ?_⟩
    refine lc_list (K := K) (a := a) (xs := xs) (fun i H' => ∃ gs, H' D = some (.lst gs) ∧ GN C_Ratio (fun b => b ≠ D) H' gs (tab (es.take i)) ∧ Keep [] H H') ⟨[], upd_same, .nil, Keep.new nD⟩ (fun i H' _ ⟨_, _, _, kk⟩ => SqL.of (kk _ _ ha (by simp))) ?_ ?_
    · rintro i x H1 hx ⟨gs, hD, hgn, k1⟩
      obtain ⟨q, wl, vw, L, ws, rfl, hei, hq, hvw, hwl0, _⟩ := hwl.get hx
      have hwok := hok (L, ws) (List.mem_of_getElem? hei)
      have hq1 := k1 _ _ hq (by simp)
      have hwl1 := k1 _ _ hwl0 (by simp)
      have hgl := hgn.len
      have hil := (List.getElem?_eq_some_iff.mp hei).1
      have hle := hwok.le
      have hpos0 : 0 < ws.sum := hwok.pos
      have hW : ((ws.sum : Nat) : Int) ≠ 0 := by omega
      refine ⟨rfl, yes_then ⟨_, rfl, _, _, _, _, rfl, rfl, SqT.of hq1, rfl, ?_⟩⟩
      refine ⟨_, rfl, _, _, _, _, rfl, rfl, SqT.of hq1, rfl, wl, rfl, ⟨_, SqL.of hwl1⟩, fun D2 nD2 => ?_⟩
      refine lc_list (K := K) (a := wl) (xs := ws.map nat) (fun j H' => ∃ us, H' D2 = some (.lst us) ∧ RL C_Ratio H' us ((wr ws).take j) ∧ Keep [] H1 H') ⟨[], upd_same, .nil, Keep.new nD2⟩ (fun j H' _ ⟨_, _, _, kk⟩ => SqL.of (kk _ _ hwl1 (by simp))) ?_ ?_
      · rintro j y H2 hy ⟨us, hD2, hur, k2⟩
        obtain ⟨w0, hw0, rfl⟩ : ∃ w0, ws[j]? = some w0 ∧ y = nat w0 := by
          rw [List.getElem?_map] at hy
          obtain ⟨w0, h1, h2⟩ := Option.map_eq_some_iff.mp hy
          exact ⟨w0, h1, h2.symm⟩
        have hjl := (List.getElem?_eq_some_iff.mp hw0).1
        have hul := hur.len
        rw [List.length_take] at hul
        refine ⟨rfl, yes_then ⟨_, rfl, _, rfl, _, _, _, _, rfl, rfl, SqT.of (k2 _ _ hq1 (by simp)), rfl, wl, ws.map (fun (w : Nat) => (w : Int)), rfl, SqL.of (by rw [List.map_map]; exact k2 _ _ hwl1 (by simp)), ?_⟩⟩
        rw [sum_cast]
        refine fun x' dx' nx ndx ne => ⟨x', dx', (w0 : Int), ((ws.sum : Nat) : Int), rfl, hW, by rw [Int.natAbs_natCast]; exact Nat.lt_of_le_of_lt hle (Nat.lt_of_lt_of_le (show 1500 < 2 ^ 300 by decide) (Nat.pow_le_pow_right (by decide) (by decide))), upd_same, fun H3 K3 hx3 => ⟨rfl, ?_⟩⟩
        have km := keep_made nx ndx K3
        have hD3 := km _ _ hD2 (by simp)
        have hwr : (wr ws)[j]? = some (redN (w0 : Int) (ws.sum : Nat), redD (w0 : Int) (ws.sum : Nat)) := by unfold wr; rw [List.getElem?_map, hw0]; rfl
        obtain ⟨hjl2, hwe⟩ := List.getElem?_eq_some_iff.mp hwr
        have hwl150 : ws.length ≤ 150 := hwok.len
        refine ⟨us, hD3, smallL (by omega), us ++ [.ref x'], upd_same, ?_, (k2.trans km).then_own nD2⟩
        rw [List.take_succ_eq_append_getElem hjl2, hwe]
        exact ((hur.keep (KI.of km)).keep (KI.lst hD3)).snoc ⟨dx', (KI.lst (o := .lst (us ++ [.ref x'])) hD3).2 _ _ _ _ hx3⟩
      · rintro H2 ⟨us, hD2, hur, k2⟩
        have ewl : (wr ws).length = (ws.map nat).length := by unfold wr; rw [List.length_map, List.length_map]
        rw [← ewl, List.take_length] at hur
        refine And.intro (by show 2 ≤ sizeLine; decide) <| fun t nt => ?_
        have kt := Keep.new (W := []) (o := .tup [vw, .ref D2]) nt
        have ht : upd H2 t (.tup [vw, .ref D2]) t = some (.tup [vw, .ref D2]) := upd_same
        generalize upd H2 t (.tup [vw, .ref D2]) = H3 at *
        have k13 := k2.trans kt
        have hD3 := k13 _ _ hD (by simp)
        have nDD : D2 ≠ D := (ne_of_none hD nD2).symm
        have ki := KI.lst (o := .lst (gs ++ [.ref t])) hD3
        have kl : ∀ b ys, b ≠ D → H3 b = some (.lst ys) → upd H3 D (.lst (gs ++ [.ref t])) b = some (.lst ys) := fun b ys nb hb => by rw [upd_ne nb]; exact hb
        have et : tab (es.take (i + 1)) = tab (es.take i) ++ [(L, wr ws)] := by
          obtain ⟨_, hee⟩ := List.getElem?_eq_some_iff.mp hei
          unfold tab
          rw [List.take_succ_eq_append_getElem hil, hee, List.map_append]; rfl
        have hgl2 : gs.length ≤ 1000 := by
          rw [hgl]; unfold tab; rw [List.length_map, List.length_take]; omega
        refine ⟨gs, hD3, smallL (by omega), gs ++ [.ref t], upd_same, ?_, (k1.trans k13).then_own nD⟩
        rw [et]
        exact ((hgn.keep (KI.of k13) fun b ys _ hb => k13 _ _ hb (by simp)).keep ki kl).snoc (ki.1 _ _ ht) (((hvw.tk k1.tk).tk k13.tk).tk ki.1) ⟨us, kl _ _ nDD (kt _ _ hD2 (by simp)), (hur.keep (KI.of kt)).keep ki⟩ nDD
    · rintro H1 ⟨gs, hD, hgn, k1⟩
      rw [hxl, List.take_length] at hgn
      refine fun x dx nx ndx ne => ?_
      have km := Keep.made (o := .ins C_Plan dx []) nx ndx
      refine ⟨x, dx, D, gs, tab es, rfl, upd_same, km _ _ hD (by simp), (hgn.keep (KI.of km) fun b ys _ hb => km _ _ hb (by simp)).gl, fun e he => ?_, ?_, ?_, fun H2 hP K2 => ⟨rfl, k x H2 hP (k1.trans (keep_made nx ndx K2))⟩⟩
      · obtain ⟨e0, he0, rfl⟩ := List.mem_map.mp he
        exact wr_lots (hok e0 he0)
      · have : (tab es).map (·.1) = es.map (·.1) := by unfold tab; rw [List.map_map]; rfl
        rw [this]; exact hnd
      · unfold tab; rw [List.length_map]; omega
theorem ok_far {f : Addr} {fd : FuncData} (D : C8.Def K mg "_law_far" s_law_far f fd) (b : Binds K fd ["cell"] []) (T : Txt K mg C_Ratio C_Plan) : C8.Cal P w K mg base 1 "_law_far" sp_far [] := by
  refine cal0 D b .nil sc_law_far (fun vs H Q E h => ?_) (fun cdv A outer s H vs Q E hr h => ?_)
  · obtain ⟨c, rfl, _⟩ := h
    rfl
  · obtain ⟨c, rfl, k⟩ := h
    refine ⟨_, (pss_cons (ps_set (i := 1) sc_law_far.nd rfl (by first | exact Or.inl rfl | exact Or.inr rfl) (pe_lst (pa_cons (pe_op op_add pe_int (pe_op op_mod (pe_callTy call_int1 (by rfl) T.n_int bo_int (pa_cons (pv 0) pa_nil)) pe_int)) (pa_cons (pe_op op_add pe_int (pe_op op_mod (pe_callTy call_int1 (by rfl) T.n_int bo_int (pa_cons (pe_op op_fdiv (pv 0) pe_int) pa_nil)) pe_int)) (pa_cons (pe_op op_add pe_int (pe_op op_mod (pe_callTy call_int1 (by rfl) T.n_int bo_int (pa_cons (pe_op op_fdiv (pv 0) pe_int) pa_nil)) pe_int)) pa_nil)))))
(pss_cons (ps_set (i := 2) sc_law_far.nd rfl (by first | exact Or.inl rfl | exact Or.inr rfl) (pe_op op_mod (pe_callTy call_int1 (by rfl) T.n_int bo_int (pa_cons (pe_op op_fdiv (pv 0) pe_int) pa_nil)) pe_int))
(pss_cons (ps_set (i := 3) sc_law_far.nd rfl (by first | exact Or.inl rfl | exact Or.inr rfl) (pe_lst pa_nil))
(pss_cons (ps_for PassesOwn.never rfl (pi_range1 (by rfl) T.n_range (pa_cons pe_int pa_nil)) (pg_name (i := 4) sc_law_far.nd rfl (by first | exact Or.inl rfl | exact Or.inr rfl))
  (pss_cons (ps_expr (pe_bm PySem.F.plainAttrs_list PySem.F.slot_list_append PySem.F.type_list_append mt_append (pv 3) (pa_cons (pe_tup (pa_cons (pe_tup (pa_cons pe_str (pa_cons (pe_ix ix_list (pv 1) pe_int (fun _ _ => rfl)) pa_nil))) (pa_cons (pe_tup (pa_cons pe_str (pa_cons (pe_ix ix_list (pv 1) pe_int (fun _ _ => rfl)) pa_nil))) (pa_cons (pe_tup (pa_cons pe_str (pa_cons (pe_ix ix_list (pv 1) pe_int (fun _ _ => rfl)) (pa_cons pe_int pa_nil)))) pa_nil)))) pa_nil)))
  (pss_one (ps_asg (pe_op op_add (pe_op op_add (pe_ix ix_list (pv 1) (pv 2) (fun _ _ => rfl)) pe_int) (pe_op op_mul pe_int (pe_callTy call_int1 (by rfl) T.n_int bo_int (pa_cons (pe_and (pe_cmpR op_eq (pv 2) pe_int (nomark _)) (pe_one (pe_cmpR op_eq (pe_op op_mod (pe_callTy call_int1 (by rfl) T.n_int bo_int (pa_cons (pe_op op_fdiv (pv 0) pe_int) pa_nil)) pe_int) pe_int (nomark _)))) pa_nil)))) (pg_sub (pv 1) (pv 2) set_list)))))
(pss_cons (ps_set (i := 5) sc_law_far.nd rfl (by first | exact Or.inl rfl | exact Or.inr rfl) (pe_ix ix_list (pv 3) pe_int (fun _ _ => rfl)))
(pss_one (ps_ret (pe_op op_cat (pv 3) (pe_lst (pa_cons (pe_op op_catA (pe_slice sl_tup (pv 5) po_none (po_some pe_int)) (pe_slice sl_tup (pv 5) (po_some pe_int) po_none)) pa_nil)))))))))), ?_⟩
    obtain ⟨a0, ha0, ha4⟩ : ∃ a0 : Int, a0 = 4 + c % 3 ∧ 4 ≤ a0 := ⟨_, rfl, by have := Int.emod_nonneg c (show (3 : Int) ≠ 0 by decide); omega⟩
    obtain ⟨b0, hb0⟩ : ∃ b0 : Int, b0 = 4 + c / 3 % 60000 := ⟨_, rfl⟩
    obtain ⟨m0, hm0⟩ : ∃ m0 : Int, m0 = 4 + c / 180000 % 19 := ⟨_, rfl⟩
    refine ⟨_, rfl, .inl ⟨_, rfl, _, _, rfl, rfl, by show (0 : Int) < 3; decide, _, _, rfl, rfl, ?_⟩⟩
    refine ⟨_, rfl, _, _, rfl, rfl, ⟨by decide, by decide⟩, .inl ⟨_, rfl, _, _, rfl, rfl, by show (0 : Int) < 60000; decide, _, _, rfl, rfl, ?_⟩⟩
    refine ⟨_, rfl, _, _, rfl, rfl, ⟨by decide, by decide⟩, .inl ⟨_, rfl, _, _, rfl, rfl, by show (0 : Int) < 19; decide, _, _, rfl, rfl, And.intro (by show 3 ≤ sizeLine; decide) <| fun nl nnl => ?_⟩⟩
    have k1 := Keep.new (W := []) (o := .lst [.int (4 + c % 3), .int (4 + c / 3 % 60000), .int (4 + c / 180000 % 19)]) nnl
    refine ⟨_, rfl, _, _, rfl, rfl, ⟨by decide, by decide⟩, .inl ⟨_, rfl, _, _, rfl, rfl, by show (0 : Int) < 3; decide, And.intro (by show 0 ≤ sizeLine; decide) <| fun vl nvl => ?_⟩⟩
    have k2 := k1.trans (Keep.new (W := []) (o := .lst []) nvl)
    have nvn : vl ≠ nl := (ne_of_none upd_same nvl).symm
    obtain ⟨at_, hat⟩ : ∃ at_ : Int, at_ = c / 9 % 3 := ⟨_, rfl⟩
    have hatb : at_ = 0 ∨ at_ = 1 ∨ at_ = 2 := by omega
    refine ⟨2, rfl, by decide, by decide, for_range (lo := 0) (n := 2) (fun i σ H' => ∃ (vv : List V) (a b m : Int) (o4 : Option V), σ = [some (.int c), some (.ref nl), some (.int at_), some (.ref vl), o4, none] ∧ H' vl = some (.lst vv) ∧ H' nl = some (.lst [.int a, .int b, .int m]) ∧ 4 ≤ a ∧ Keep [] H H' ∧
      ((i = 0 ∧ vv = [] ∧ a = a0 ∧ b = b0 ∧ m = m0) ∨ (i = 1 ∧ (∃ v0, vv = [v0] ∧ TD H' v0 (dView (farV a0 b0 m0))) ∧ (a0 ≠ a ∨ b0 ≠ b ∨ m0 ≠ m)) ∨ (i = 2 ∧ ∃ v0 v1 a' b' m', vv = [v0, v1] ∧ TD H' v0 (dView (farV a0 b0 m0)) ∧ TD H' v1 (dView (farV a' b' m')) ∧ 4 ≤ a' ∧ (a0 ≠ a' ∨ b0 ≠ b' ∨ m0 ≠ m')))) ⟨[], a0, b0, m0, none, ?_, upd_same, ?_, ha4, k2, .inl ⟨rfl, rfl, rfl, rfl, rfl⟩⟩ ?_ ?_⟩
    · rw [hat]; rfl
    · rw [upd_ne nvn.symm, ha0, hb0, hm0]; exact upd_same
    · rintro i σ H3 hi ⟨vv, a, b, m, o4, rfl, hvl, hnl, h4, k3, hcase⟩
      have n0 : atI ([.int a, .int b, .int m] : List V) 0 = some (.int a) := rfl
      refine ⟨_, rfl, .inl ⟨rfl, _, SqL.of hvl⟩, _, rfl, _, _, _, _, rfl, rfl, SqL.of hnl, rfl, And.intro (by show 2 ≤ sizeLine; decide) <| fun t1 nt1 => ?_⟩
      have q1 := Keep.new (W := []) (o := .tup [.str "round", .int a]) nt1
      refine ⟨_, rfl, _, _, _, _, rfl, rfl, SqL.of (q1 _ _ hnl (by simp)), rfl, And.intro (by show 2 ≤ sizeLine; decide) <| fun t2 nt2 => ?_⟩
      have q2 := Keep.new (W := []) (o := .tup [.str "told", .int b]) nt2
      refine ⟨_, rfl, _, _, _, _, rfl, rfl, SqL.of ((q1.trans q2) _ _ hnl (by simp)), rfl, And.intro (by show 3 ≤ sizeLine; decide) <| fun t3 nt3 => And.intro (by show 3 ≤ sizeLine; decide) <| fun t4 nt4 => ?_⟩
      have q3 := Keep.new (W := []) (o := .tup [.str "move", .int m, .int 2]) nt3
      have q4 := Keep.new (W := []) (o := .tup [.ref t1, .ref t2, .ref t3]) nt4
      have qq := ((q1.trans q2).trans q3).trans q4
      have hfv : TD (upd (upd (upd (upd H3 t1 (.tup [.str "round", .int a])) t2 (.tup [.str "told", .int b])) t3 (.tup [.str "move", .int m, .int 2])) t4 (.tup [.ref t1, .ref t2, .ref t3])) (.ref t4) (dView (farV a b m)) :=
        .tup upd_same (.cons (.tup (((q2.trans q3).trans q4) _ _ upd_same (by simp)) (.cons (.str _) (td_ints [a]))) (.cons (.tup ((q3.trans q4) _ _ upd_same (by simp)) (.cons (.str _) (td_ints [b]))) (.cons (.tup (q4 _ _ upd_same (by simp)) (.cons (.str _) (td_ints [m, 2]))) .nil)))
      refine ⟨_, _, _, rfl, rfl, qq _ _ hvl (by simp), smallL (by
        rcases hcase with ⟨_, h, _⟩ | ⟨_, ⟨v0, h, _⟩, _⟩ | ⟨_, v0, v1, a', b', m', h, _⟩ <;> rw [h] <;> simp), ?_⟩
      generalize upd (upd (upd (upd H3 t1 (.tup [.str "round", .int a])) t2 (.tup [.str "told", .int b])) t3 (.tup [.str "move", .int m, .int 2])) t4 (.tup [.ref t1, .ref t2, .ref t3]) = H4 at *
      have hvl4 := qq _ _ hvl (by simp)
      have hnl4' := qq _ _ hnl (by simp)
      have tk4 : TK H4 (upd H4 vl (.lst (vv ++ [.ref t4]))) := TK.lst hvl4
      have k04 : Keep [] H (upd H4 vl (.lst (vv ++ [.ref t4]))) := (k3.trans qq).then_own (k1.free nvl)
      have hvl5 : upd H4 vl (.lst (vv ++ [.ref t4])) vl = some (.lst (vv ++ [.ref t4])) := upd_same
      have hnl5 : upd H4 vl (.lst (vv ++ [.ref t4])) nl = some (.lst [.int a, .int b, .int m]) := by rw [upd_ne nvn.symm]; exact hnl4'
      have hfv5 := hfv.tk tk4
      have tk35 := qq.tk.trans tk4
      generalize upd H4 vl (.lst (vv ++ [.ref t4])) = H5 at *
      have post : ∀ (a2 b2 m2 : Int), a ≤ a2 → (a ≠ a2 ∨ b ≠ b2 ∨ m ≠ m2) → ∃ (vv : List V) (a b m : Int) (o4' : Option V), [some (V.int c), some (V.ref nl), some (V.int at_), some (V.ref vl), some (V.int (0 + (i : Int))), none] = [some (.int c), some (.ref nl), some (.int at_), some (.ref vl), o4', none] ∧ upd H5 nl (.lst [.int a2, .int b2, .int m2]) vl = some (.lst vv) ∧ upd H5 nl (.lst [.int a2, .int b2, .int m2]) nl = some (.lst [.int a, .int b, .int m]) ∧ 4 ≤ a ∧ Keep [] H (upd H5 nl (.lst [.int a2, .int b2, .int m2])) ∧
          ((i + 1 = 0 ∧ vv = [] ∧ a = a0 ∧ b = b0 ∧ m = m0) ∨ (i + 1 = 1 ∧ (∃ v0, vv = [v0] ∧ TD (upd H5 nl (.lst [.int a2, .int b2, .int m2])) v0 (dView (farV a0 b0 m0))) ∧ (a0 ≠ a ∨ b0 ≠ b ∨ m0 ≠ m)) ∨ (i + 1 = 2 ∧ ∃ v0 v1 a' b' m', vv = [v0, v1] ∧ TD (upd H5 nl (.lst [.int a2, .int b2, .int m2])) v0 (dView (farV a0 b0 m0)) ∧ TD (upd H5 nl (.lst [.int a2, .int b2, .int m2])) v1 (dView (farV a' b' m')) ∧ 4 ≤ a' ∧ (a0 ≠ a' ∨ b0 ≠ b' ∨ m0 ≠ m'))) := by
        intro a2 b2 m2 hle hne2
        have tk6 : TK H5 (upd H5 nl (.lst [.int a2, .int b2, .int m2])) := TK.lst hnl5
        refine ⟨vv ++ [.ref t4], a2, b2, m2, _, rfl, by rw [upd_ne nvn]; exact hvl5, upd_same, by omega, k04.then_own nnl, ?_⟩
        rcases hcase with ⟨e, h, r1, r2, r3⟩ | ⟨e, ⟨v0, h, hv0⟩, hne⟩ | ⟨e, _⟩
        · subst h r1 r2 r3
          exact .inr (.inl ⟨by omega, ⟨.ref t4, rfl, hfv5.tk tk6⟩, hne2⟩)
        · subst h
          exact .inr (.inr ⟨by omega, v0, .ref t4, a, b, m, rfl, (hv0.tk tk35).tk tk6, hfv5.tk tk6, h4, hne⟩)
        · omega
      rcases hatb with e | e | e
      · rw [e] at post ⊢
        refine ⟨_, rfl, _, rfl, _, _, _, _, rfl, rfl, SqL.of hnl5, rfl, _, _, rfl, rfl, _, rfl, rfl, _, rfl, iteDF (fun z => by cases z) (.inr ⟨_, rfl, ?_⟩)⟩
        refine ⟨_, _, rfl, rfl, .inl ⟨by decide, by decide⟩, _, _, rfl, rfl, _, rfl, _, rfl, nl, _, 0, 0, rfl, rfl, hnl5, rfl, ?_⟩
        exact post (a + 1 + 255 * 0) b m (by omega) (.inl (by omega))
      · rw [e] at post ⊢
        refine ⟨_, rfl, _, rfl, _, _, _, _, rfl, rfl, SqL.of hnl5, rfl, _, _, rfl, rfl, _, rfl, rfl, _, rfl, iteDT rfl ⟨_, rfl, _, _, rfl, rfl, ⟨by decide, by decide⟩, .inl ⟨_, rfl, _, _, rfl, rfl, by show (0 : Int) < 2; decide, rfl, .inr ⟨_, rfl, ?_⟩⟩⟩⟩
        refine ⟨_, _, rfl, rfl, .inl ⟨by decide, by decide⟩, _, _, rfl, rfl, _, rfl, _, rfl, nl, _, 1, 1, rfl, rfl, hnl5, rfl, ?_⟩
        exact post a (b + 1 + 255 * (if decide (V.int (c / 27 % 2) = V.int 1) = true then 1 else 0)) m (Int.le_refl _) (.inr (.inl (by split <;> omega)))
      · rw [e] at post ⊢
        refine ⟨_, rfl, _, rfl, _, _, _, _, rfl, rfl, SqL.of hnl5, rfl, _, _, rfl, rfl, _, rfl, rfl, _, rfl, iteDF (fun z => by cases z) (.inr ⟨_, rfl, ?_⟩)⟩
        refine ⟨_, _, rfl, rfl, .inl ⟨by decide, by decide⟩, _, _, rfl, rfl, _, rfl, _, rfl, nl, _, 2, 2, rfl, rfl, hnl5, rfl, ?_⟩
        exact post a b (m + 1 + 255 * 0) (Int.le_refl _) (.inr (.inr (by omega)))
    · rintro σ H3 ⟨vv, a, b, m, o4, rfl, hvl, hnl, h4, k3, hcase⟩
      obtain ⟨v0, v1, a', b', m', rfl, hv0, hv1, ha', hne⟩ : ∃ v0 v1 a' b' m', vv = [v0, v1] ∧ TD H3 v0 (dView (farV a0 b0 m0)) ∧ TD H3 v1 (dView (farV a' b' m')) ∧ 4 ≤ a' ∧ (a0 ≠ a' ∨ b0 ≠ b' ∨ m0 ≠ m') := by
        rcases hcase with h | h | h
        · exact absurd h.1 (by decide)
        · exact absurd h.1 (by decide)
        · exact h.2
      refine ⟨_, rfl, _, _, _, _, rfl, rfl, SqL.of hvl, rfl, ?_⟩
      obtain ⟨fa, fxs, rfl, hfa, hft, hfl⟩ := td_grow hv0
      cases hft with
      | @cons e0 _ _ _ ft1 fr1 =>
        cases fr1 with
        | @cons e1 _ _ _ ft2 fr2 =>
          cases fr2 with
          | @cons e2 _ _ _ ft3 fr3 =>
            cases fr3
            refine ⟨_, rfl, _, rfl, _, rfl, _, _, rfl, SqT.of hfa, by show ¬ ((0 : Nat) = 0 ∧ (1 : Nat) = 3); decide, fun p1 np1 => ?_⟩
            have kp1 := Keep.new (W := []) (o := .tup [e0]) np1
            refine ⟨_, rfl, _, rfl, _, _, rfl, SqT.of (kp1 _ _ hfa (by simp)), by show ¬ ((2 : Nat) = 0 ∧ (3 : Nat) = 3); decide, fun p2 np2 => ?_⟩
            have kp2 := Keep.new (W := []) (o := .tup [e2]) np2
            have kpp := kp1.trans kp2
            have td1 : TD (upd (upd H3 p1 (.tup [e0])) p2 (.tup [e2])) (.ref p1) (dView [(("round" : Str), [a0])]) := .tup (kp2 _ _ upd_same (by simp)) (.cons (ft1.tk kpp.tk) .nil)
            have td2 : TDs (upd (upd H3 p1 (.tup [e0])) p2 (.tup [e2])) [e2] (([(("move" : Str), [m0, 2])] : List Ev).map dEv) := .cons (ft3.tk kpp.tk) .nil
            have hp2 : upd (upd H3 p1 (.tup [e0])) p2 (.tup [e2]) p2 = some (.tup [e2]) := upd_same
            have fin : ∀ (p : Addr) (H' : Hp), Keep [] (upd (upd H3 p1 (.tup [e0])) p2 (.tup [e2])) H' → TD H' (.ref p) (dView (farW a0 m0)) → ∀ lq, H' lq = none → ∀ r, upd H' lq (.lst [.ref p]) r = none → Q (.ref r) (upd (upd H' lq (.lst [.ref p])) r (.lst ([.ref fa, v1] ++ [.ref p]))) := by
              intro p H' kk htd lq nlq r nr
              have kq := Keep.new (W := []) (o := .lst [.ref p]) nlq
              have kr := Keep.new (W := []) (o := .lst ([.ref fa, v1] ++ [.ref p])) nr
              have kall := ((kpp.trans kk).trans kq).trans kr
              exact k r (.ref fa) v1 (.ref p) a0 b0 m0 a' b' m' _ upd_same (hv0.tk kall.tk) (hv1.tk kall.tk) (htd.tk (kq.trans kr).tk) ha4 ha' hne (k3.trans kall)
            refine add_evs (L := [(("round" : Str), [a0])]) (M := [(("move" : Str), [m0, 2])]) td1 hp2 td2 (by show 1 + 1 ≤ 100000; decide) fun p H' kk htd => ?_
            refine And.intro (by show 1 ≤ sizeLine; decide) <| fun lq nlq => ?_
            have kq := Keep.new (W := []) (o := .lst [.ref p]) nlq
            have hvl' := ((kpp.trans kk).trans kq) _ _ hvl (by simp)
            exact ⟨vl, lq, _, _, rfl, rfl, hvl', upd_same, by show 3 ≤ sizeLine; decide, fun r nr => fin p H' kk htd lq nlq r nr⟩
end

/-- f holds rows whose view ends with the move of that many choices -/
def InvR (f : List Row) : Prop := ∀ x ∈ f, ∃ (v : List Ev) (m : Int), x.1 = v ++ [(("move" : Str), [m, x.2])]
theorem asked_row (S : List Stg) (q : List Nat) (j : Nat) : ∃ (v : List Ev) (m : Int), (asked S q j, ((stg S j).sz : Int)).1 = v ++ [(("move" : Str), [m, (asked S q j, ((stg S j).sz : Int)).2])] := ⟨_, _, rfl⟩
theorem insR_sub (f : List Row) (r : Row) : ∀ x ∈ f, x ∈ insR f r := fun x h => by
  unfold insR
  split
  · exact h
  · exact List.mem_append_left _ h
theorem insR_mem (f : List Row) (r : Row) : r ∈ insR f r := by
  unfold insR
  split
  · assumption
  · simp
theorem insR_inv {f : List Row} {r : Row} (h : InvR f) (g : ∃ (v : List Ev) (m : Int), r.1 = v ++ [(("move" : Str), [m, r.2])]) : InvR (insR f r) := fun x hx => by
  unfold insR at hx
  split at hx
  · exact h x hx
  · rcases List.mem_append.mp hx with z | z
    · exact h x z
    · rw [List.mem_singleton.mp z]; exact g
theorem met_sz (S : List Stg) (pl : Nat) : ∀ r ∈ met S pl, ∃ j, r.2 = ((stg S j).sz : Int) := by
  have step : ∀ q j f, (∀ r ∈ f, ∃ j, r.2 = ((stg S j).sz : Int)) → ∀ r ∈ metK S pl q j f, ∃ j, r.2 = ((stg S j).sz : Int) := by
    intro q j
    induction j with
    | zero => intro f h; exact h
    | succ j ih =>
      intro f h
      unfold metK insR
      split
      · split
        · exact ih f h
        · intro r hr
          rcases List.mem_append.mp hr with z | z
          · exact ih f h r z
          · rw [List.mem_singleton.mp z]; exact ⟨j, rfl⟩
      · exact ih f h
  have all : ∀ (L : List (List Nat)) (f : List Row), (∀ r ∈ f, ∃ j, r.2 = ((stg S j).sz : Int)) → ∀ r ∈ L.foldl (fun f p => metK S pl p S.length f) f, ∃ j, r.2 = ((stg S j).sz : Int) := by
    intro L
    induction L with
    | nil => intro f h; exact h
    | cons a L ih => intro f h; exact ih _ (step a _ f h)
  exact all _ [] (fun r h => by cases h)
theorem met_ok (S : List Stg) (pl : Nat) : ∀ r ∈ met S pl, ∀ e ∈ r.1, OkE e := by
  have all : ∀ (L : List (List Nat)) (f : List Row), (∀ r ∈ f, ∀ e ∈ r.1, OkE e) → ∀ r ∈ L.foldl (fun f p => metK S pl p S.length f) f, ∀ e ∈ r.1, OkE e := by
    intro L
    induction L with
    | nil => intro f h; exact h
    | cons a L ih => intro f h; exact ih _ (metK_ok S pl a _ f h)
  exact all _ [] (fun r h => by cases h)
theorem met_len (S : List Stg) (pl : Nat) : (met S pl).length ≤ prodS S * S.length := by
  have all : ∀ (L : List (List Nat)) (f : List Row), (L.foldl (fun f p => metK S pl p S.length f) f).length ≤ f.length + L.length * S.length := by
    intro L
    induction L with
    | nil => intro f; show f.length ≤ f.length + 0 * _; omega
    | cons a L ih =>
      intro f
      have h1 := ih (metK S pl a S.length f)
      have h2 := metK_len S pl a S.length f
      show (L.foldl _ (metK S pl a S.length f)).length ≤ f.length + (L.length + 1) * S.length
      rw [Nat.add_mul]
      omega
  have := all (paths S [[]]) []
  rw [paths_len] at this
  unfold met
  simpa using this

theorem metK_inv (S : List Stg) (pl : Nat) (p : List Nat) : ∀ k f, InvR f → InvR (metK S pl p k f)
  | 0, _, h => h
  | k + 1, f, h => by
    have ih := metK_inv S pl p k f h
    unfold metK
    split
    · exact insR_inv ih (asked_row S p k)
    · exact ih
theorem insR_nodup {f : List Row} {r : Row} (h : InvR f) (g : ∃ (v : List Ev) (m : Int), r.1 = v ++ [(("move" : Str), [m, r.2])]) (n : (f.map (·.1)).Nodup) : ((insR f r).map (·.1)).Nodup := by
  unfold insR
  split
  · exact n
  · rename_i hr
    rw [List.map_append, List.map_cons, List.map_nil]
    refine List.nodup_append.mpr ⟨n, by simp, fun x hx y hy => ?_⟩
    rw [List.mem_singleton.mp hy]
    intro e
    obtain ⟨q, hq, rfl⟩ := List.mem_map.mp hx
    obtain ⟨v, m, hv⟩ := h q hq
    obtain ⟨v', m', hv'⟩ := g
    have e0 := e
    rw [hv, hv'] at e
    have e2 := (List.append_inj' e rfl).2
    have e3 : q.2 = r.2 := by
      have := (List.cons.inj e2).1
      have := (Prod.mk.inj this).2
      exact (List.cons.inj (List.cons.inj this).2).1
    exact hr (by rw [← show q = r from Prod.ext e0 e3]; exact hq)
theorem metK_nodup (S : List Stg) (pl : Nat) (p : List Nat) : ∀ k f, InvR f → (f.map (·.1)).Nodup → ((metK S pl p k f).map (·.1)).Nodup
  | 0, _, _, n => n
  | k + 1, f, h, n => by
    have ih := metK_nodup S pl p k f h n
    unfold metK
    split
    · exact insR_nodup (metK_inv S pl p k f h) (asked_row S p k) ih
    · exact ih
theorem met_nodup (S : List Stg) (pl : Nat) : ((met S pl).map (·.1)).Nodup := by
  have all : ∀ (L : List (List Nat)) (f : List Row), InvR f → (f.map (·.1)).Nodup → ((L.foldl (fun f p => metK S pl p S.length f) f).map (·.1)).Nodup := by
    intro L
    induction L with
    | nil => intro f _ n; exact n
    | cons a L ih => intro f h n; exact ih _ (metK_inv S pl a _ f h) (metK_nodup S pl a _ f h n)
  exact all _ [] (fun x h => by cases h) (by simp)
def Zer (L : List Ev) : Prop := ∃ t, L = (("round" : Str), [0]) :: t
theorem vw_zer (S : List Stg) (pl : Nat) (p : List Nat) : ∀ k, Zer (vw S pl p k)
  | 0 => ⟨[], rfl⟩
  | k + 1 => by
    obtain ⟨t, ht⟩ := vw_zer S pl p k
    unfold vw
    rw [ht]
    exact ⟨_, rfl⟩
theorem asked_zer (S : List Stg) (p : List Nat) (k : Nat) : Zer (asked S p k) := by
  obtain ⟨t, ht⟩ := vw_zer S (stg S k).pl p k
  unfold asked
  rw [ht]
  exact ⟨_, rfl⟩
theorem met_zer (S : List Stg) (pl : Nat) : ∀ r ∈ met S pl, Zer r.1 := by
  have step : ∀ q j f, (∀ r ∈ f, Zer r.1) → ∀ r ∈ metK S pl q j f, Zer r.1 := by
    intro q j
    induction j with
    | zero => intro f h; exact h
    | succ j ih =>
      intro f h
      unfold metK insR
      split
      · split
        · exact ih f h
        · intro r hr
          rcases List.mem_append.mp hr with z | z
          · exact ih f h r z
          · rw [List.mem_singleton.mp z]; exact asked_zer S q j
      · exact ih f h
  have all : ∀ (L : List (List Nat)) (f : List Row), (∀ r ∈ f, Zer r.1) → ∀ r ∈ L.foldl (fun f p => metK S pl p S.length f) f, Zer r.1 := by
    intro L
    induction L with
    | nil => intro f h; exact h
    | cons a L ih => intro f h; exact ih _ (step a _ f h)
  exact all _ [] (fun r h => by cases h)
theorem far_zer {a b m : Int} (h : 4 ≤ a) : ¬ Zer (farV a b m) := by
  rintro ⟨t, ht⟩
  unfold farV at ht
  have := (Prod.mk.inj (List.cons.inj ht).1).2
  have := (List.cons.inj this).1
  omega
theorem farW_zer {a m : Int} (h : 4 ≤ a) : ¬ Zer (farW a m) := by
  rintro ⟨t, ht⟩
  unfold farW at ht
  have := (Prod.mk.inj (List.cons.inj ht).1).2
  have := (List.cons.inj this).1
  omega
theorem far_inj {a b m a' b' m' : Int} (h : farV a b m = farV a' b' m') : a = a' ∧ b = b' ∧ m = m' := by
  unfold farV at h
  simpa using h
theorem far_ne {a b m a' m' : Int} : farV a b m ≠ farW a' m' := fun h => by
  have := congrArg List.length h
  cases this
/-! what a plan answers -/
theorem look_nil (L : List Ev) : look [] L = none := rfl
theorem look_snoc_ne {t : List Ent2} {M L : List Ev} {rs : List Rt} (h : M ≠ L) : look (t ++ [(M, rs)]) L = look t L := by
  unfold look
  rw [List.find?_append]
  cases (t.find? fun e => decide (e.1 = L)) with
  | some x => rfl
  | none =>
    simp [List.find?_cons, h]
theorem look_none {t : List Ent2} {L : List Ev} (h : L ∉ t.map (·.1)) : look t L = none := by
  unfold look
  rw [List.find?_eq_none.mpr fun x hx z => h (List.mem_map.mpr ⟨x, hx, of_decide_eq_true z⟩)]
  rfl
theorem look_snoc_eq {t : List Ent2} {L : List Ev} {rs : List Rt} (h : L ∉ t.map (·.1)) : look (t ++ [(L, rs)]) L = some rs := by
  have h0 := look_none h
  unfold look at h0 ⊢
  rw [List.find?_append]
  cases hf : (t.find? fun e => decide (e.1 = L)) with
  | some x => rw [hf] at h0; cases h0
  | none =>
    simp [List.find?_cons]
theorem lotsAt_of {t t' : List Ent2} {L : List Ev} (h : look t L = look t' L) (c : Nat) : lotsAt t L c = lotsAt t' L c := by unfold lotsAt; rw [h]
theorem lotsAt_len (t : List Ent2) (L : List Ev) (c : Nat) : (lotsAt t L c).length = c := by
  unfold lotsAt
  cases look t L with
  | none => exact rs0_len c
  | some rs =>
    show (if rs.length = c then rs else rs0 c).length = c
    split
    · assumption
    · exact rs0_len c
theorem look_mem {t : List Ent2} {L : List Ev} {rs : List Rt} (h : look t L = some rs) : (L, rs) ∈ t := by
  unfold look at h
  obtain ⟨e, he, rfl⟩ := Option.map_eq_some_iff.mp h
  have hm := List.mem_of_find?_eq_some he
  have hL : e.1 = L := by simpa using List.find?_some he
  rw [← hL]; exact hm
theorem lotsAt_rt {es : List WE} (h : ∀ e ∈ es, WOk e.2) (L : List Ev) (c : Nat) : ∀ r ∈ lotsAt (tab es) L c, RtOk r := by
  unfold lotsAt
  cases hl : look (tab es) L with
  | none => exact rs0_rt c
  | some rs =>
    show ∀ r ∈ (if rs.length = c then rs else rs0 c), RtOk r
    split
    · obtain ⟨e, he, hee⟩ := List.mem_map.mp (look_mem hl)
      have : rs = wr e.2 := (Prod.mk.inj hee).2.symm
      rw [this]
      exact wr_rt (h e he)
    · exact rs0_rt c
theorem tab_len {es : List WE} (h : ∀ e ∈ es, WOk e.2) : ∀ e ∈ tab es, e.2.length ≤ 1000 := fun e he => by
  obtain ⟨x, hx, rfl⟩ := List.mem_map.mp he
  have := (h x hx).len
  show (wr x.2).length ≤ 1000
  unfold wr
  rw [List.length_map]; omega
theorem tab_fst (es : List WE) : (tab es).map (·.1) = es.map (·.1) := by unfold tab; rw [List.map_map]; rfl
theorem tab_snoc (es : List WE) (e : WE) : tab (es ++ [e]) = tab es ++ [(e.1, wr e.2)] := by unfold tab; rw [List.map_append]; rfl

theorem cut_neg1 (xs : List V) : cutV xs none (some (-1)) = xs.take (xs.length - 1) := by
  show (xs.drop (HT.sIx xs.length 0 none)).take (HT.sIx xs.length xs.length (some (-1)) - HT.sIx xs.length 0 none) = _
  rw [HT.sIx_none, List.drop_zero, Nat.sub_zero]
  congr 1
  show (if (-1 : Int) < 0 then ((-1 : Int) + (xs.length : Int)).toNat else min (-1 : Int).toNat xs.length) = xs.length - 1
  rw [if_pos (by decide)]
  omega
theorem op_eqDK {X : Cx} {K : PySem.W.Frag} (hu : X.A.units + 64 < cLine) (hK : X.K = K := by rfl) : OpR X (compareOp .Eq) (rEqD K) := hK ▸ op_eqD hu
theorem eqv_view {r s : List Ev} (hr : ∀ e ∈ r, OkE e) : PyData.eqv (dView r) (dView s) = decide (r = s) := by
  by_cases h : r = s
  · subst h
    rw [decide_eq_true rfl]
    exact SeqAt.eqv_refl _ (SeqAt.canLay_of_shaped (shaped_view hr))
  · rw [decide_eq_false h]
    cases hz : PyData.eqv (dView r) (dView s) with
    | false => rfl
    | true => exact absurd (dView_inj (eqv_pl _ _ (pl_view _) (pl_view _) hz)) h
theorem two_new {H : Hp} {t1 t2 l : Addr} {a b c d : Int} (n1 : H t1 = none) (n2 : upd H t1 (.tup [.int a, .int b]) t2 = none) (n3 : upd (upd H t1 (.tup [.int a, .int b])) t2 (.tup [.int c, .int d]) l = none) :
    DL (upd (upd (upd H t1 (.tup [.int a, .int b])) t2 (.tup [.int c, .int d])) l (.lst [.ref t1, .ref t2])) [.ref t1, .ref t2] [(a, b), (c, d)] ∧ Keep [] H (upd (upd (upd H t1 (.tup [.int a, .int b])) t2 (.tup [.int c, .int d])) l (.lst [.ref t1, .ref t2])) := by
  have k1 := Keep.new (W := []) (o := .tup [.int a, .int b]) n1
  have k2 := Keep.new (W := []) (o := .tup [.int c, .int d]) n2
  have k3 := Keep.new (W := []) (o := .lst [.ref t1, .ref t2]) n3
  exact ⟨.cons (r := (a, b)) ((k2.trans k3) _ _ upd_same (by simp)) (.cons (r := (c, d)) (k3 _ _ upd_same (by simp)) .nil), (k1.trans k2).trans k3⟩
def sp_law (K : PySem.W.Frag) : Sp := fun vs H Q _ => ∃ (a : Addr) (ns : List Int), vs = [.ref a] ∧ SqL K H a (ns.map V.int) ∧ ∀ H', Q (.bl true) H'
section
variable {P : Program} {w : World} {K : PySem.W.Frag} {mg : Str → Option Value} {base : Heap} {C_Ratio : Addr} {C_Plan : Addr}
theorem ok_law {f : Addr} {fd : FuncData} (F : C8.Fun K "law" "law" s_law f fd) (T : Txt K mg C_Ratio C_Plan) (c_law_stages : C8.Cal P w K mg base 2 "_law_stages" (sp_stages K 36) []) (c_law_cell : C8.Cal P w K mg base 1 "_law_cell" (sp_cell K) []) (c_law_met : C8.Cal P w K mg base 3 "_law_met" sp_met []) (c_law_entries : C8.Cal P w K mg base 2 "_law_entries" sp_entries []) (c_law_far : C8.Cal P w K mg base 1 "_law_far" sp_far [])
    (c_law_plan : C8.Cal P w K mg base 5 "_law_plan" (sp_lawplan P w C_Plan C_Ratio) []) (c_law_fraction : C8.Cal P w K mg base 1 "_law_fraction" sp_fraction []) (c_law_lots : C8.Cal P w K mg base 4 "_law_lots" (sp_lots P w C_Plan C_Ratio) []) :
    FnOk P w K mg base C8.CX0 6 f fd ["script"] (sp_law K) := by
  refine fn0 F sc_law (fun vs H Q E h => ?_) (fun cdv A outer s H vs Q E hr h => ?_)
  · obtain ⟨a, ns, rfl, _⟩ := h
    rfl
  · obtain ⟨a, ns, rfl, hS, k⟩ := h
    refine ⟨_, (pss_cons (ps_set (i := 1) sc_law.nd rfl (by first | exact Or.inl rfl | exact Or.inr rfl) (pe_c c_law_stages hr (by first | exact Nat.le_refl _ | decide | omega) rfl (pa_cons (pv 0) (pa_cons pe_int pa_nil))))
(pss_cons (ps_set (i := 2) sc_law.nd rfl (by first | exact Or.inl rfl | exact Or.inr rfl) (pe_op op_add pe_int (pe_op op_mod (pe_callTy call_int1 (by rfl) T.n_int bo_int (pa_cons (pe_c c_law_cell hr (by first | exact Nat.le_refl _ | decide | omega) rfl (pa_cons (pv 0) (pa_cons pe_int pa_nil))) pa_nil)) pe_int)))
(pss_cons (ps_set (i := 3) sc_law.nd rfl (by first | exact Or.inl rfl | exact Or.inr rfl) (pe_c c_law_met hr (by first | exact Nat.le_refl _ | decide | omega) rfl (pa_cons (pv 1) (pa_cons (pv 2) pa_nil))))
(pss_cons (ps_set (i := 4) sc_law.nd rfl (by first | exact Or.inl rfl | exact Or.inr rfl) (pe_c c_law_entries hr (by first | exact Nat.le_refl _ | decide | omega) rfl (pa_cons (pv 3) (pa_cons (pe_c c_law_cell hr (by first | exact Nat.le_refl _ | decide | omega) rfl (pa_cons (pv 0) (pa_cons pe_int pa_nil))) pa_nil))))
(pss_cons (ps_set (i := 5) sc_law.nd rfl (by first | exact Or.inl rfl | exact Or.inr rfl) (pe_lst pa_nil))
(pss_cons (ps_for PassesOwn.never rfl (pi_range1 (by rfl) T.n_range (pa_cons (pe_callB call_len_seq (by rfl) T.n_len bo_len (pa_cons (pv 4) pa_nil)) pa_nil)) (pg_name (i := 6) sc_law.nd rfl (by first | exact Or.inl rfl | exact Or.inr rfl))
  (pss_one (ps_if (PW.pt (pw_or (pt_cmpR op_ne (pe_op op_mod (pe_callTy call_int1 (by rfl) T.n_int bo_int (pa_cons (pe_op op_add (pe_op op_fdiv (pe_c c_law_cell hr (by first | exact Nat.le_refl _ | decide | omega) rfl (pa_cons (pv 0) (pa_cons pe_int pa_nil))) pe_int) (pv 6)) pa_nil)) pe_int) pe_int (nomark _)) (pw_or1 (pt_cmpR op_eq (pe_op op_mod (pe_callTy call_int1 (by rfl) T.n_int bo_int (pa_cons (pe_op op_fdiv (pe_c c_law_cell hr (by first | exact Nat.le_refl _ | decide | omega) rfl (pa_cons (pv 0) (pa_cons pe_int pa_nil))) pe_int) pa_nil)) pe_int) pe_int (nomark _)))))
    (pss_cons (ps_set (i := 7) sc_law.nd rfl (by first | exact Or.inl rfl | exact Or.inr rfl) (pe_ix ix_tup (pe_ix ix_list (pv 4) (pv 6) (fun _ _ => rfl)) pe_int (fun _ _ => rfl)))
    (pss_cut (ps_if (pt_cmpR op_eq (pe_op op_mod (pe_callTy call_int1 (by rfl) T.n_int bo_int (pa_cons (pe_op op_add (pe_op op_fdiv (pe_c c_law_cell hr (by first | exact Nat.le_refl _ | decide | omega) rfl (pa_cons (pv 0) (pa_cons pe_int pa_nil))) pe_int) (pv 6)) pa_nil)) pe_int) pe_int (nomark _))
      (pss_one (ps_set (i := 7) sc_law.nd rfl (by first | exact Or.inl rfl | exact Or.inr rfl) (pe_op op_cat (pv 7) (pe_lst (pa_cons pe_int pa_nil)))))
      (pss_one (ps_if (PW.pt (pw_and (pt_cmpR op_eq (pe_op op_mod (pe_callTy call_int1 (by rfl) T.n_int bo_int (pa_cons (pe_op op_add (pe_op op_fdiv (pe_c c_law_cell hr (by first | exact Nat.le_refl _ | decide | omega) rfl (pa_cons (pv 0) (pa_cons pe_int pa_nil))) pe_int) (pv 6)) pa_nil)) pe_int) pe_int (nomark _)) (pw_and1 (pt_cmpR op_gt (pe_callB call_len_seq (by rfl) T.n_len bo_len (pa_cons (pv 7) pa_nil)) pe_int (nomark _)))))
        (pss_cons (ps_set (i := 7) sc_law.nd rfl (by first | exact Or.inl rfl | exact Or.inr rfl) (pe_slice sl_list (pv 7) po_none (po_some (pe_un un_neg pe_int))))
        (pss_one (ps_asg (pe_op op_add (pe_ix ix_list (pv 7) pe_int (fun _ _ => rfl)) (pe_callTy call_int1 (by rfl) T.n_int bo_int (pa_cons (pe_cmpR op_eq (pe_callB (cr_sum rfl) (by rfl) T.n_sum bo_sum (pa_cons (pv 7) pa_nil)) pe_int (nomark _)) pa_nil))) (pg_sub (pv 7) pe_int set_list))))
        pss_nil)))
    (pss_one (ps_expr (pe_bm PySem.F.plainAttrs_list PySem.F.slot_list_append PySem.F.type_list_append mt_append (pv 5) (pa_cons (pe_tup (pa_cons (pe_ix ix_tup (pe_ix ix_list (pv 4) (pv 6) (fun _ _ => rfl)) pe_int (fun _ _ => rfl)) (pa_cons (pv 7) pa_nil))) pa_nil))))))
    pss_nil)))
(pss_cons (ps_set (i := 8) sc_law.nd rfl (by first | exact Or.inl rfl | exact Or.inr rfl) (pe_c c_law_far hr (by first | exact Nat.le_refl _ | decide | omega) rfl (pa_cons (pe_c c_law_cell hr (by first | exact Nat.le_refl _ | decide | omega) rfl (pa_cons (pv 0) (pa_cons pe_int pa_nil))) pa_nil)))
(pss_cons (ps_set (i := 9) sc_law.nd rfl (by first | exact Or.inl rfl | exact Or.inr rfl) (pe_c c_law_plan hr (by first | exact Nat.le_refl _ | decide | omega) rfl (pa_cons (pe_op op_cat (pv 5) (pe_lst (pa_cons (pe_tup (pa_cons (pe_ix ix_list (pv 8) pe_int (fun _ _ => rfl)) (pa_cons (pe_lst (pa_cons pe_int (pa_cons pe_int pa_nil))) pa_nil))) (pa_cons (pe_tup (pa_cons (pe_ix ix_list (pv 8) pe_int (fun _ _ => rfl)) (pa_cons (pe_lst (pa_cons pe_int (pa_cons pe_int pa_nil))) pa_nil))) pa_nil)))) pa_nil)))
(pss_cons (ps_for PassesOwn.never rfl (pi_list (pv 3)) (pg_name (i := 10) sc_law.nd rfl (by first | exact Or.inl rfl | exact Or.inr rfl))
  (pss_one (ps_for PassesOwn.never rfl (pi_tup (pe_tup (pa_cons (pe_ix ix_tup (pv 10) pe_int (fun _ _ => rfl)) (pa_cons (pe_op op_add (pe_ix ix_tup (pv 10) pe_int (fun _ _ => rfl)) pe_int) (pa_cons (pe_callB (call_max2 rfl) (by rfl) T.n_max bo_max (pa_cons pe_int (pa_cons (pe_op op_sub (pe_ix ix_tup (pv 10) pe_int (fun _ _ => rfl)) pe_int) pa_nil))) (pa_cons (pe_ix ix_tup (pv 10) pe_int (fun _ _ => rfl)) pa_nil)))))) (pg_name (i := 11) sc_law.nd rfl (by first | exact Or.inl rfl | exact Or.inr rfl))
    (pss_cons (ps_setLc (i := 12) (own := [("k", 6)]) (g := gName 6) (tt := tYes) rfl sc_law.nd rfl rfl (sw_true rfl rfl rfl (by decide +kernel)) (pi_range1 (by rfl) T.n_range (pa_cons (pv 11) pa_nil)) (blkOk_by (N := ["script", "stages", "player", "views", "entries", "given", "k", "weights", "far", "plan", "pair", "count", "due", "entry", "weight"]) (sc := fnScope s_law) (by decide +kernel)) (fun _ _ _ _ _ => pg_name (i := 6) sc_law.nd rfl (by first | exact Or.inl rfl | exact Or.inr rfl)) (fun _ _ _ _ _ => pts_nil) (fun _ _ _ _ _ => (pe_tup (pa_cons (pe_callTy call_int1 (by rfl) T.n_int bo_int (pa_cons (pe_cmpR op_eq (pv 6) pe_int (nomark _)) pa_nil)) (pa_cons pe_int pa_nil)))))
    (pss_cons (ps_for PassesOwn.never rfl (pi_list (pv 5)) (pg_name (i := 13) sc_law.nd rfl (by first | exact Or.inl rfl | exact Or.inr rfl))
      (pss_one (ps_if (PW.pt (pw_and (pt_cmpR (op_eqDK (K := K) hr.units) (pe_ix ix_tup (pv 13) pe_int (fun _ _ => rfl)) (pe_ix ix_tup (pv 10) pe_int (fun _ _ => rfl)) (nomark _)) (pw_and1 (pt_cmpR op_eq (pe_callB call_len_seq (by rfl) T.n_len bo_len (pa_cons (pe_ix ix_tup (pv 13) pe_int (fun _ _ => rfl)) pa_nil)) (pv 11) (nomark _)))))
        (pss_one (ps_setLc (i := 12) (own := [("weight", 14)]) (g := gName 14) (tt := tYes) rfl sc_law.nd rfl rfl (sw_true rfl rfl rfl (by decide +kernel)) (pi_list (pe_ix ix_tup (pv 13) pe_int (fun _ _ => rfl))) (blkOk_by (N := ["script", "stages", "player", "views", "entries", "given", "k", "weights", "far", "plan", "pair", "count", "due", "entry", "weight"]) (sc := fnScope s_law) (by decide +kernel)) (fun _ _ _ _ _ => pg_name (i := 14) sc_law.nd rfl (by first | exact Or.inl rfl | exact Or.inr rfl)) (fun _ _ _ _ _ => pts_nil) (fun _ _ _ _ _ => (pe_c c_law_fraction hr (by first | exact Nat.le_refl _ | decide | omega) rfl (pa_cons (pv 14) (pa_cons (pe_callB (cr_sumK (K := K) rfl) (by rfl) T.n_sum bo_sum (pa_cons (pe_ix (ix_tupK (K := K)) (pv 13) pe_int (fun _ _ => rfl)) pa_nil)) pa_nil))))))
        pss_nil)))
    (pss_one (ps_if (pt_not (pt_val (pe_c c_law_lots hr (by first | exact Nat.le_refl _ | decide | omega) rfl (pa_cons (pv 9) (pa_cons (pe_ix ix_tup (pv 10) pe_int (fun _ _ => rfl)) (pa_cons (pv 11) (pa_cons (pv 12) pa_nil)))))))
      (pss_one (ps_ret pe_bl))
      pss_nil)))))))
(pss_cons (ps_if (PW.pt (pw_or (pt_not (pt_val (pe_c c_law_lots hr (by first | exact Nat.le_refl _ | decide | omega) rfl (pa_cons (pv 9) (pa_cons (pe_ix ix_list (pv 8) pe_int (fun _ _ => rfl)) (pa_cons pe_int (pa_cons (pe_lst (pa_cons (pe_tup (pa_cons pe_int (pa_cons pe_int pa_nil))) (pa_cons (pe_tup (pa_cons pe_int (pa_cons pe_int pa_nil))) pa_nil))) pa_nil))))))) (pw_or1 (pt_not (pt_val (pe_c c_law_lots hr (by first | exact Nat.le_refl _ | decide | omega) rfl (pa_cons (pv 9) (pa_cons (pe_ix ix_list (pv 8) pe_int (fun _ _ => rfl)) (pa_cons pe_int (pa_cons (pe_lst (pa_cons (pe_tup (pa_cons pe_int (pa_cons pe_int pa_nil))) (pa_cons (pe_tup (pa_cons pe_int (pa_cons pe_int pa_nil))) pa_nil))) pa_nil))))))))))
  (pss_one (ps_ret pe_bl))
  pss_nil)
(pss_cons (ps_if (pt_not (pt_val (pe_c c_law_lots hr (by first | exact Nat.le_refl _ | decide | omega) rfl (pa_cons (pv 9) (pa_cons (pe_ix ix_list (pv 8) pe_int (fun _ _ => rfl)) (pa_cons pe_int (pa_cons (pe_lst (pa_cons (pe_tup (pa_cons pe_int (pa_cons pe_int pa_nil))) (pa_cons (pe_tup (pa_cons pe_int (pa_cons pe_int pa_nil))) pa_nil))) pa_nil)))))))
  (pss_one (ps_ret pe_bl))
  pss_nil)
(pss_one (ps_ret (pe_c c_law_lots hr (by first | exact Nat.le_refl _ | decide | omega) rfl (pa_cons (pv 9) (pa_cons (pe_tup (pa_cons (pe_tup (pa_cons pe_str (pa_cons pe_int pa_nil))) (pa_cons (pe_tup (pa_cons pe_str (pa_cons pe_int (pa_cons pe_int pa_nil)))) pa_nil))) (pa_cons pe_int (pa_cons (pe_lst (pa_cons (pe_tup (pa_cons pe_int (pa_cons pe_int pa_nil))) (pa_cons (pe_tup (pa_cons pe_int (pa_cons pe_int pa_nil))) pa_nil))) pa_nil)))))))))))))))))), ?_⟩
    refine ⟨_, rfl, a, ns, 36, rfl, rfl, hS, fun l S H1 nl hSt hok hpr K1 => ?_⟩
    have hS1 := K1.seqL hS (by simp)
    have hpr := hok.prod
    have h4 := hok.len
    obtain ⟨pl, hpl⟩ : ∃ pl : Nat, 1 + ns.getD 1 0 % 2 = ((pl : Nat) : Int) := ⟨(1 + ns.getD 1 0 % 2).toNat, by have := Int.emod_nonneg (ns.getD 1 0) (show (2 : Int) ≠ 0 by decide); omega⟩
    refine ⟨_, rfl, a, ns, 1, rfl, hS1, .inl ⟨_, rfl, _, _, rfl, rfl, by show (0 : Int) < 2; decide, _, _, rfl, rfl, ?_⟩⟩
    refine ⟨_, rfl, _, rfl, l, S, pl, by show [V.ref l, V.int (1 + ns.getD 1 0 % 2)] = _; rw [hpl], hSt, hok, fun vl vxs H2 nvl hvl hvt K2 => ?_⟩
    have hRs := met_sz S pl
    have hRl := met_len S pl
    have hRn := met_nodup S pl
    have hRz := met_zer S pl
    generalize hRR : met S pl = R at *
    have hR : ∀ r ∈ R, 1 ≤ r.2 ∧ r.2 ≤ 100 := fun r hr => by
      obtain ⟨j, hj⟩ := hRs r hr
      have h1 := (stg_ok hok j).sz0
      have h2 := (stg_ok hok j).sz1
      omega
    have hRl2 : R.length ≤ 200 := by
      have : prodS S * S.length ≤ 36 * 4 := Nat.mul_le_mul (by assumption) h4
      omega
    refine ⟨_, rfl, _, rfl, a, ns, 2, rfl, K2.seqL hS1 (by simp), vl, ns.getD 2 0, vxs, R, rfl, hvl, hvt, fun r hr => ⟨by have := hR r hr; omega, (hR r hr).2⟩, hRl2, fun el exs es H3 nel hel hwl hes hok3 K3 => ?_⟩
    have hxl := hwl.len
    have hel0 : es.length = R.length := by have := congrArg List.length hes; rwa [List.length_map, List.length_map] at this
    refine And.intro (by show 0 ≤ sizeLine; decide) <| fun gl ngl => ?_
    have kg := Keep.new (W := []) (o := .lst []) ngl
    have hel4 := kg _ _ hel (by simp)
    have k14 := (K2.trans K3).trans kg
    have hS4 := k14.seqL hS1 (by simp)
    have hgl4 : upd H3 gl (.lst []) gl = some (.lst []) := upd_same
    have ngl1 : H1 gl = none := (K2.trans K3).free ngl
    have helgl : el ≠ gl := ne_of_none hel ngl
    have hwl4 : WL (fun b => b ≠ gl) (upd H3 gl (.lst [])) exs es := (hwl.mono fun b ys hb _ => ne_of_none hb ngl).keep0 kg
    generalize upd H3 gl (.lst []) = H4 at *
    refine ⟨_, rfl, el, exs, rfl, .inl (SqL.of hel4), _, rfl, by omega, by omega, ?_⟩
    refine for_range (lo := 0) (n := exs.length) (fun i σ H' => ∃ (gxs : List V) (gs : List WE) (o6 o7 : Option V), σ = [some (.ref a), some (.ref l), some (.int (1 + ns.getD 1 0 % 2)), some (.ref vl), some (.ref el), some (.ref gl), o6, o7, none, none, none, none, none, none, none] ∧ H' gl = some (.lst gxs) ∧ WL (fun b => b ≠ gl) H' gxs gs ∧ ((gs.map (·.1)).Sublist ((es.take i).map (·.1))) ∧ (∀ e ∈ gs, WOk e.2) ∧ (∀ b o, H4 b = some o → b ≠ gl → H' b = some o)) ⟨[], [], _, _, rfl, hgl4, .nil, List.Sublist.refl _, (fun e h => by cases h), fun b o h _ => h⟩ ?_ ?_
    · rintro i σ H5 hi ⟨gxs, gs, o6, o7, rfl, hgl5, hwg, hsub, hgok, k5⟩
      have e0 : (0 : Int) + (i : Int) = (i : Int) := by omega
      rw [e0]
      have k35 : Keep [] H3 H5 := fun b o h _ => k5 b o (kg _ _ h (by simp)) (ne_of_none h ngl)
      have hS5 := ((K2.trans K3).trans k35).seqL hS1 (by simp)
      have hel5 := k5 _ _ hel4 helgl
      have tk45 : TK H4 H5 := fun b xs hb => k5 b _ hb (ne_of hb hgl4 (by intro z; cases z))
      have hwl5 := hwl4.keep tk45 fun b ys nb hb => k5 b _ hb nb
      refine ⟨_, rfl, a, ns, 1, rfl, hS5, _, _, rfl, rfl, ⟨by decide, by decide⟩, _, rfl, _, _, rfl, rfl, .inl ⟨_, rfl, _, _, rfl, rfl, by show (0 : Int) < 5; decide, rfl, _, rfl, iteN (fun _ => ?_) (fun _ => ⟨_, rfl, a, ns, 1, rfl, hS5, _, _, rfl, rfl, ⟨by decide, by decide⟩, .inl ⟨_, rfl, _, _, rfl, rfl, by show (0 : Int) < 2; decide, rfl, _, rfl, iteD (fun _ => ?_) (fun _ => ?_)⟩⟩)⟩⟩
      rotate_left 2
      · have hs2 : ((es.take i).map (·.1)).Sublist ((es.take (i + 1)).map (·.1)) := by
          refine List.Sublist.map _ ?_
          rw [show es.take i = (es.take (i + 1)).take i by rw [List.take_take]; congr 1; omega]
          exact List.take_sublist _ _
        exact ⟨gxs, gs, _, _, rfl, hgl5, hwg, hsub.trans hs2, hgok, k5⟩
      all_goals
        have hx : exs[i]? = some exs[i] := List.getElem?_eq_getElem hi
        obtain ⟨q, wl, vw, L, ws, hxe, hei, hq, hvw, hwl0, nwl⟩ := hwl5.get hx
        rw [hxe] at hx
        have hwok := (hok3 (L, ws) (List.mem_of_getElem? hei)).1
        have hwlen : ws.length ≤ 121 := (hok3 (L, ws) (List.mem_of_getElem? hei)).2.1
        have hwsm : ∀ w ∈ ws, w ≤ 5 := (hok3 (L, ws) (List.mem_of_getElem? hei)).2.2
        refine ⟨_, rfl, _, rfl, _, _, _, _, rfl, rfl, SqL.of hel5, atI_nat hx, _, _, _, _, rfl, rfl, SqT.of hq, rfl, ?_⟩
        refine ⟨fun σ H' => ∃ wl ws', σ = [some (.ref a), some (.ref l), some (.int (1 + ns.getD 1 0 % 2)), some (.ref vl), some (.ref el), some (.ref gl), some (.int (i : Nat)), some (.ref wl), none, none, none, none, none, none, none] ∧ H' wl = some (.lst (ws'.map nat)) ∧ WOk ws' ∧ wl ≠ gl ∧ Keep [] H5 H', ?_, ?_⟩
        · refine ⟨_, rfl, a, ns, 1, rfl, hS5, _, _, rfl, rfl, ⟨by decide, by decide⟩, _, rfl, _, _, rfl, rfl, .inl ⟨_, rfl, _, _, rfl, rfl, by show (0 : Int) < 7; decide, rfl, _, rfl, iteD (fun e => ?_) (fun e => ?_)⟩⟩
          · refine ⟨_, rfl, And.intro (by show 1 ≤ sizeLine; decide) <| fun g1 ng1 => ?_⟩
            have kg1 := Keep.new (W := []) (o := .lst [.int 2]) ng1
            refine ⟨wl, g1, _, _, rfl, rfl, kg1 _ _ hwl0 (by simp), upd_same, smallM (by rw [List.length_map]; simp; omega), fun r nr => ?_⟩
            have kr := Keep.new (W := []) (o := .lst (ws.map nat ++ [.int 2])) nr
            refine ⟨r, ws ++ [2], rfl, by rw [List.map_append]; exact upd_same, ⟨by rw [List.sum_append]; simp, fun w hw => ?_, by rw [List.length_append]; simp; omega⟩, (ne_of_none (kg1 _ _ hgl5 (by simp)) nr).symm, kg1.trans kr⟩
            rcases List.mem_append.mp hw with hw | hw
            · exact hwok.small w hw
            · rw [List.mem_singleton.mp hw]; decide
          · refine ⟨_, rfl, a, ns, 1, rfl, hS5, _, _, rfl, rfl, ⟨by decide, by decide⟩, _, rfl, _, _, rfl, rfl, .inl ⟨_, rfl, _, _, rfl, rfl, by show (0 : Int) < 7; decide, rfl, _, rfl, iteD (fun e2 => ?_) (fun e2 => ⟨wl, ws, rfl, hwl0, hwok, nwl, Keep.refl _ _⟩)⟩⟩
            refine ⟨_, rfl, wl, _, rfl, .inl (SqL.of hwl0), _, _, rfl, rfl, _, rfl, iteD (fun e3 => ?_) (fun e3 => ⟨wl, ws, rfl, hwl0, hwok, nwl, Keep.refl _ _⟩)⟩
            have e3' : (1 : Int) < ((ws.map nat).length : Int) := e3
            rw [List.length_map] at e3'
            refine ⟨_, rfl, 1, rfl, _, rfl, _, _, rfl, SqL.of hwl0, fun q2 nq2 => ?_⟩
            rw [cut_neg1, List.length_map, ← List.map_take]
            have husl : (ws.take (ws.length - 1)).length = ws.length - 1 := by rw [List.length_take]; omega
            have hus : ∀ w ∈ ws.take (ws.length - 1), w ≤ 5 := fun w hw => hwsm w (List.mem_of_mem_take hw)
            generalize ws.take (ws.length - 1) = us at *
            cases us with
            | nil => exact absurd husl (by show ¬ (0 = ws.length - 1); omega)
            | cons u0 ut =>
              have kq2 := Keep.new (W := []) (o := .lst ((u0 :: ut).map nat)) nq2
              have hq2 : upd H5 q2 (.lst ((u0 :: ut).map nat)) q2 = some (.lst ((u0 :: ut).map nat)) := upd_same
              have nq2g : q2 ≠ gl := (ne_of_none hgl5 nq2).symm
              have hix : ixN ((u0 :: ut).map nat).length 0 = some 0 := by
                unfold ixN
                rw [if_pos (by decide), if_pos (by rw [List.length_map, List.length_cons]; omega)]; rfl
              refine ⟨_, rfl, _, _, _, _, rfl, rfl, SqL.of hq2, atI_nat (j := 0) rfl, _, rfl, q2, (u0 :: ut).map (fun (w : Nat) => (w : Int)), rfl, SqL.of (by rw [List.map_map]; exact hq2), rfl, .inr ⟨_, rfl, _, _, rfl, rfl, _, rfl, q2, _, 0, 0, rfl, rfl, hq2, hix, ?_⟩⟩
              rw [sum_cast, dec_len]
              have hle0 := hus u0 (List.mem_cons_self ..)
              by_cases hz : (u0 :: ut).sum = 0
              · rw [decide_eq_true hz]
                refine ⟨q2, (u0 + 1) :: ut, rfl, ?_, ⟨by rw [List.sum_cons]; omega, fun w hw => ?_, ?_⟩, nq2g, kq2.then_own nq2⟩
                · rw [upd_same]; show some (HO.lst (V.int ((u0 : Int) + 1) :: ut.map nat)) = _; rfl
                · rcases List.mem_cons.mp hw with rfl | hw
                  · omega
                  · have := hus w (List.mem_cons_of_mem _ hw); omega
                · rw [List.length_cons] at husl ⊢; omega
              · rw [decide_eq_false hz]
                refine ⟨q2, u0 :: ut, rfl, ?_, ⟨by omega, fun w hw => by have := hus w hw; omega, by omega⟩, nq2g, kq2.then_own nq2⟩
                rw [upd_same]; show some (HO.lst (V.int ((u0 : Int) + 0) :: ut.map nat)) = _; rw [Int.add_zero]; rfl
        · rintro σ H6 ⟨wl', ws', rfl, hwl6, hwok', nwl', k6⟩
          have hgl6 := k6 _ _ hgl5 (by simp)
          have hgxl := hwg.len
          have hgsl : gs.length ≤ es.length := by
            have := hsub.length_le
            rw [List.length_map, List.length_map, List.length_take] at this
            omega
          refine ⟨_, rfl, .inl ⟨rfl, _, SqL.of hgl6⟩, _, rfl, _, rfl, _, _, _, _, rfl, rfl, SqL.of (k6 _ _ hel5 (by simp)), atI_nat hx, _, _, _, _, rfl, rfl, SqT.of (k6 _ _ hq (by simp)), rfl, _, rfl, And.intro (by show 2 ≤ sizeLine; decide) <| fun t nt => ?_⟩
          have kt := Keep.new (W := []) (o := .tup [vw, .ref wl']) nt
          have ht : upd H6 t (.tup [vw, .ref wl']) t = some (.tup [vw, .ref wl']) := upd_same
          generalize upd H6 t (.tup [vw, .ref wl']) = H7 at *
          have hgl7 := kt _ _ hgl6 (by simp)
          have k57 := k6.trans kt
          have tk8 : TK H7 (upd H7 gl (.lst (gxs ++ [.ref t]))) := TK.lst hgl7
          have kl8 : ∀ b ys, b ≠ gl → H7 b = some (.lst ys) → upd H7 gl (.lst (gxs ++ [.ref t])) b = some (.lst ys) := fun b ys nb hb => by rw [upd_ne nb]; exact hb
          refine ⟨_, _, _, rfl, rfl, hgl7, smallL (by omega), gxs ++ [.ref t], gs ++ [(L, ws')], _, _, rfl, upd_same, ((hwg.keep0 k57).keep tk8 kl8).snoc (tk8 _ _ ht) ((hvw.tk k57.tk).tk tk8) (kl8 _ _ nwl' (kt _ _ hwl6 (by simp))) nwl', ?_, fun e he => ?_, fun b o hb nb => by rw [upd_ne nb]; exact k57 _ _ (k5 b o hb nb) (by simp)⟩
          · obtain ⟨hil, hee⟩ := List.getElem?_eq_some_iff.mp hei
            rw [List.take_succ_eq_append_getElem hil, hee, List.map_append, List.map_append]
            exact hsub.append (List.Sublist.refl _)
          · rcases List.mem_append.mp he with he | he
            · exact hgok e he
            · rw [List.mem_singleton.mp he]; exact hwok'
    · rintro σ H5 ⟨gxs, gs, o6, o7, rfl, hgl5, hwg, hsub, hgok, k5⟩
      have k35 : Keep [] H3 H5 := fun b o h _ => k5 b o (kg _ _ h (by simp)) (ne_of_none h ngl)
      have k15 := (K2.trans K3).trans k35
      have hS5 := k15.seqL hS1 (by simp)
      have hvl5 := (K3.trans k35) _ _ hvl (by simp)
      have hvt5 := hvt.tk (K3.trans k35).tk
      rw [hxl, List.take_length, hes] at hsub
      have hgnd : (gs.map (·.1)).Nodup := hsub.nodup hRn
      have hgz : ∀ L ∈ gs.map (·.1), Zer L := fun L hL => by
        obtain ⟨r, hr, rfl⟩ := List.mem_map.mp (hsub.subset hL)
        exact hRz r hr
      have hgsl : gs.length ≤ 200 := by
        have := hsub.length_le
        rw [List.length_map, List.length_map] at this
        omega
      have hgxl := hwg.len
      refine ⟨_, rfl, a, ns, 3, rfl, hS5, ns.getD 3 0, rfl, fun fl v0 v1 v2 fa fb fm fa' fb' fm' H6 hfl hv0 hv1 hv2 h4a h4a' hfne K6 => ?_⟩
      have hgl6 := K6 _ _ hgl5 (by simp)
      refine ⟨_, rfl, _, rfl, _, _, _, _, rfl, rfl, SqL.of hfl, rfl, And.intro (by show 2 ≤ sizeLine; decide) <| fun w1 nw1 => And.intro (by show 2 ≤ sizeLine; decide) <| fun q1 nq1 => ?_⟩
      have kw1 := Keep.new (W := []) (o := .lst [.int 1, .int 1]) nw1
      have kq1 := Keep.new (W := []) (o := .tup [v0, .ref w1]) nq1
      refine ⟨_, rfl, _, _, _, _, rfl, rfl, SqL.of ((kw1.trans kq1) _ _ hfl (by simp)), rfl, And.intro (by show 2 ≤ sizeLine; decide) <| fun w2 nw2 => And.intro (by show 2 ≤ sizeLine; decide) <| fun q2 nq2 => And.intro (by show 2 ≤ sizeLine; decide) <| fun pl2 npl2 => ?_⟩
      have kw2 := Keep.new (W := []) (o := .lst [.int 1, .int 3]) nw2
      have kq2 := Keep.new (W := []) (o := .tup [v1, .ref w2]) nq2
      have kpl := Keep.new (W := []) (o := .lst [.ref q1, .ref q2]) npl2
      have kA := kw1.trans kq1
      have kB := (kA.trans kw2).trans kq2
      refine ⟨gl, pl2, _, _, rfl, rfl, (kB.trans kpl) _ _ hgl6 (by simp), upd_same, smallM (by show (gxs.length : Nat) + 2 ≤ _; omega), fun r nr => ?_⟩
      have kr := Keep.new (W := []) (o := .lst (gxs ++ [.ref q1, .ref q2])) nr
      have kC := (kB.trans kpl).trans kr
      have hW1 := ((((kq1.trans kw2).trans kq2).trans kpl).trans kr) _ _ (upd_same (H := H6) (a := w1) (o := .lst [.int 1, .int 1])) (by simp)
      have hQ1 := (((kw2.trans kq2).trans kpl).trans kr) _ _ (upd_same (a := q1) (o := .tup [v0, .ref w1])) (by simp)
      have hW2 := ((kq2.trans kpl).trans kr) _ _ (upd_same (a := w2) (o := .lst [.int 1, .int 3])) (by simp)
      have hQ2 := (kpl.trans kr) _ _ (upd_same (a := q2) (o := .tup [v1, .ref w2])) (by simp)
      have hr0 : upd _ r (.lst (gxs ++ [.ref q1, .ref q2])) r = some (.lst (gxs ++ [.ref q1, .ref q2])) := upd_same (H := upd (upd (upd (upd (upd H6 w1 (.lst [.int 1, .int 1])) q1 (.tup [v0, .ref w1])) w2 (.lst [.int 1, .int 3])) q2 (.tup [v1, .ref w2])) pl2 (.lst [.ref q1, .ref q2]))
      generalize upd (upd (upd (upd (upd (upd H6 w1 (.lst [.int 1, .int 1])) q1 (.tup [v0, .ref w1])) w2 (.lst [.int 1, .int 3])) q2 (.tup [v1, .ref w2])) pl2 (.lst [.ref q1, .ref q2])) r (.lst (gxs ++ [.ref q1, .ref q2])) = H7 at *
      have hwg7 : WL (fun _ => True) H7 gxs gs := (hwg.mono (fun _ _ _ _ => trivial)).keep0 (K6.trans kC)
      have hwl7 : WL (fun _ => True) H7 (gxs ++ [.ref q1, .ref q2]) (gs ++ [(farV fa fb fm, [1, 1]), (farV fa' fb' fm', [1, 3])]) := by
        have := (hwg7.snoc hQ1 (hv0.tk kC.tk) (ws := [1, 1]) hW1 trivial).snoc hQ2 (hv1.tk kC.tk) (ws := [1, 3]) hW2 trivial
        simpa using this
      generalize hG : gs ++ [(farV fa fb fm, [1, 1]), (farV fa' fb' fm', [1, 3])] = G at *
      have hGok : ∀ e ∈ G, WOk e.2 := fun e he => by
        rw [← hG] at he
        rcases List.mem_append.mp he with he | he
        · exact hgok e he
        · rcases List.mem_cons.mp he with rfl | he
          · exact (⟨by decide, by decide, by decide⟩ : WOk [1, 1])
          · rw [List.mem_singleton.mp he]; exact (⟨by decide, by decide, by decide⟩ : WOk [1, 3])
      have nf1 : farV fa fb fm ∉ gs.map (·.1) := fun z => far_zer h4a (hgz _ z)
      have nf2 : farV fa' fb' fm' ∉ gs.map (·.1) := fun z => far_zer h4a' (hgz _ z)
      have nf12 : farV fa fb fm ≠ farV fa' fb' fm' := fun z => by
        obtain ⟨e1, e2, e3⟩ := far_inj z
        rcases hfne with h | h | h
        · exact h e1
        · exact h e2
        · exact h e3
      have hGnd : (G.map (·.1)).Nodup := by
        rw [← hG, List.map_append]
        refine List.nodup_append.mpr ⟨hgnd, by simpa using nf12, fun x hx y hy => ?_⟩
        rcases List.mem_cons.mp hy with rfl | hy
        · exact fun z => nf1 (by rw [← show x = farV fa fb fm from z]; exact hx)
        · rw [List.mem_singleton.mp hy]; exact fun z => nf2 (by rw [← show x = farV fa' fb' fm' from z]; exact hx)
      refine ⟨r, _, G, rfl, hr0, hwl7, hGok, hGnd, by rw [← hG]; simp; omega, fun pp H8 hP K8 => ?_⟩
      have hvl8 := ((K6.trans kC).trans K8) _ _ hvl5 (by simp)
      have hvt8 := hvt5.tk ((K6.trans kC).trans K8).tk
      have hgl8 := (kC.trans K8) _ _ hgl6 (by simp)
      have hwg8 : WL (fun _ => True) H8 gxs gs := hwg7.keep0 K8
      have hfl8 := (kC.trans K8) _ _ hfl (by simp)
      have hV0 := hv0.tk (kC.trans K8).tk
      have hV1 := hv1.tk (kC.trans K8).tk
      have hV2 := hv2.tk (kC.trans K8).tk
      have etab : tab G = (tab gs ++ [(farV fa fb fm, wr [1, 1])]) ++ [(farV fa' fb' fm', wr [1, 3])] := by
        rw [← hG]; unfold tab; rw [List.map_append]; simp
      have hRok := fun r (hr : r ∈ R) => met_ok S pl r (by rw [hRR]; exact hr)
      have hvxl := hvt8.length
      rw [List.length_map] at hvxl
      refine ⟨_, rfl, vl, rfl, ⟨_, SqL.of hvl8⟩, for_list (K := K) (a := vl) (xs := vxs) (fun i σ H' => ∃ o10 o11 o12 o13, σ = [some (.ref a), some (.ref l), some (.int (1 + ns.getD 1 0 % 2)), some (.ref vl), some (.ref el), some (.ref gl), o6, o7, some (.ref fl), some (.ref pp), o10, o11, o12, o13, none] ∧ Keep [] H8 H') ⟨_, _, _, _, rfl, Keep.refl _ _⟩ (fun i σ H' _ ⟨_, _, _, _, _, kk⟩ => SqL.of (kk _ _ hvl8 (by simp))) ?_ ?_⟩
      · rintro i v σ H9 hv ⟨o10, o11, o12, o13, rfl, k9⟩
        have hj := (List.getElem?_eq_some_iff.mp hv).1
        have hjR : i < R.length := by omega
        obtain ⟨v', hv', hvd⟩ := hvt8.get (i := i) (d := dRow R[i]) (by rw [List.getElem?_map, List.getElem?_eq_getElem hjR]; rfl)
        rw [hv] at hv'
        cases hv'
        have hvd9 := hvd.tk k9.tk
        obtain ⟨tt, tes, rfl, htt, htes⟩ := td_view hvd9
        cases htes with
        | @cons pv0 _ _ _ h0 hr1 =>
          cases hr1 with
          | cons h1 hr2 =>
            cases hr2
            cases h1
            obtain ⟨hs0, hs1⟩ := hR R[i] (List.getElem_mem hjR)
            refine ⟨_, rfl, _, _, _, _, rfl, rfl, SqT.of htt, rfl, _, rfl, _, _, _, _, rfl, rfl, SqT.of htt, rfl, _, _, rfl, rfl, _, rfl, _, _, _, _, rfl, rfl, SqT.of htt, rfl, _, _, rfl, rfl, _, _, rfl, _, rfl, _, _, _, _, rfl, rfl, SqT.of htt, rfl, And.intro (by show 4 ≤ sizeLine; decide) <| fun tq ntq => ?_⟩
            have kt := Keep.new (W := []) (o := .tup [.int R[i].2, .int (R[i].2 + 1), .int (if R[i].2 - 1 > 1 then R[i].2 - 1 else 1), .int R[i].2]) ntq
            have htq : upd H9 tq (.tup [.int R[i].2, .int (R[i].2 + 1), .int (if R[i].2 - 1 > 1 then R[i].2 - 1 else 1), .int R[i].2]) tq = some (.tup [.int R[i].2, .int (R[i].2 + 1), .int (if R[i].2 - 1 > 1 then R[i].2 - 1 else 1), .int R[i].2]) := upd_same
            have hcs : ∀ x ∈ ([.int R[i].2, .int (R[i].2 + 1), .int (if R[i].2 - 1 > 1 then R[i].2 - 1 else 1), .int R[i].2] : List V), ∃ c : Nat, x = .int (c : Nat) ∧ 1 ≤ c ∧ c ≤ 101 := by
              intro x hx
              have one : ∀ z : Int, 1 ≤ z → z ≤ 101 → ∃ c : Nat, V.int z = .int (c : Nat) ∧ 1 ≤ c ∧ c ≤ 101 := fun z h1 h2 => ⟨z.toNat, by rw [Int.toNat_of_nonneg (by omega)], by omega, by omega⟩
              rcases List.mem_cons.mp hx with rfl | hx
              · exact one _ (by omega) (by omega)
              rcases List.mem_cons.mp hx with rfl | hx
              · exact one _ (by omega) (by omega)
              rcases List.mem_cons.mp hx with rfl | hx
              · refine one _ ?_ ?_ <;> split <;> omega
              · rw [List.mem_singleton.mp hx]; exact one _ (by omega) (by omega)
            generalize hcl : ([.int R[i].2, .int (R[i].2 + 1), .int (if R[i].2 - 1 > 1 then R[i].2 - 1 else 1), .int R[i].2] : List V) = cs at *
            have k8t := k9.trans kt
            generalize upd H9 tq (.tup cs) = H10 at *
            have h0t := h0.tk kt.tk
            have htt10 := kt _ _ htt (by simp)
            refine ⟨tq, rfl, ⟨_, SqT.of htq⟩, for_tup (K := K) (a := tq) (xs := cs) (fun j σ H' => ∃ o11 o12 o13, σ = [some (.ref a), some (.ref l), some (.int (1 + ns.getD 1 0 % 2)), some (.ref vl), some (.ref el), some (.ref gl), o6, o7, some (.ref fl), some (.ref pp), some (.ref tt), o11, o12, o13, none] ∧ Keep [] H10 H') ⟨_, _, _, rfl, Keep.refl _ _⟩ (fun j σ H' _ ⟨_, _, _, _, kk⟩ => SqT.of (kk _ _ htq (by simp))) ?_ ?_⟩
            · rintro j x σ H11 hx ⟨o11, o12, o13, rfl, k11⟩
              obtain ⟨c, rfl, hc1, hc2⟩ := hcs x (List.mem_of_getElem? hx)
              have k811 := k8t.trans k11
              have hgl11 := k811 _ _ hgl8 (by simp)
              have hwg11 := hwg8.keep0 k811
              have htt11 := k11 _ _ htt10 (by simp)
              have h0t11 := h0t.tk k11.tk
              refine ⟨_, rfl, (c : Int), rfl, by omega, by omega, fun D nD => ?_⟩
              refine lc_range (lo := 0) (n := c) (fun m H' => ∃ ds, H' D = some (.lst ds) ∧ DL H' ds (rs0 m) ∧ Keep [] H11 H') ⟨[], upd_same, .nil, Keep.new nD⟩ ?_ ?_
              · rintro m H12 hm ⟨ds, hds, hdl, k12⟩
                have e0 : (0 : Int) + (m : Int) = (m : Int) := by omega
                rw [e0]
                have hdll := hdl.len
                rw [rs0_len] at hdll
                refine ⟨rfl, yes_then ⟨_, rfl, rfl, .inr ⟨_, rfl, And.intro (by show 2 ≤ sizeLine; decide) <| fun t nt => ?_⟩⟩⟩
                rw [dec_len]
                have kt2 := Keep.new (W := []) (o := .tup [.int (if decide (m = 0) = true then 1 else 0), .int 1]) nt
                have hds2 := kt2 _ _ hds (by simp)
                refine ⟨ds, hds2, smallL (by omega), ds ++ [.ref t], upd_same, ?_, (k12.trans kt2).then_own nD⟩
                rw [rs0_succ]
                refine ((hdl.tk kt2.tk).tk (TK.lst hds2)).snoc ?_
                rw [upd_ne (ne_of_none hds nt).symm, upd_same]
                by_cases hm0 : m = 0
                · rw [decide_eq_true hm0, if_pos hm0]; rfl
                · rw [decide_eq_false hm0, if_neg hm0]; rfl
              · rintro H12 ⟨ds, hds, hdl, k12⟩
                have hgl12 := k12 _ _ hgl11 (by simp)
                refine ⟨_, rfl, gl, rfl, ⟨_, SqL.of hgl12⟩, for_list (K := K) (a := gl) (xs := gxs) (fun m σ H' => ∃ ds dd o13, σ = [some (.ref a), some (.ref l), some (.int (1 + ns.getD 1 0 % 2)), some (.ref vl), some (.ref el), some (.ref gl), o6, o7, some (.ref fl), some (.ref pp), some (.ref tt), some (.int (c : Nat)), some (.ref dd), o13, none] ∧ H' dd = some (.lst ds) ∧ DL H' ds (lotsAt (tab (gs.take m)) R[i].1 c) ∧ Keep [] H11 H') ⟨ds, D, _, rfl, hds, hdl, k12⟩ (fun m σ H' _ ⟨_, _, _, _, _, _, kk⟩ => SqL.of (kk _ _ hgl11 (by simp))) ?_ ?_⟩
                · rintro m y σ H13 hy ⟨ds, dd, o13, rfl, hdd, hdl, k13⟩
                  obtain ⟨q, wl, vw, L, ws, rfl, hgi, hq, hvw, hwl0, _⟩ := hwg11.get hy
                  have hq13 := k13 _ _ hq (by simp)
                  have hwl13 := k13 _ _ hwl0 (by simp)
                  have htt13 := k13 _ _ htt11 (by simp)
                  have hLR : L ∈ R.map (·.1) := hsub.subset (List.mem_map.mpr ⟨(L, ws), List.mem_of_getElem? hgi, rfl⟩)
                  have okL : ∀ e ∈ L, OkE e := by
                    obtain ⟨r0, hr0, rfl⟩ := List.mem_map.mp hLR
                    exact hRok r0 hr0
                  have okR := hRok R[i] (List.getElem_mem hjR)
                  have hwok : WOk ws := hgok (L, ws) (List.mem_of_getElem? hgi)
                  have hwl150 := hwok.len
                  have hws10 := hwok.small
                  have hwle := hwok.le
                  have hwpos := hwok.pos
                  obtain ⟨hml, hme⟩ := List.getElem?_eq_some_iff.mp hgi
                  have et : tab (gs.take (m + 1)) = tab (gs.take m) ++ [(L, wr ws)] := by
                    rw [List.take_succ_eq_append_getElem hml, hme, tab_snoc]
                  have hnot : L ∉ (tab (gs.take m)).map (·.1) := by
                    rw [tab_fst]
                    intro z
                    obtain ⟨j2, hj2⟩ := List.getElem?_of_mem z
                    rw [List.getElem?_map] at hj2
                    obtain ⟨e5, he5, he6⟩ := Option.map_eq_some_iff.mp hj2
                    have hjm : j2 < m := by
                      have := (List.getElem?_eq_some_iff.mp he5).1
                      rw [List.length_take] at this
                      omega
                    rw [List.getElem?_take_of_lt hjm] at he5
                    have x1 : (gs.map (·.1))[j2]? = some L := by rw [List.getElem?_map, he5, ← he6]; rfl
                    have x2 : (gs.map (·.1))[m]? = some L := by rw [List.getElem?_map, hgi]; rfl
                    have := (List.getElem?_inj (List.getElem?_eq_some_iff.mp x1).1 hgnd).mp (x1.trans x2.symm)
                    omega
                  refine ⟨_, rfl, _, _, _, _, rfl, rfl, SqT.of hq13, rfl, _, rfl, _, _, _, _, rfl, rfl, SqT.of htt13, rfl, dView L, dView R[i].1, (hvw.tk k13.tk).dp, (h0t11.tk k13.tk).dp, shaped_view okL, shaped_view okR, _, rfl, ?_⟩
                  rw [eqv_view okL]
                  refine iteD (fun eL => ?_) (fun nL => ⟨ds, dd, _, rfl, hdd, ?_, k13⟩)
                  rotate_left
                  · rw [et, lotsAt_of (look_snoc_ne nL)]; exact hdl
                  refine ⟨_, rfl, _, _, _, _, rfl, rfl, SqT.of hq13, rfl, wl, _, rfl, .inl (SqL.of hwl13), _, rfl, rfl, _, rfl, iteD (fun ec => ?_) (fun nc => ⟨ds, dd, _, rfl, hdd, ?_, k13⟩)⟩
                  rotate_left
                  · have nc' : (wr ws).length ≠ c := fun z => nc (by
                      unfold wr at z
                      rw [List.length_map] at z ⊢
                      rw [z])
                    rw [← eL] at hdl ⊢
                    rw [et, lotsAt_not (look_snoc_eq hnot) nc']
                    rw [lotsAt_none (look_none hnot)] at hdl
                    exact hdl
                  have ec' : (wr ws).length = c := by
                    have := V.int.inj ec
                    unfold wr
                    rw [List.length_map] at this ⊢
                    omega
                  have hdl2 : lotsAt (tab (gs.take (m + 1))) R[i].1 c = wr ws := by
                    rw [← eL, et, lotsAt_some (look_snoc_eq hnot) ec']
                  rw [hdl2]
                  refine ⟨_, rfl, _, _, _, _, rfl, rfl, SqT.of hq13, rfl, wl, rfl, ⟨_, SqL.of hwl13⟩, fun D2 nD2 => ?_⟩
                  refine lc_list (K := K) (a := wl) (xs := ws.map nat) (fun j2 H' => ∃ us, H' D2 = some (.lst us) ∧ DL H' us ((wr ws).take j2) ∧ Keep [] H13 H') ⟨[], upd_same, .nil, Keep.new nD2⟩ (fun j2 H' _ ⟨_, _, _, kk⟩ => SqL.of (kk _ _ hwl13 (by simp))) ?_ ?_
                  · rintro j2 y2 H14 hy2 ⟨us, hD2, hud, k14'⟩
                    obtain ⟨w0, hw0, rfl⟩ : ∃ w0, ws[j2]? = some w0 ∧ y2 = nat w0 := by
                      rw [List.getElem?_map] at hy2
                      obtain ⟨w0, z1, z2⟩ := Option.map_eq_some_iff.mp hy2
                      exact ⟨w0, z1, z2.symm⟩
                    have hul := hud.len
                    rw [List.length_take] at hul
                    have hwr : (wr ws)[j2]? = some (redN (w0 : Int) (ws.sum : Nat), redD (w0 : Int) (ws.sum : Nat)) := by unfold wr; rw [List.getElem?_map, hw0]; rfl
                    obtain ⟨hjl2, hwe⟩ := List.getElem?_eq_some_iff.mp hwr
                    have hj2l := (List.getElem?_eq_some_iff.mp hw0).1
                    have hw010 := hws10 w0 (List.mem_of_getElem? hw0)
                    have big : (1500 : Nat) < 2 ^ 1900 := Nat.lt_of_lt_of_le (show 1500 < 2 ^ 11 by decide) (Nat.pow_le_pow_right (by decide) (by decide))
                    refine ⟨rfl, yes_then ⟨_, rfl, _, rfl, _, _, _, _, rfl, rfl, SqT.of (k14' _ _ hq13 (by simp)), rfl, wl, ws.map (fun (w : Nat) => (w : Int)), rfl, SqL.of (by rw [List.map_map]; exact k14' _ _ hwl13 (by simp)), ?_⟩⟩
                    rw [sum_cast]
                    refine ⟨(w0 : Int), ((ws.sum : Nat) : Int), rfl, by omega, by rw [Int.natAbs_natCast]; omega, by rw [Int.natAbs_natCast]; omega, fun t3 H15 ht3 K15 => ?_⟩
                    have hD15 := K15 _ _ hD2 (by simp)
                    refine ⟨us, hD15, smallL (by omega), us ++ [.ref t3], upd_same, ?_, (k14'.trans K15).then_own nD2⟩
                    rw [List.take_succ_eq_append_getElem hjl2, hwe]
                    exact ((hud.tk K15.tk).tk (TK.lst hD15)).snoc (TK.lst (o := .lst (us ++ [.ref t3])) hD15 _ _ ht3)
                  · rintro H14 ⟨us, hD2, hud, k14'⟩
                    rw [show (ws.map nat).length = (wr ws).length by unfold wr; rw [List.length_map, List.length_map], List.take_length] at hud
                    exact ⟨us, D2, _, rfl, hD2, hud, k13.trans k14'⟩
                · rintro σ H13 ⟨ds, dd, o13, rfl, hdd, hdl, k13⟩
                  rw [hgxl, List.take_length] at hdl
                  have hz : Zer R[i].1 := hRz _ (List.getElem_mem hjR)
                  have z1 : farV fa fb fm ≠ R[i].1 := fun z => far_zer h4a (z ▸ hz)
                  have z2 : farV fa' fb' fm' ≠ R[i].1 := fun z => far_zer h4a' (z ▸ hz)
                  have hlG : lotsAt (tab G) R[i].1 c = lotsAt (tab gs) R[i].1 c := by
                    rw [etab]
                    exact lotsAt_of ((look_snoc_ne z2).trans (look_snoc_ne z1)) c
                  rw [← hlG] at hdl
                  have k813 := k811.trans k13
                  exact ⟨_, rfl, _, rfl, _, _, _, _, rfl, rfl, SqT.of (k13 _ _ htt11 (by simp)), rfl, _, rfl, _, rfl, pp, dd, pv0, tab G, R[i].1, c, ds, rfl, hP.keep k813, h0t11.tk k13.tk, hc1, by omega, tab_len hGok, hdd, hdl, lotsAt_rt hGok _ _, lotsAt_len _ _ _, fun H14 K14 => ⟨_, rfl, iteF ⟨_, _, _, rfl, (k11.trans k13).trans K14⟩⟩⟩
            · rintro σ H11 ⟨o11, o12, o13, rfl, k11⟩
              exact ⟨_, _, _, _, rfl, k8t.trans k11⟩
      · rintro σ H9 ⟨o10, o11, o12, o13, rfl, k9⟩
        have w11 : wr [1, 1] = [(1, 2), (1, 2)] := by decide
        have w13 : wr [1, 3] = [(1, 4), (3, 4)] := by decide
        have nt1 : farV fa fb fm ∉ (tab gs).map (·.1) := by rw [tab_fst]; exact nf1
        have nt2 : farV fa' fb' fm' ∉ (tab gs ++ [(farV fa fb fm, wr [1, 1])]).map (·.1) := by
          rw [List.map_append, tab_fst]
          intro z
          rcases List.mem_append.mp z with z | z
          · exact nf2 z
          · exact nf12 (List.mem_singleton.mp z).symm
        have eF0 : lotsAt (tab G) (farV fa fb fm) 2 = [(1, 2), (1, 2)] := by
          rw [etab, lotsAt_of (look_snoc_ne (fun z => nf12 z.symm)), lotsAt_some (look_snoc_eq nt1) (by rw [w11]; rfl), w11]
        have eF1 : lotsAt (tab G) (farV fa' fb' fm') 2 = [(1, 4), (3, 4)] := by
          rw [etab, lotsAt_some (look_snoc_eq nt2) (by rw [w13]; rfl), w13]
        have eW : ∀ x y : Int, 4 ≤ x → lotsAt (tab G) (farW x y) 2 = [(1, 1), (0, 1)] := by
          intro x y hx
          have n0 : farW x y ∉ (tab gs).map (·.1) := by rw [tab_fst]; exact fun z => farW_zer hx (hgz _ z)
          rw [etab, lotsAt_of (look_snoc_ne far_ne), lotsAt_of (look_snoc_ne far_ne), lotsAt_none (look_none n0)]; rfl
        refine ⟨_, rfl, _, rfl, _, _, _, _, rfl, rfl, SqL.of (k9 _ _ hfl8 (by simp)), rfl, And.intro (by show 2 ≤ sizeLine; decide) <| fun a1 na1 => And.intro (by show 2 ≤ sizeLine; decide) <| fun b1 nb1 => And.intro (by show 2 ≤ sizeLine; decide) <| fun l1 nl1 => ?_⟩
        obtain ⟨hd1, kd1⟩ := two_new na1 nb1 nl1
        have hl1 : upd (upd (upd H9 a1 (.tup [.int 1, .int 2])) b1 (.tup [.int 1, .int 2])) l1 (.lst [.ref a1, .ref b1]) l1 = some (.lst [.ref a1, .ref b1]) := upd_same
        generalize upd (upd (upd H9 a1 (.tup [.int 1, .int 2])) b1 (.tup [.int 1, .int 2])) l1 (.lst [.ref a1, .ref b1]) = G1 at *
        rw [← eF0] at hd1
        have kk1 := k9.trans kd1
        refine ⟨pp, l1, v0, tab G, farV fa fb fm, 2, _, rfl, hP.keep kk1, hV0.tk kk1.tk, by decide, by decide, tab_len hGok, hl1, hd1, lotsAt_rt hGok _ _, lotsAt_len _ _ _, fun H20 K1 => ⟨_, rfl, iteF ?_⟩⟩
        have k20 := kk1.trans K1
        refine ⟨_, rfl, _, rfl, _, _, _, _, rfl, rfl, SqL.of (k20 _ _ hfl8 (by simp)), rfl, And.intro (by show 2 ≤ sizeLine; decide) <| fun a2 na2 => And.intro (by show 2 ≤ sizeLine; decide) <| fun b2 nb2 => And.intro (by show 2 ≤ sizeLine; decide) <| fun l2 nl2 => ?_⟩
        obtain ⟨hd2, kd2⟩ := two_new na2 nb2 nl2
        have hl2 : upd (upd (upd H20 a2 (.tup [.int 1, .int 4])) b2 (.tup [.int 3, .int 4])) l2 (.lst [.ref a2, .ref b2]) l2 = some (.lst [.ref a2, .ref b2]) := upd_same
        generalize upd (upd (upd H20 a2 (.tup [.int 1, .int 4])) b2 (.tup [.int 3, .int 4])) l2 (.lst [.ref a2, .ref b2]) = G2 at *
        rw [← eF1] at hd2
        have kk2 := k20.trans kd2
        refine ⟨pp, l2, v1, tab G, farV fa' fb' fm', 2, _, rfl, hP.keep kk2, hV1.tk kk2.tk, by decide, by decide, tab_len hGok, hl2, hd2, lotsAt_rt hGok _ _, lotsAt_len _ _ _, fun H21 K2 => ⟨_, rfl, iteF ?_⟩⟩
        have k21 := kk2.trans K2
        refine ⟨_, rfl, _, rfl, _, _, _, _, rfl, rfl, SqL.of (k21 _ _ hfl8 (by simp)), rfl, And.intro (by show 2 ≤ sizeLine; decide) <| fun a3 na3 => And.intro (by show 2 ≤ sizeLine; decide) <| fun b3 nb3 => And.intro (by show 2 ≤ sizeLine; decide) <| fun l3 nl3 => ?_⟩
        obtain ⟨hd3, kd3⟩ := two_new na3 nb3 nl3
        have hl3 : upd (upd (upd H21 a3 (.tup [.int 1, .int 1])) b3 (.tup [.int 0, .int 1])) l3 (.lst [.ref a3, .ref b3]) l3 = some (.lst [.ref a3, .ref b3]) := upd_same
        generalize upd (upd (upd H21 a3 (.tup [.int 1, .int 1])) b3 (.tup [.int 0, .int 1])) l3 (.lst [.ref a3, .ref b3]) = G3 at *
        rw [← eW fa fm h4a] at hd3
        have kk3 := k21.trans kd3
        refine ⟨pp, l3, v2, tab G, farW fa fm, 2, _, rfl, hP.keep kk3, hV2.tk kk3.tk, by decide, by decide, tab_len hGok, hl3, hd3, lotsAt_rt hGok _ _, lotsAt_len _ _ _, fun H22 K3 => ⟨_, rfl, iteF ?_⟩⟩
        have k22 := kk3.trans K3
        refine ⟨_, rfl, And.intro (by show 2 ≤ sizeLine; decide) <| fun u1 m1 => And.intro (by show 3 ≤ sizeLine; decide) <| fun u2 m2 => And.intro (by show 2 ≤ sizeLine; decide) <| fun u3 m3 => ?_⟩
        have ku1 := Keep.new (W := []) (o := .tup [.str "round", .int 5]) m1
        have ku2 := Keep.new (W := []) (o := .tup [.str "move", .int 9, .int 2]) m2
        have ku3 := Keep.new (W := []) (o := .tup [.ref u1, .ref u2]) m3
        have hvW : TD (upd (upd (upd H22 u1 (.tup [.str "round", .int 5])) u2 (.tup [.str "move", .int 9, .int 2])) u3 (.tup [.ref u1, .ref u2])) (.ref u3) (dView (farW 5 9)) :=
          .tup upd_same (.cons (.tup ((ku2.trans ku3) _ _ upd_same (by simp)) (.cons (.str _) (td_ints [5]))) (.cons (.tup (ku3 _ _ upd_same (by simp)) (.cons (.str _) (td_ints [9, 2]))) .nil))
        have k23 := k22.trans ((ku1.trans ku2).trans ku3)
        generalize upd (upd (upd H22 u1 (.tup [.str "round", .int 5])) u2 (.tup [.str "move", .int 9, .int 2])) u3 (.tup [.ref u1, .ref u2]) = H23 at *
        refine And.intro (by show 2 ≤ sizeLine; decide) <| fun a4 na4 => And.intro (by show 2 ≤ sizeLine; decide) <| fun b4 nb4 => And.intro (by show 2 ≤ sizeLine; decide) <| fun l4 nl4 => ?_
        obtain ⟨hd4, kd4⟩ := two_new na4 nb4 nl4
        have hl4 : upd (upd (upd H23 a4 (.tup [.int 1, .int 1])) b4 (.tup [.int 0, .int 1])) l4 (.lst [.ref a4, .ref b4]) l4 = some (.lst [.ref a4, .ref b4]) := upd_same
        rw [← eW 5 9 (by decide)] at hd4
        exact ⟨pp, l4, .ref u3, tab G, farW 5 9, 2, _, rfl, hP.keep (k23.trans kd4), hvW.tk kd4.tk, by decide, by decide, tab_len hGok, hl4, hd4, lotsAt_rt hGok _ _, lotsAt_len _ _ _, fun H24 K24 => k H24⟩
end

theorem all_mk {l : PySem.W.OpenLaw} {w : World} {K : PySem.W.Frag} {h : Heap} {mg : Str → Option Value} {fa : Addr} (X : K.In h) (G : h.Ns mainGlobals mg) (hfa : mg "law" = some (.ref fa))
    {f_common : Addr} {od_common an_common : Option Addr} {sl_common : Array (Option Value)} {oc_common kV_common dc_common pm_common cd_common ct_common : Value}
    {f_are_lots : Addr} {od_are_lots an_are_lots : Option Addr} {sl_are_lots : Array (Option Value)} {oc_are_lots kV_are_lots dc_are_lots pm_are_lots cd_are_lots ct_are_lots : Value}
    {f_law_cell : Addr} {od_law_cell an_law_cell : Option Addr} {sl_law_cell : Array (Option Value)} {oc_law_cell kV_law_cell dc_law_cell pm_law_cell cd_law_cell ct_law_cell : Value}
    {f_law_is_integer : Addr} {od_law_is_integer an_law_is_integer : Option Addr} {sl_law_is_integer : Array (Option Value)} {oc_law_is_integer kV_law_is_integer dc_law_is_integer pm_law_is_integer cd_law_is_integer ct_law_is_integer : Value}
    {f_law_row : Addr} {od_law_row an_law_row : Option Addr} {sl_law_row : Array (Option Value)} {oc_law_row kV_law_row dc_law_row pm_law_row cd_law_row ct_law_row : Value}
    {f_law_stages : Addr} {od_law_stages an_law_stages : Option Addr} {sl_law_stages : Array (Option Value)} {oc_law_stages kV_law_stages dc_law_stages pm_law_stages cd_law_stages ct_law_stages : Value}
    {f_law_paths : Addr} {od_law_paths an_law_paths : Option Addr} {sl_law_paths : Array (Option Value)} {oc_law_paths kV_law_paths dc_law_paths pm_law_paths cd_law_paths ct_law_paths : Value}
    {f_law_view : Addr} {od_law_view an_law_view : Option Addr} {sl_law_view : Array (Option Value)} {oc_law_view kV_law_view dc_law_view pm_law_view cd_law_view ct_law_view : Value}
    {f_law_asked : Addr} {od_law_asked an_law_asked : Option Addr} {sl_law_asked : Array (Option Value)} {oc_law_asked kV_law_asked dc_law_asked pm_law_asked cd_law_asked ct_law_asked : Value}
    {f_law_met : Addr} {od_law_met an_law_met : Option Addr} {sl_law_met : Array (Option Value)} {oc_law_met kV_law_met dc_law_met pm_law_met cd_law_met ct_law_met : Value}
    {f_law_fraction : Addr} {od_law_fraction an_law_fraction : Option Addr} {sl_law_fraction : Array (Option Value)} {oc_law_fraction kV_law_fraction dc_law_fraction pm_law_fraction cd_law_fraction ct_law_fraction : Value}
    {f_law_equals : Addr} {od_law_equals an_law_equals : Option Addr} {sl_law_equals : Array (Option Value)} {oc_law_equals kV_law_equals dc_law_equals pm_law_equals cd_law_equals ct_law_equals : Value}
    {f_law_entries : Addr} {od_law_entries an_law_entries : Option Addr} {sl_law_entries : Array (Option Value)} {oc_law_entries kV_law_entries dc_law_entries pm_law_entries cd_law_entries ct_law_entries : Value}
    {f_law_plan : Addr} {od_law_plan an_law_plan : Option Addr} {sl_law_plan : Array (Option Value)} {oc_law_plan kV_law_plan dc_law_plan pm_law_plan cd_law_plan ct_law_plan : Value}
    {f_law_lots : Addr} {od_law_lots an_law_lots : Option Addr} {sl_law_lots : Array (Option Value)} {oc_law_lots kV_law_lots dc_law_lots pm_law_lots cd_law_lots ct_law_lots : Value}
    {f_law_far : Addr} {od_law_far an_law_far : Option Addr} {sl_law_far : Array (Option Value)} {oc_law_far kV_law_far dc_law_far pm_law_far cd_law_far ct_law_far : Value}
    {f_law : Addr} {od_law an_law : Option Addr} {sl_law : Array (Option Value)} {oc_law kV_law dc_law pm_law cd_law ct_law : Value}
    {C_Ratio : Addr}
    {C_Plan : Addr}
    {f_Ratio___init : Addr} {od_Ratio___init an_Ratio___init : Option Addr} {sl_Ratio___init : Array (Option Value)} {oc_Ratio___init kV_Ratio___init dc_Ratio___init pm_Ratio___init cd_Ratio___init ct_Ratio___init : Value}
    {T_Ratio___init : Addr} {oT_Ratio___init : Value} {dT_Ratio___init : Option Addr} {nT_Ratio___init : Nat} {slT_Ratio___init : Array (Option Value)} {t_Ratio___init : Tok}
    {f_Plan___init : Addr} {od_Plan___init an_Plan___init : Option Addr} {sl_Plan___init : Array (Option Value)} {oc_Plan___init kV_Plan___init dc_Plan___init pm_Plan___init cd_Plan___init ct_Plan___init : Value}
    {f_Plan_lots_at : Addr} {od_Plan_lots_at an_Plan_lots_at : Option Addr} {sl_Plan_lots_at : Array (Option Value)} {oc_Plan_lots_at kV_Plan_lots_at dc_Plan_lots_at pm_Plan_lots_at cd_Plan_lots_at ct_Plan_lots_at : Value}
    (a_common : PySem.W.nsIn K mainGlobals "common" = some (some (.ref f_common))) (l_common : K.lookup f_common = some ⟨oc_common, od_common, .func (PySem.W.fnOf "common" "common" (fnArgs s_common) (fnBody s_common) (fnScope s_common) .none kV_common dc_common pm_common an_common cd_common ct_common), sl_common⟩) (c_common : PySem.W.codeIn K cd_common "common" = true) (k_common : PySem.W.keepIn K (.ref f_common) = true)
    (a_are_lots : PySem.W.nsIn K mainGlobals "are_lots" = some (some (.ref f_are_lots))) (l_are_lots : K.lookup f_are_lots = some ⟨oc_are_lots, od_are_lots, .func (PySem.W.fnOf "are_lots" "are_lots" (fnArgs s_are_lots) (fnBody s_are_lots) (fnScope s_are_lots) .none kV_are_lots dc_are_lots pm_are_lots an_are_lots cd_are_lots ct_are_lots), sl_are_lots⟩) (c_are_lots : PySem.W.codeIn K cd_are_lots "are_lots" = true) (k_are_lots : PySem.W.keepIn K (.ref f_are_lots) = true)
    (a_law_cell : PySem.W.nsIn K mainGlobals "_law_cell" = some (some (.ref f_law_cell))) (l_law_cell : K.lookup f_law_cell = some ⟨oc_law_cell, od_law_cell, .func (PySem.W.fnOf "_law_cell" "_law_cell" (fnArgs s_law_cell) (fnBody s_law_cell) (fnScope s_law_cell) .none kV_law_cell dc_law_cell pm_law_cell an_law_cell cd_law_cell ct_law_cell), sl_law_cell⟩) (c_law_cell : PySem.W.codeIn K cd_law_cell "_law_cell" = true) (k_law_cell : PySem.W.keepIn K (.ref f_law_cell) = true)
    (a_law_is_integer : PySem.W.nsIn K mainGlobals "_law_is_integer" = some (some (.ref f_law_is_integer))) (l_law_is_integer : K.lookup f_law_is_integer = some ⟨oc_law_is_integer, od_law_is_integer, .func (PySem.W.fnOf "_law_is_integer" "_law_is_integer" (fnArgs s_law_is_integer) (fnBody s_law_is_integer) (fnScope s_law_is_integer) .none kV_law_is_integer dc_law_is_integer pm_law_is_integer an_law_is_integer cd_law_is_integer ct_law_is_integer), sl_law_is_integer⟩) (c_law_is_integer : PySem.W.codeIn K cd_law_is_integer "_law_is_integer" = true) (k_law_is_integer : PySem.W.keepIn K (.ref f_law_is_integer) = true)
    (a_law_row : PySem.W.nsIn K mainGlobals "_law_row" = some (some (.ref f_law_row))) (l_law_row : K.lookup f_law_row = some ⟨oc_law_row, od_law_row, .func (PySem.W.fnOf "_law_row" "_law_row" (fnArgs s_law_row) (fnBody s_law_row) (fnScope s_law_row) .none kV_law_row dc_law_row pm_law_row an_law_row cd_law_row ct_law_row), sl_law_row⟩) (c_law_row : PySem.W.codeIn K cd_law_row "_law_row" = true) (k_law_row : PySem.W.keepIn K (.ref f_law_row) = true)
    (a_law_stages : PySem.W.nsIn K mainGlobals "_law_stages" = some (some (.ref f_law_stages))) (l_law_stages : K.lookup f_law_stages = some ⟨oc_law_stages, od_law_stages, .func (PySem.W.fnOf "_law_stages" "_law_stages" (fnArgs s_law_stages) (fnBody s_law_stages) (fnScope s_law_stages) .none kV_law_stages dc_law_stages pm_law_stages an_law_stages cd_law_stages ct_law_stages), sl_law_stages⟩) (c_law_stages : PySem.W.codeIn K cd_law_stages "_law_stages" = true) (k_law_stages : PySem.W.keepIn K (.ref f_law_stages) = true)
    (a_law_paths : PySem.W.nsIn K mainGlobals "_law_paths" = some (some (.ref f_law_paths))) (l_law_paths : K.lookup f_law_paths = some ⟨oc_law_paths, od_law_paths, .func (PySem.W.fnOf "_law_paths" "_law_paths" (fnArgs s_law_paths) (fnBody s_law_paths) (fnScope s_law_paths) .none kV_law_paths dc_law_paths pm_law_paths an_law_paths cd_law_paths ct_law_paths), sl_law_paths⟩) (c_law_paths : PySem.W.codeIn K cd_law_paths "_law_paths" = true) (k_law_paths : PySem.W.keepIn K (.ref f_law_paths) = true)
    (a_law_view : PySem.W.nsIn K mainGlobals "_law_view" = some (some (.ref f_law_view))) (l_law_view : K.lookup f_law_view = some ⟨oc_law_view, od_law_view, .func (PySem.W.fnOf "_law_view" "_law_view" (fnArgs s_law_view) (fnBody s_law_view) (fnScope s_law_view) .none kV_law_view dc_law_view pm_law_view an_law_view cd_law_view ct_law_view), sl_law_view⟩) (c_law_view : PySem.W.codeIn K cd_law_view "_law_view" = true) (k_law_view : PySem.W.keepIn K (.ref f_law_view) = true)
    (a_law_asked : PySem.W.nsIn K mainGlobals "_law_asked" = some (some (.ref f_law_asked))) (l_law_asked : K.lookup f_law_asked = some ⟨oc_law_asked, od_law_asked, .func (PySem.W.fnOf "_law_asked" "_law_asked" (fnArgs s_law_asked) (fnBody s_law_asked) (fnScope s_law_asked) .none kV_law_asked dc_law_asked pm_law_asked an_law_asked cd_law_asked ct_law_asked), sl_law_asked⟩) (c_law_asked : PySem.W.codeIn K cd_law_asked "_law_asked" = true) (k_law_asked : PySem.W.keepIn K (.ref f_law_asked) = true)
    (a_law_met : PySem.W.nsIn K mainGlobals "_law_met" = some (some (.ref f_law_met))) (l_law_met : K.lookup f_law_met = some ⟨oc_law_met, od_law_met, .func (PySem.W.fnOf "_law_met" "_law_met" (fnArgs s_law_met) (fnBody s_law_met) (fnScope s_law_met) .none kV_law_met dc_law_met pm_law_met an_law_met cd_law_met ct_law_met), sl_law_met⟩) (c_law_met : PySem.W.codeIn K cd_law_met "_law_met" = true) (k_law_met : PySem.W.keepIn K (.ref f_law_met) = true)
    (a_law_fraction : PySem.W.nsIn K mainGlobals "_law_fraction" = some (some (.ref f_law_fraction))) (l_law_fraction : K.lookup f_law_fraction = some ⟨oc_law_fraction, od_law_fraction, .func (PySem.W.fnOf "_law_fraction" "_law_fraction" (fnArgs s_law_fraction) (fnBody s_law_fraction) (fnScope s_law_fraction) .none kV_law_fraction dc_law_fraction pm_law_fraction an_law_fraction cd_law_fraction ct_law_fraction), sl_law_fraction⟩) (c_law_fraction : PySem.W.codeIn K cd_law_fraction "_law_fraction" = true) (k_law_fraction : PySem.W.keepIn K (.ref f_law_fraction) = true)
    (a_law_equals : PySem.W.nsIn K mainGlobals "_law_equals" = some (some (.ref f_law_equals))) (l_law_equals : K.lookup f_law_equals = some ⟨oc_law_equals, od_law_equals, .func (PySem.W.fnOf "_law_equals" "_law_equals" (fnArgs s_law_equals) (fnBody s_law_equals) (fnScope s_law_equals) .none kV_law_equals dc_law_equals pm_law_equals an_law_equals cd_law_equals ct_law_equals), sl_law_equals⟩) (c_law_equals : PySem.W.codeIn K cd_law_equals "_law_equals" = true) (k_law_equals : PySem.W.keepIn K (.ref f_law_equals) = true)
    (a_law_entries : PySem.W.nsIn K mainGlobals "_law_entries" = some (some (.ref f_law_entries))) (l_law_entries : K.lookup f_law_entries = some ⟨oc_law_entries, od_law_entries, .func (PySem.W.fnOf "_law_entries" "_law_entries" (fnArgs s_law_entries) (fnBody s_law_entries) (fnScope s_law_entries) .none kV_law_entries dc_law_entries pm_law_entries an_law_entries cd_law_entries ct_law_entries), sl_law_entries⟩) (c_law_entries : PySem.W.codeIn K cd_law_entries "_law_entries" = true) (k_law_entries : PySem.W.keepIn K (.ref f_law_entries) = true)
    (a_law_plan : PySem.W.nsIn K mainGlobals "_law_plan" = some (some (.ref f_law_plan))) (l_law_plan : K.lookup f_law_plan = some ⟨oc_law_plan, od_law_plan, .func (PySem.W.fnOf "_law_plan" "_law_plan" (fnArgs s_law_plan) (fnBody s_law_plan) (fnScope s_law_plan) .none kV_law_plan dc_law_plan pm_law_plan an_law_plan cd_law_plan ct_law_plan), sl_law_plan⟩) (c_law_plan : PySem.W.codeIn K cd_law_plan "_law_plan" = true) (k_law_plan : PySem.W.keepIn K (.ref f_law_plan) = true)
    (a_law_lots : PySem.W.nsIn K mainGlobals "_law_lots" = some (some (.ref f_law_lots))) (l_law_lots : K.lookup f_law_lots = some ⟨oc_law_lots, od_law_lots, .func (PySem.W.fnOf "_law_lots" "_law_lots" (fnArgs s_law_lots) (fnBody s_law_lots) (fnScope s_law_lots) .none kV_law_lots dc_law_lots pm_law_lots an_law_lots cd_law_lots ct_law_lots), sl_law_lots⟩) (c_law_lots : PySem.W.codeIn K cd_law_lots "_law_lots" = true) (k_law_lots : PySem.W.keepIn K (.ref f_law_lots) = true)
    (a_law_far : PySem.W.nsIn K mainGlobals "_law_far" = some (some (.ref f_law_far))) (l_law_far : K.lookup f_law_far = some ⟨oc_law_far, od_law_far, .func (PySem.W.fnOf "_law_far" "_law_far" (fnArgs s_law_far) (fnBody s_law_far) (fnScope s_law_far) .none kV_law_far dc_law_far pm_law_far an_law_far cd_law_far ct_law_far), sl_law_far⟩) (c_law_far : PySem.W.codeIn K cd_law_far "_law_far" = true) (k_law_far : PySem.W.keepIn K (.ref f_law_far) = true)
    (a_law : PySem.W.nsIn K mainGlobals "law" = some (some (.ref f_law))) (l_law : K.lookup f_law = some ⟨oc_law, od_law, .func (PySem.W.fnOf "law" "law" (fnArgs s_law) (fnBody s_law) (fnScope s_law) .none kV_law dc_law pm_law an_law cd_law ct_law), sl_law⟩) (c_law : PySem.W.codeIn K cd_law "law" = true) (k_law : PySem.W.keepIn K (.ref f_law) = true)
    (mc_Ratio : PySem.W.nsIn K mainGlobals "Ratio" = some (some (.ref C_Ratio)))
    (pg_Ratio : PySem.W.plainGet K C_Ratio Str.empty = true)
    (hd_Ratio : PySem.W.hasDictIn K C_Ratio = true)
    (po_Ratio : PySem.W.plainOver K C_Ratio = true)
    (sa_Ratio : PySem.W.findIn K (.ref C_Ratio) "__setattr__" = some (some (.builtin "object.__setattr__")))
    (mk_Ratio : PySem.W.makesIn K C_Ratio = true)
    (kc_Ratio : PySem.W.keepIn K (.ref C_Ratio) = true)
    (ha_Ratio : PySem.W.findIn K (.ref C_Ratio) "__class__" = some (some (.builtin "object.__class__")))
    (hn_Ratio : PySem.W.specialIn K (.builtin "object.__class__") "__get__" = some (some (.builtin "getset_descriptor.__get__")))
    (ht_Ratio : PySem.W.takesIn K (.builtin "object.__class__") = some true)
    (hm_Ratio : PySem.W.mroIn K C_Ratio (.type "object") = some true)
    (nnum_Ratio : PySem.W.findIn K (.ref C_Ratio) "num" = some none)
    (nden_Ratio : PySem.W.findIn K (.ref C_Ratio) "den" = some none)
    (mc_Plan : PySem.W.nsIn K mainGlobals "Plan" = some (some (.ref C_Plan)))
    (pg_Plan : PySem.W.plainGet K C_Plan Str.empty = true)
    (hd_Plan : PySem.W.hasDictIn K C_Plan = true)
    (po_Plan : PySem.W.plainOver K C_Plan = true)
    (sa_Plan : PySem.W.findIn K (.ref C_Plan) "__setattr__" = some (some (.builtin "object.__setattr__")))
    (mk_Plan : PySem.W.makesIn K C_Plan = true)
    (kc_Plan : PySem.W.keepIn K (.ref C_Plan) = true)
    (ha_Plan : PySem.W.findIn K (.ref C_Plan) "__class__" = some (some (.builtin "object.__class__")))
    (hn_Plan : PySem.W.specialIn K (.builtin "object.__class__") "__get__" = some (some (.builtin "getset_descriptor.__get__")))
    (ht_Plan : PySem.W.takesIn K (.builtin "object.__class__") = some true)
    (hm_Plan : PySem.W.mroIn K C_Plan (.type "object") = some true)
    (ntable_Plan : PySem.W.findIn K (.ref C_Plan) "table" = some none)
    (a_Ratio___init : PySem.W.findIn K (.ref C_Ratio) "__init__" = some (some (.ref f_Ratio___init))) (i_Ratio___init : PySem.W.isFn K (.ref f_Ratio___init) = true) (l_Ratio___init : K.lookup f_Ratio___init = some ⟨oc_Ratio___init, od_Ratio___init, .func (PySem.W.fnOf "__init__" "Ratio.__init__" (fnArgs s_Ratio___init) (fnBody s_Ratio___init) (fnScope s_Ratio___init) (.ref T_Ratio___init) kV_Ratio___init dc_Ratio___init pm_Ratio___init an_Ratio___init cd_Ratio___init ct_Ratio___init), sl_Ratio___init⟩) (c_Ratio___init : PySem.W.codeIn K cd_Ratio___init "Ratio.__init__" = true) (k_Ratio___init : PySem.W.keepIn K (.ref f_Ratio___init) = true)
    (lT_Ratio___init : K.lookup T_Ratio___init = some ⟨oT_Ratio___init, dT_Ratio___init, .seq #[.int 1 t_Ratio___init] nT_Ratio___init, slT_Ratio___init⟩)
    (a_Plan___init : PySem.W.findIn K (.ref C_Plan) "__init__" = some (some (.ref f_Plan___init))) (i_Plan___init : PySem.W.isFn K (.ref f_Plan___init) = true) (l_Plan___init : K.lookup f_Plan___init = some ⟨oc_Plan___init, od_Plan___init, .func (PySem.W.fnOf "__init__" "Plan.__init__" (fnArgs s_Plan___init) (fnBody s_Plan___init) (fnScope s_Plan___init) .none kV_Plan___init dc_Plan___init pm_Plan___init an_Plan___init cd_Plan___init ct_Plan___init), sl_Plan___init⟩) (c_Plan___init : PySem.W.codeIn K cd_Plan___init "Plan.__init__" = true) (k_Plan___init : PySem.W.keepIn K (.ref f_Plan___init) = true)
    (a_Plan_lots_at : PySem.W.findIn K (.ref C_Plan) "lots_at" = some (some (.ref f_Plan_lots_at))) (i_Plan_lots_at : PySem.W.isFn K (.ref f_Plan_lots_at) = true) (l_Plan_lots_at : K.lookup f_Plan_lots_at = some ⟨oc_Plan_lots_at, od_Plan_lots_at, .func (PySem.W.fnOf "lots_at" "Plan.lots_at" (fnArgs s_Plan_lots_at) (fnBody s_Plan_lots_at) (fnScope s_Plan_lots_at) .none kV_Plan_lots_at dc_Plan_lots_at pm_Plan_lots_at an_Plan_lots_at cd_Plan_lots_at ct_Plan_lots_at), sl_Plan_lots_at⟩) (c_Plan_lots_at : PySem.W.codeIn K cd_Plan_lots_at "Plan.lots_at" = true) (k_Plan_lots_at : PySem.W.keepIn K (.ref f_Plan_lots_at) = true)
    (z_gcd : PySem.W.nsIn K mainGlobals "gcd" = some (some (.builtin "math.gcd")))
    (z_lcm : PySem.W.nsIn K mainGlobals "lcm" = some (some (.builtin "math.lcm")))
    (z_abs : PySem.W.nsIn K mainGlobals "abs" = some none)
    (z_all : PySem.W.nsIn K mainGlobals "all" = some none)
    (z_bool : PySem.W.nsIn K mainGlobals "bool" = some none)
    (z_enumerate : PySem.W.nsIn K mainGlobals "enumerate" = some none)
    (z_int : PySem.W.nsIn K mainGlobals "int" = some none)
    (z_isinstance : PySem.W.nsIn K mainGlobals "isinstance" = some none)
    (z_len : PySem.W.nsIn K mainGlobals "len" = some none)
    (z_list : PySem.W.nsIn K mainGlobals "list" = some none)
    (z_max : PySem.W.nsIn K mainGlobals "max" = some none)
    (z_range : PySem.W.nsIn K mainGlobals "range" = some none)
    (z_sum : PySem.W.nsIn K mainGlobals "sum" = some none)
    : ∃ fd : FuncData, (∀ (s : Shared) (v : Value), BindsTo s fd ⟨[v], []⟩ [("script", v)]) ∧ ∀ base : Heap, K.In base → base.Ns mainGlobals mg → FnOk l.prog w K mg base C8.CX0 6 fa fd ["script"] (sp_law K) := by
  have e := hfa.symm.trans (PySem.W.mg_of X G a_law)
  cases e
  have T : Txt K mg C_Ratio C_Plan := ⟨PySem.W.mg_none_of X G z_abs, PySem.W.mg_none_of X G z_all, PySem.W.mg_none_of X G z_bool, PySem.W.mg_none_of X G z_enumerate, PySem.W.mg_none_of X G z_int, PySem.W.mg_none_of X G z_isinstance, PySem.W.mg_none_of X G z_len, PySem.W.mg_none_of X G z_list, PySem.W.mg_none_of X G z_max, PySem.W.mg_none_of X G z_range, PySem.W.mg_none_of X G z_sum, PySem.W.mg_of X G z_gcd, PySem.W.mg_of X G z_lcm, ⟨pg_Ratio, hd_Ratio, po_Ratio, sa_Ratio⟩, PySem.W.mg_of X G mc_Ratio, ⟨⟨pg_Ratio, hd_Ratio, po_Ratio, sa_Ratio⟩, ha_Ratio, hn_Ratio, ht_Ratio, hm_Ratio, kitSelf⟩, nnum_Ratio, nden_Ratio, ⟨pg_Plan, hd_Plan, po_Plan, sa_Plan⟩, PySem.W.mg_of X G mc_Plan, ⟨⟨pg_Plan, hd_Plan, po_Plan, sa_Plan⟩, ha_Plan, hn_Plan, ht_Plan, hm_Plan, kitSelf⟩, ntable_Plan, True.intro⟩
  have F_Ratio___init : C8.Fun K "__init__" "Ratio.__init__" s_Ratio___init _ _ := ⟨⟨_, _, _, _, _, _, _, _, _, _, rfl, l_Ratio___init, c_Ratio___init⟩⟩
  have M_Ratio : Mk K C_Ratio f_Ratio___init := ⟨mk_Ratio, a_Ratio___init, i_Ratio___init, kc_Ratio⟩
  have FD_Ratio___init : FunD K "__init__" "Ratio.__init__" (fnArgs s_Ratio___init) (fnBody s_Ratio___init) (fnScope s_Ratio___init) [.int 1] [] f_Ratio___init _ := ⟨⟨_, _, _, _, _, _, _, _, _, _, rfl, l_Ratio___init, c_Ratio___init, .inr ⟨by simp, _, _, [_], _, rfl, lT_Ratio___init, rfl, .cons ⟨_, rfl⟩ .nil⟩, .inl rfl⟩, k_Ratio___init⟩
  obtain ⟨ds2_Ratio___init, v2_Ratio___init, b2_Ratio___init⟩ := FD_Ratio___init.binds1 (ps := ["self", "num", "den"]) 3 1 (by simp) rfl (fun _ _ _ _ _ _ _ us its hu hi => match us, hu, its, hi with | [_, _, _], _, [_], _ => ⟨_, rfl, rfl⟩)
  obtain ⟨ds1_Ratio___init, v1_Ratio___init, b1_Ratio___init⟩ := FD_Ratio___init.binds1 (ps := ["self", "num", "den"]) 2 0 (by simp) rfl (fun _ _ _ _ _ _ _ us its hu hi => match us, hu, its, hi with | [_, _], _, [_], _ => ⟨_, rfl, rfl⟩)
  have F_Plan___init : C8.Fun K "__init__" "Plan.__init__" s_Plan___init _ _ := ⟨⟨_, _, _, _, _, _, _, _, _, _, rfl, l_Plan___init, c_Plan___init⟩⟩
  have M_Plan : Mk K C_Plan f_Plan___init := ⟨mk_Plan, a_Plan___init, i_Plan___init, kc_Plan⟩
  have b_Plan___init : Binds K _ ["self", "entries"] [] := C8.Fun.binds F_Plan___init rfl fun _ _ _ _ _ _ us hl => match us, hl with | [_, _], _ => rfl
  have F_Plan_lots_at : C8.Fun K "lots_at" "Plan.lots_at" s_Plan_lots_at _ _ := ⟨⟨_, _, _, _, _, _, _, _, _, _, rfl, l_Plan_lots_at, c_Plan_lots_at⟩⟩
  have M_Plan_lots_at : Meth K C_Plan "lots_at" f_Plan_lots_at := ⟨a_Plan_lots_at, i_Plan_lots_at, k_Plan_lots_at⟩
  have b_Plan_lots_at : Binds K _ ["self", "view", "count"] [] := C8.Fun.binds F_Plan_lots_at rfl fun _ _ _ _ _ _ us hl => match us, hl with | [_, _, _], _ => rfl
  have D_common : C8.Def K mg "common" s_common _ _ := ⟨⟨⟨_, _, _, _, _, _, _, _, _, _, rfl, l_common, c_common⟩⟩, PySem.W.mg_of X G a_common, k_common⟩
  have b_common : Binds K _ ["ratios"] [] := C8.Fun.binds D_common.fn rfl fun _ _ _ _ _ _ us hl => match us, hl with | [_], _ => rfl
  have D_are_lots : C8.Def K mg "are_lots" s_are_lots _ _ := ⟨⟨⟨_, _, _, _, _, _, _, _, _, _, rfl, l_are_lots, c_are_lots⟩⟩, PySem.W.mg_of X G a_are_lots, k_are_lots⟩
  have b_are_lots : Binds K _ ["ratios"] [] := C8.Fun.binds D_are_lots.fn rfl fun _ _ _ _ _ _ us hl => match us, hl with | [_], _ => rfl
  have D_law_cell : C8.Def K mg "_law_cell" s_law_cell _ _ := ⟨⟨⟨_, _, _, _, _, _, _, _, _, _, rfl, l_law_cell, c_law_cell⟩⟩, PySem.W.mg_of X G a_law_cell, k_law_cell⟩
  have b_law_cell : Binds K _ ["script", "k"] [] := C8.Fun.binds D_law_cell.fn rfl fun _ _ _ _ _ _ us hl => match us, hl with | [_, _], _ => rfl
  have D_law_is_integer : C8.Def K mg "_law_is_integer" s_law_is_integer _ _ := ⟨⟨⟨_, _, _, _, _, _, _, _, _, _, rfl, l_law_is_integer, c_law_is_integer⟩⟩, PySem.W.mg_of X G a_law_is_integer, k_law_is_integer⟩
  have b_law_is_integer : Binds K _ ["actual"] [] := C8.Fun.binds D_law_is_integer.fn rfl fun _ _ _ _ _ _ us hl => match us, hl with | [_], _ => rfl
  have D_law_row : C8.Def K mg "_law_row" s_law_row _ _ := ⟨⟨⟨_, _, _, _, _, _, _, _, _, _, rfl, l_law_row, c_law_row⟩⟩, PySem.W.mg_of X G a_law_row, k_law_row⟩
  have b_law_row : Binds K _ ["cell", "count", "size"] [] := C8.Fun.binds D_law_row.fn rfl fun _ _ _ _ _ _ us hl => match us, hl with | [_, _, _], _ => rfl
  have D_law_stages : C8.Def K mg "_law_stages" s_law_stages _ _ := ⟨⟨⟨_, _, _, _, _, _, _, _, _, _, rfl, l_law_stages, c_law_stages⟩⟩, PySem.W.mg_of X G a_law_stages, k_law_stages⟩
  have b_law_stages : Binds K _ ["script", "most"] [] := C8.Fun.binds D_law_stages.fn rfl fun _ _ _ _ _ _ us hl => match us, hl with | [_, _], _ => rfl
  have D_law_paths : C8.Def K mg "_law_paths" s_law_paths _ _ := ⟨⟨⟨_, _, _, _, _, _, _, _, _, _, rfl, l_law_paths, c_law_paths⟩⟩, PySem.W.mg_of X G a_law_paths, k_law_paths⟩
  have b_law_paths : Binds K _ ["stages"] [] := C8.Fun.binds D_law_paths.fn rfl fun _ _ _ _ _ _ us hl => match us, hl with | [_], _ => rfl
  have D_law_view : C8.Def K mg "_law_view" s_law_view _ _ := ⟨⟨⟨_, _, _, _, _, _, _, _, _, _, rfl, l_law_view, c_law_view⟩⟩, PySem.W.mg_of X G a_law_view, k_law_view⟩
  have b_law_view : Binds K _ ["stages", "path", "player"] [] := C8.Fun.binds D_law_view.fn rfl fun _ _ _ _ _ _ us hl => match us, hl with | [_, _, _], _ => rfl
  have D_law_asked : C8.Def K mg "_law_asked" s_law_asked _ _ := ⟨⟨⟨_, _, _, _, _, _, _, _, _, _, rfl, l_law_asked, c_law_asked⟩⟩, PySem.W.mg_of X G a_law_asked, k_law_asked⟩
  have b_law_asked : Binds K _ ["stages", "path"] [] := C8.Fun.binds D_law_asked.fn rfl fun _ _ _ _ _ _ us hl => match us, hl with | [_, _], _ => rfl
  have D_law_met : C8.Def K mg "_law_met" s_law_met _ _ := ⟨⟨⟨_, _, _, _, _, _, _, _, _, _, rfl, l_law_met, c_law_met⟩⟩, PySem.W.mg_of X G a_law_met, k_law_met⟩
  have b_law_met : Binds K _ ["stages", "player"] [] := C8.Fun.binds D_law_met.fn rfl fun _ _ _ _ _ _ us hl => match us, hl with | [_, _], _ => rfl
  have D_law_fraction : C8.Def K mg "_law_fraction" s_law_fraction _ _ := ⟨⟨⟨_, _, _, _, _, _, _, _, _, _, rfl, l_law_fraction, c_law_fraction⟩⟩, PySem.W.mg_of X G a_law_fraction, k_law_fraction⟩
  have b_law_fraction : Binds K _ ["num", "den"] [] := C8.Fun.binds D_law_fraction.fn rfl fun _ _ _ _ _ _ us hl => match us, hl with | [_, _], _ => rfl
  have D_law_equals : C8.Def K mg "_law_equals" s_law_equals _ _ := ⟨⟨⟨_, _, _, _, _, _, _, _, _, _, rfl, l_law_equals, c_law_equals⟩⟩, PySem.W.mg_of X G a_law_equals, k_law_equals⟩
  have b_law_equals : Binds K _ ["actual", "pair"] [] := C8.Fun.binds D_law_equals.fn rfl fun _ _ _ _ _ _ us hl => match us, hl with | [_, _], _ => rfl
  have D_law_entries : C8.Def K mg "_law_entries" s_law_entries _ _ := ⟨⟨⟨_, _, _, _, _, _, _, _, _, _, rfl, l_law_entries, c_law_entries⟩⟩, PySem.W.mg_of X G a_law_entries, k_law_entries⟩
  have b_law_entries : Binds K _ ["views", "cell"] [] := C8.Fun.binds D_law_entries.fn rfl fun _ _ _ _ _ _ us hl => match us, hl with | [_, _], _ => rfl
  have D_law_plan : C8.Def K mg "_law_plan" s_law_plan _ _ := ⟨⟨⟨_, _, _, _, _, _, _, _, _, _, rfl, l_law_plan, c_law_plan⟩⟩, PySem.W.mg_of X G a_law_plan, k_law_plan⟩
  have b_law_plan : Binds K _ ["entries"] [] := C8.Fun.binds D_law_plan.fn rfl fun _ _ _ _ _ _ us hl => match us, hl with | [_], _ => rfl
  have D_law_lots : C8.Def K mg "_law_lots" s_law_lots _ _ := ⟨⟨⟨_, _, _, _, _, _, _, _, _, _, rfl, l_law_lots, c_law_lots⟩⟩, PySem.W.mg_of X G a_law_lots, k_law_lots⟩
  have b_law_lots : Binds K _ ["plan", "view", "count", "due"] [] := C8.Fun.binds D_law_lots.fn rfl fun _ _ _ _ _ _ us hl => match us, hl with | [_, _, _, _], _ => rfl
  have D_law_far : C8.Def K mg "_law_far" s_law_far _ _ := ⟨⟨⟨_, _, _, _, _, _, _, _, _, _, rfl, l_law_far, c_law_far⟩⟩, PySem.W.mg_of X G a_law_far, k_law_far⟩
  have b_law_far : Binds K _ ["cell"] [] := C8.Fun.binds D_law_far.fn rfl fun _ _ _ _ _ _ us hl => match us, hl with | [_], _ => rfl
  have F_law : C8.Fun K "law" "law" s_law _ _ := ⟨⟨_, _, _, _, _, _, _, _, _, _, rfl, l_law, c_law⟩⟩
  refine ⟨PySem.W.fnOf "law" "law" (fnArgs s_law) (fnBody s_law) (fnScope s_law) .none kV_law dc_law pm_law an_law cd_law ct_law, fun s v => .of_eq rfl, fun base _ _ => ?_⟩
  have c_Ratio := ok_rat_init (P := l.prog) (w := w) (base := base) M_Ratio F_Ratio___init b1_Ratio___init v1_Ratio___init T
  have c_Ratio2 := ok_rat_init (P := l.prog) (w := w) (base := base) M_Ratio F_Ratio___init b2_Ratio___init v2_Ratio___init T
  have c_common := ok_common (P := l.prog) (w := w) (base := base) D_common b_common T
  have c_are_lots := ok_are_lots D_are_lots b_are_lots T c_common
  have c_Plan := ok_plan M_Plan F_Plan___init b_Plan___init T c_are_lots
  have c_Plan_lots_at := ok_lots_at M_Plan_lots_at F_Plan_lots_at b_Plan_lots_at T c_Ratio
  have c_law_cell := ok_cell (P := l.prog) (w := w) (base := base) D_law_cell b_law_cell T
  have c_law_is_integer := ok_isint (P := l.prog) (w := w) (base := base) D_law_is_integer b_law_is_integer T
  have c_law_row := ok_row (P := l.prog) (w := w) (base := base) D_law_row b_law_row T
  have c_law_stages := ok_stages D_law_stages b_law_stages T c_law_cell c_law_row
  have c_law_paths := ok_paths (P := l.prog) (w := w) (base := base) D_law_paths b_law_paths T
  have c_law_view := ok_view (P := l.prog) (w := w) (base := base) D_law_view b_law_view T
  have c_law_asked := ok_asked D_law_asked b_law_asked T c_law_view
  have c_law_met := ok_met D_law_met b_law_met T c_law_paths c_law_asked
  have c_law_fraction := ok_fraction (P := l.prog) (w := w) (base := base) D_law_fraction b_law_fraction T
  have c_law_equals := ok_equals D_law_equals b_law_equals T c_law_is_integer c_law_fraction
  have c_law_entries := ok_entries D_law_entries b_law_entries T c_law_row
  have c_law_plan := ok_lawplan D_law_plan b_law_plan T c_Ratio2 c_Plan
  have c_law_lots := ok_lots D_law_lots b_law_lots T c_Plan_lots_at c_law_equals c_Ratio
  have c_law_far := ok_far (P := l.prog) (w := w) (base := base) D_law_far b_law_far T
  exact ok_law F_law T c_law_stages c_law_cell c_law_met c_law_entries c_law_far c_law_plan c_law_fraction c_law_lots
theorem walk {l : PySem.W.OpenLaw} {q : Program} {loose : List Str} {XP : (Str → Option Value) → Heap → Prop} {YP : World → Heap → Prop} {d : DefRec} {K : Params → PySem.W.Frag} (hn : l.most = some 63) (hdf : d.params.defaults = [])
    (hY : ∀ (w : World) (h : Heap), YP w h → (K w.params).In h)
    (F : ∀ (w : World) (mg : Str → Option Value) (fa : Addr) (h : Heap), (K w.params).In h → h.Ns mainGlobals mg → mg d.name = some (.ref fa) →
      ∃ fd : FuncData, (∀ (s : Shared) (u : Value), BindsTo s fd ⟨[u], []⟩ [("script", u)]) ∧ ∀ base : Heap, (K w.params).In base → base.Ns mainGlobals mg → FnOk l.prog w (K w.params) mg base C8.CX0 6 fa fd ["script"] (sp_law (K w.params))) :
    PySem.W.WalkO q loose XP YP l.row.toRowW d [] (fun f vs => PySem.call f vs) :=
  L2.walk_ofB (n := 63) (k := 6) (x := "script") (CX := fun _ => C8.CX0) (sp := fun w => sp_law (K w.params)) hn (by decide) hdf ⟨rfl, by decide, by decide⟩ hY F (fun _ _ a ns hl hb _ hS => ⟨a, ns, rfl, hS, fun _ => rfl⟩) fun _ _ _ _ _ z => z
end My
open PySem PySem.W PyProof.Rows
set_option maxRecDepth 100000 in
set_option maxHeartbeats 0 in
theorem PySem.Challenge.cw_bothgain_k41_what_a_plan_does_at_a_view_holds : PySem.Challenge.rw_bothgain_k41_what_a_plan_does_at_a_view.Holds := by
  w_on; o_law; k_head; (case hw => w_witness2)
  k_fill
  refine My.walk (l := PySem.Challenge.rw_bothgain_k41_what_a_plan_does_at_a_view) rfl rfl (fun w h Y => PySem.W.kIn_of Y) ?F
  case F =>
    intro w mg fa h KX G hmg
    refine' My.all_mk KX G hmg ?a_common ?l_common ?c_common ?k_common ?a_are_lots ?l_are_lots ?c_are_lots ?k_are_lots ?a_law_cell ?l_law_cell ?c_law_cell ?k_law_cell ?a_law_is_integer ?l_law_is_integer ?c_law_is_integer ?k_law_is_integer ?a_law_row ?l_law_row ?c_law_row ?k_law_row ?a_law_stages ?l_law_stages ?c_law_stages ?k_law_stages ?a_law_paths ?l_law_paths ?c_law_paths ?k_law_paths ?a_law_view ?l_law_view ?c_law_view ?k_law_view ?a_law_asked ?l_law_asked ?c_law_asked ?k_law_asked ?a_law_met ?l_law_met ?c_law_met ?k_law_met ?a_law_fraction ?l_law_fraction ?c_law_fraction ?k_law_fraction ?a_law_equals ?l_law_equals ?c_law_equals ?k_law_equals ?a_law_entries ?l_law_entries ?c_law_entries ?k_law_entries ?a_law_plan ?l_law_plan ?c_law_plan ?k_law_plan ?a_law_lots ?l_law_lots ?c_law_lots ?k_law_lots ?a_law_far ?l_law_far ?c_law_far ?k_law_far ?a_law ?l_law ?c_law ?k_law ?mc_Ratio ?pg_Ratio ?hd_Ratio ?po_Ratio ?sa_Ratio ?mk_Ratio ?kc_Ratio ?ha_Ratio ?hn_Ratio ?ht_Ratio ?hm_Ratio ?nnum_Ratio ?nden_Ratio ?mc_Plan ?pg_Plan ?hd_Plan ?po_Plan ?sa_Plan ?mk_Plan ?kc_Plan ?ha_Plan ?hn_Plan ?ht_Plan ?hm_Plan ?ntable_Plan ?a_Ratio___init ?i_Ratio___init ?l_Ratio___init ?c_Ratio___init ?k_Ratio___init ?lT_Ratio___init ?a_Plan___init ?i_Plan___init ?l_Plan___init ?c_Plan___init ?k_Plan___init ?a_Plan_lots_at ?i_Plan_lots_at ?l_Plan_lots_at ?c_Plan_lots_at ?k_Plan_lots_at ?z_gcd ?z_lcm ?z_abs ?z_all ?z_bool ?z_enumerate ?z_int ?z_isinstance ?z_len ?z_list ?z_max ?z_range ?z_sum
    (case a_common => k_is)
    (case l_common => k_is)
    (case c_common => k_is)
    (case k_common => k_is)
    (case a_are_lots => k_is)
    (case l_are_lots => k_is)
    (case c_are_lots => k_is)
    (case k_are_lots => k_is)
    (case a_law_cell => k_is)
    (case l_law_cell => k_is)
    (case c_law_cell => k_is)
    (case k_law_cell => k_is)
    (case a_law_is_integer => k_is)
    (case l_law_is_integer => k_is)
    (case c_law_is_integer => k_is)
    (case k_law_is_integer => k_is)
    (case a_law_row => k_is)
    (case l_law_row => k_is)
    (case c_law_row => k_is)
    (case k_law_row => k_is)
    (case a_law_stages => k_is)
    (case l_law_stages => k_is)
    (case c_law_stages => k_is)
    (case k_law_stages => k_is)
    (case a_law_paths => k_is)
    (case l_law_paths => k_is)
    (case c_law_paths => k_is)
    (case k_law_paths => k_is)
    (case a_law_view => k_is)
    (case l_law_view => k_is)
    (case c_law_view => k_is)
    (case k_law_view => k_is)
    (case a_law_asked => k_is)
    (case l_law_asked => k_is)
    (case c_law_asked => k_is)
    (case k_law_asked => k_is)
    (case a_law_met => k_is)
    (case l_law_met => k_is)
    (case c_law_met => k_is)
    (case k_law_met => k_is)
    (case a_law_fraction => k_is)
    (case l_law_fraction => k_is)
    (case c_law_fraction => k_is)
    (case k_law_fraction => k_is)
    (case a_law_equals => k_is)
    (case l_law_equals => k_is)
    (case c_law_equals => k_is)
    (case k_law_equals => k_is)
    (case a_law_entries => k_is)
    (case l_law_entries => k_is)
    (case c_law_entries => k_is)
    (case k_law_entries => k_is)
    (case a_law_plan => k_is)
    (case l_law_plan => k_is)
    (case c_law_plan => k_is)
    (case k_law_plan => k_is)
    (case a_law_lots => k_is)
    (case l_law_lots => k_is)
    (case c_law_lots => k_is)
    (case k_law_lots => k_is)
    (case a_law_far => k_is)
    (case l_law_far => k_is)
    (case c_law_far => k_is)
    (case k_law_far => k_is)
    (case a_law => k_is)
    (case l_law => k_is)
    (case c_law => k_is)
    (case k_law => k_is)
    (case mc_Ratio => k_is)
    (case pg_Ratio => k_is)
    (case hd_Ratio => k_is)
    (case po_Ratio => k_is)
    (case sa_Ratio => k_is)
    (case mk_Ratio => k_is)
    (case kc_Ratio => k_is)
    (case ha_Ratio => k_is)
    (case hn_Ratio => k_is)
    (case ht_Ratio => k_is)
    (case hm_Ratio => k_is)
    (case nnum_Ratio => k_is)
    (case nden_Ratio => k_is)
    (case mc_Plan => k_is)
    (case pg_Plan => k_is)
    (case hd_Plan => k_is)
    (case po_Plan => k_is)
    (case sa_Plan => k_is)
    (case mk_Plan => k_is)
    (case kc_Plan => k_is)
    (case ha_Plan => k_is)
    (case hn_Plan => k_is)
    (case ht_Plan => k_is)
    (case hm_Plan => k_is)
    (case ntable_Plan => k_is)
    (case a_Ratio___init => k_is)
    (case i_Ratio___init => k_is)
    (case l_Ratio___init => k_is)
    (case c_Ratio___init => k_is)
    (case k_Ratio___init => k_is)
    (case lT_Ratio___init => k_is)
    (case a_Plan___init => k_is)
    (case i_Plan___init => k_is)
    (case l_Plan___init => k_is)
    (case c_Plan___init => k_is)
    (case k_Plan___init => k_is)
    (case a_Plan_lots_at => k_is)
    (case i_Plan_lots_at => k_is)
    (case l_Plan_lots_at => k_is)
    (case c_Plan_lots_at => k_is)
    (case k_Plan_lots_at => k_is)
    (case z_gcd => k_is)
    (case z_lcm => k_is)
    (case z_abs => k_is)
    (case z_all => k_is)
    (case z_bool => k_is)
    (case z_enumerate => k_is)
    (case z_int => k_is)
    (case z_isinstance => k_is)
    (case z_len => k_is)
    (case z_list => k_is)
    (case z_max => k_is)
    (case z_range => k_is)
    (case z_sum => k_is)

