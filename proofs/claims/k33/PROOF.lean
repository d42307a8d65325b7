
import PyProof.Rows.All
import Wide.All
import OpenK.AllK
import Wide.FinOn
import HandS.ForMost
import HandS.Codes
import HandS.IsInst
import HandS.EndBits
import HandS.Walk
import HandS.DeepEq
import HandS.Gcd
import HandS.Wide
import HandS.Defaults
import HandS.OwnEq
import HandS.Dict
import HandS.WordsDict
import HandS.Star
import HandS.Strs
import HandS.RaiseMore
import HandS.More
import HandS.Iter
import HandS.Zip
import HandS.Style
import HandS.TupAny
import HandS.Deep
import HandS.DictTup
import KE.KeyNested
import KE.KDictKeyed
import KE.GoesMore
import PySem.Challenge.RW_bothgain_k33_views_and_rows
set_option Elab.async false
set_option linter.all false
set_option maxRecDepth 100000
set_option maxHeartbeats 4000000
set_option pp.maxSteps 400

/-! dicts whose keys are nested tuples (the hand layer): keys that are told to the tracked heap, get, in, put, items -/
namespace NDi
open PySem PySem.W PySem.Calls PyProof.Rows PyProof.V PySem.Spec L2
mutual
/-- the value v is the key k, its tuples tracked -/
inductive NK (H : Hp) : NestedKey → V → Prop
  | none : NK H .none .non
  | num (i : Int) : NK H (.num i) (.int i)
  | text (x : Str) : NK H (.text x) (.str x)
  | tup {a : Addr} {vs : List V} {ks : List NestedKey} : H a = some (.tup vs) → NKs H ks vs → NK H (.tup ks) (.ref a)
inductive NKs (H : Hp) : List NestedKey → List V → Prop
  | nil : NKs H [] []
  | cons {k : NestedKey} {v : V} {ks : List NestedKey} {vs : List V} : NK H k v → NKs H ks vs → NKs H (k :: ks) (v :: vs)
end
mutual
theorem NK.tk {H H' : Hp} (t : ∀ b xs, H b = some (.tup xs) → H' b = some (.tup xs)) : ∀ (k : NestedKey) {v : V}, NK H k v → NK H' k v
  | .none, _, h => by cases h; exact .none
  | .num i, _, h => by cases h; exact .num i
  | .text x, _, h => by cases h; exact .text x
  | .tup ks, _, h => by
    cases h with
    | tup h1 h2 => exact .tup (t _ _ h1) (NKs.tk t ks h2)
theorem NKs.tk {H H' : Hp} (t : ∀ b xs, H b = some (.tup xs) → H' b = some (.tup xs)) : ∀ (ks : List NestedKey) {vs : List V}, NKs H ks vs → NKs H' ks vs
  | [], _, h => by cases h; exact .nil
  | k :: ks, _, h => by
    cases h with
    | cons h1 h2 => exact .cons (NK.tk t k h1) (NKs.tk t ks h2)
end
section
variable {P : Program} {w : World} {H : Hp} {h : Heap}
mutual
theorem nk_is (ok : HOk P w H h) : ∀ (k : NestedKey) {v : V} {u : Value}, NK H k v → RelV v u → NestedIs h k u
  | .none, _, u, n, r => by
    cases n
    cases (show u = Value.none from r)
    exact .none
  | .num i, _, u, n, r => by
    cases n
    obtain ⟨t, rfl⟩ := r
    exact .int i t
  | .text x, _, u, n, r => by
    cases n
    obtain ⟨t, rfl⟩ := r
    exact .text x t
  | .tup ks, _, u, n, r => by
    cases n with
    | @tup a vs _ h1 h2 =>
      cases (show u = Value.ref a from r)
      obtain ⟨_, its, rv, o, e1, e2, m, e3⟩ := (show ObjOk P w H h a (.tup vs) from ok a _ h1)
      exact .tup e1 e2 e3 (by simpa using nks_are ok ks h2 rv)
theorem nks_are (ok : HOk P w H h) : ∀ (ks : List NestedKey) {vs : List V} {us : List Value}, NKs H ks vs → Vals vs us → NestedAll h ks us
  | [], _, us, n, r => by
    cases n
    cases r
    exact .nil
  | k :: ks, _, us, n, r => by
    cases n with
    | cons n1 n2 =>
      cases r with
      | cons r1 r2 => exact .cons (nk_is ok k n1 r1) (nks_are ok ks n2 r2)
end
end
abbrev Ent := NestedKey × Addr × V
abbrev RE : List Ent → List (NestedKey × Addr × Value) → Prop := Paired fun p q => p.1 = q.1 ∧ p.2.1 = q.2.1 ∧ RelV p.2.2 q.2.2
def valN (xs : List Ent) (k : NestedKey) : Option V := (xs.find? fun x => decide (x.1 = k)).map (·.2.2)
def putN (xs : List Ent) (k : NestedKey) (b : Addr) (v : V) : List Ent := if (valN xs k).isSome then xs.map (fun x => if x.1 = k then (x.1, x.2.1, v) else x) else xs ++ [(k, b, v)]
theorem valN_nil (k : NestedKey) : valN [] k = none := rfl
theorem valN_pos {p : Ent} {r : List Ent} {k : NestedKey} (e : p.1 = k) : valN (p :: r) k = some p.2.2 := by simp [valN, List.find?_cons, e]
theorem valN_neg {p : Ent} {r : List Ent} {k : NestedKey} (e : ¬ p.1 = k) : valN (p :: r) k = valN r k := by simp [valN, List.find?_cons, e]
theorem putN_new {xs : List Ent} {k : NestedKey} {b : Addr} {v : V} (h : valN xs k = none) : putN xs k b v = xs ++ [(k, b, v)] := by
  unfold putN
  rw [h]; rfl
theorem putN_len (xs : List Ent) (k : NestedKey) (b : Addr) (v : V) : (putN xs k b v).length ≤ xs.length + 1 := by
  unfold putN
  split
  · rw [List.length_map]; omega
  · rw [List.length_append]; exact Nat.le_refl _
theorem putN_mem {xs : List Ent} {k : NestedKey} {b : Addr} {v : V} {x : Ent} (h : x ∈ putN xs k b v) : (∃ y ∈ xs, y.1 = x.1 ∧ y.2.1 = x.2.1) ∨ (x.1 = k ∧ x.2.1 = b) := by
  unfold putN at h
  split at h
  · obtain ⟨y, hy, rfl⟩ := List.mem_map.mp h
    left
    refine ⟨y, hy, ?_⟩
    split
    · exact ⟨rfl, rfl⟩
    · exact ⟨rfl, rfl⟩
  · rcases List.mem_append.mp h with q | q
    · exact .inl ⟨x, q, rfl, rfl⟩
    · rw [List.mem_singleton.mp q]; exact .inr ⟨rfl, rfl⟩
theorem valN_some {xs : List Ent} {k : NestedKey} {v : V} (h : valN xs k = some v) : ∃ b, (k, b, v) ∈ xs := by
  unfold valN at h
  obtain ⟨x, hx, rfl⟩ := Option.map_eq_some_iff.mp h
  have h1 := List.find?_some hx
  have h2 := List.mem_of_find?_eq_some hx
  simp only [decide_eq_true_eq] at h1
  exact ⟨x.2.1, by rw [← h1]; exact h2⟩
theorem valN_none {xs : List Ent} {k : NestedKey} (h : ∀ x ∈ xs, x.1 ≠ k) : valN xs k = none := by
  unfold valN
  rw [Option.map_eq_none_iff, List.find?_eq_none]
  intro x hx
  simpa using h x hx
theorem RE.val {xs : List Ent} {vs : List (NestedKey × Addr × Value)} (r : RE xs vs) (k : NestedKey) : RelO (valN xs k) ((atKey vs k).map (·.2)) := by
  induction r with
  | nil => exact True.intro
  | @cons p q ps qs h t ih =>
    obtain ⟨h1, _, h2⟩ := h
    by_cases e : p.1 = k
    · have e' : q.1 = k := h1.symm.trans e
      have b : atKey (q :: qs) k = some q.2 := by simp [atKey, List.find?_cons, e']
      rw [valN_pos e, b]; exact h2
    · have e' : ¬ q.1 = k := fun z => e (h1.trans z)
      have b : atKey (q :: qs) k = atKey qs k := by simp [atKey, List.find?_cons, e']
      rw [valN_neg e, b]; exact ih
theorem RE.put {xs : List Ent} {vs : List (NestedKey × Addr × Value)} (r : RE xs vs) (k : NestedKey) (b : Addr) {y : V} {u : Value} (ry : RelV y u) : RE (putN xs k b y) (storedH vs k b u) := by
  have e : (valN xs k).isSome = (atKey vs k).isSome := by
    rw [(r.val k).isSome_eq, Option.isSome_map]
  unfold putN storedH
  rw [e]
  by_cases q : (atKey vs k).isSome = true
  · rw [if_pos q, if_pos q]
    clear e q
    induction r with
    | nil => exact .nil
    | @cons p q ps qs h t ih =>
      rw [List.map_cons, List.map_cons]
      refine .cons ?_ ih
      obtain ⟨h1, h2, h3⟩ := h
      unfold putAt
      by_cases e : p.1 = k
      · rw [if_pos e, if_pos (h1.symm.trans e)]; exact ⟨h1, h2, ry⟩
      · rw [if_neg e, if_neg (fun z => e (h1.trans z))]; exact ⟨h1, h2, h3⟩
  · rw [if_neg q, if_neg q]; exact Paired.snoc r ⟨rfl, rfl, ry⟩
/-- what is true of the dict's object -/
def ndφ (P : Program) (w : World) (a : Addr) (xs : List Ent) (h : Heap) : Prop := xs.length ≤ sizeLine ∧ (a == sysModules) = false ∧ ∃ vs, RE xs vs ∧
  ∃ o es ep, h.get? a = some o ∧ o.ExactDict ∧ o.data = .dict es ep ∧ es.toList = vs.map (entryOfKey (nestedKind P w)) ∧ (vs.map (·.1)).Nodup
def ndO (P : Program) (w : World) (a : Addr) (xs : List Ent) : HO := .ext (ndφ P w a xs)
theorem ndO_ok {P : Program} {w : World} {H : Hp} {h : Heap} {a : Addr} {xs : List Ent} (x : ndφ P w a xs h) : ObjOk P w H h a (ndO P w a xs) := by
  refine ⟨x, ?_, fun h1 h2 x1 k => ?_⟩
  · obtain ⟨_, _, _, _, o, _, _, e, _⟩ := x; exact ⟨o, e⟩
  · obtain ⟨z, y, vs, r, o, es, ep, e, c⟩ := x1
    exact ⟨z, y, vs, r, o, es, ep, k o e, c⟩
theorem nd_of {P : Program} {w : World} {H : Hp} {h : Heap} {a : Addr} {xs : List Ent} (ok : HOk P w H h) (e : Rd H a (ndO P w a xs)) : ndφ P w a xs h := (show ObjOk P w H h a (.ext (ndφ P w a xs)) from e.ok ok).1
/-- a dict with nested keys, its keys tracked -/
def NDat (P : Program) (w : World) (H : Hp) (a : Addr) (xs : List Ent) : Prop := Rd H a (ndO P w a xs) ∧ ∀ x ∈ xs, NK H x.1 (.ref x.2.1) ∧ x.1.depth ≤ 8
theorem NDat.dict {P : Program} {w : World} {H : Hp} {h : Heap} {a : Addr} {xs : List Ent} (ok : HOk P w H h) (n : NDat P w H a xs) : xs.length ≤ sizeLine ∧ (a == sysModules) = false ∧ ∃ vs, RE xs vs ∧ h.DictOfH (nestedKind P w) a vs := by
  obtain ⟨z, y, vs, r, o, es, ep, h1, h2, h3, h4, h5⟩ := nd_of ok n.1
  refine ⟨z, y, vs, r, o, es, ep, h1, h2, h3, h4, ?_, h5⟩
  have all : ∀ {l : List Ent} {m : List (NestedKey × Addr × Value)}, RE l m → (∀ x ∈ l, NK H x.1 (.ref x.2.1) ∧ x.1.depth ≤ 8) → ∀ x ∈ m, (nestedKind P w).is h x.1 x.2.1 := by
    intro l m q
    induction q with
    | nil => intro _ x hx; exact nomatch hx
    | @cons p q ps qs hq t ih =>
      intro hk x hx
      rcases List.mem_cons.mp hx with e | hx
      · subst e
        obtain ⟨k1, k2⟩ := hk p (List.mem_cons_self ..)
        rw [hq.1, hq.2.1] at k1
        rw [hq.1] at k2
        exact ⟨nk_is ok _ k1 rfl, k2⟩
      · exact ih (fun y hy => hk y (List.mem_cons_of_mem _ hy)) x hx
  exact all r n.2
/-- what it holds at y -/
def NGet (P : Program) (w : World) (H : Hp) (a : Addr) (y : V) (r : Option V) : Prop := ∃ xs k b, NDat P w H a xs ∧ y = .ref b ∧ NK H k (.ref b) ∧ k.depth ≤ 8 ∧ r = valN xs k
/-- the heap behind a[y] = v -/
def NPut (P : Program) (w : World) (H : Hp) (a : Addr) (y v : V) (H' : Hp) : Prop := ∃ xs k b, NDat P w H a xs ∧ H a = some (ndO P w a xs) ∧ y = .ref b ∧ NK H k (.ref b) ∧ k.depth ≤ 8 ∧ xs.length < sizeLine ∧ H' = upd H a (ndO P w a (putN xs k b v))
theorem nd_ne {P : Program} {w : World} {H : Hp} {a b : Addr} {xs : List Ent} {ys : List V} (h : H a = some (ndO P w a xs)) (g : H b = some (.tup ys)) : b ≠ a := ne_of g h (fun z => nomatch z)
theorem nd_tk {P : Program} {w : World} {H : Hp} {a : Addr} {xs : List Ent} {o : HO} (h : H a = some (ndO P w a xs)) : ∀ b ys, H b = some (.tup ys) → upd H a o b = some (.tup ys) := fun b ys g => by
  rw [upd_ne (nd_ne h g)]; exact g
theorem NDat.put {P : Program} {w : World} {H : Hp} {a b : Addr} {xs : List Ent} {k : NestedKey} {v : V} (n : NDat P w H a xs) (h : H a = some (ndO P w a xs)) (hk : NK H k (.ref b)) (hd : k.depth ≤ 8) : NDat P w (upd H a (ndO P w a (putN xs k b v))) a (putN xs k b v) := by
  refine ⟨.inl upd_same, fun x hx => ?_⟩
  rcases putN_mem hx with ⟨y, hy, e1, e2⟩ | ⟨e1, e2⟩
  · obtain ⟨k1, k2⟩ := n.2 y hy
    rw [e1, e2] at k1
    rw [e1] at k2
    exact ⟨NK.tk (nd_tk h) _ k1, k2⟩
  · rw [e1, e2]
    exact ⟨NK.tk (nd_tk h) _ hk, hd⟩
section
variable {X : Cx} {pins : List (Addr × Obj)} {σ : L2.St} {H : Hp} {s : Shared} {a : Addr} {y v : V} {u r : Value} {o : Option V} {A : Around} {E : Value → Shared → Prop}
theorem room_n (hu : A.units + 65 < cLine) : (nestedKind X.prog X.w).room A.in1 := by
  show A.in1.units + 8 < cLine
  rw [Around.in1_units]; omega
theorem n_getItem {Q : Value → Shared → Prop} (hu : A.units + 65 < cLine) (I : Inv X pins σ H s) (g : NGet X.prog X.w H a y (some v)) (ry : RelV y u) (h : ∀ w' s', Inv X pins σ H s' → RelV v w' → Q w' s') :
    wpAny (model X.prog X.w) A (getItem (.ref a) u) Q E s := by
  obtain ⟨xs, k, b, n, ey, hk, hd, l⟩ := g
  subst ey
  cases (show u = Value.ref b from ry)
  obtain ⟨z, hs, vs, rel, dd⟩ := n.dict I.hok
  obtain ⟨w', hw, rw'⟩ := RelO.some_of (v := v) (o := (atKey vs k).map (·.2)) (by rw [l]; exact rel.val k)
  obtain ⟨p, hp, hp2⟩ := Option.map_eq_some_iff.mp hw
  refine wpAny_getItem_heap (room_n hu) ⟨nk_is I.hok _ hk rfl, hd⟩ dd hp ?_
  rw [hp2]
  exact h w' _ (I.tok _) rw'
theorem n_in {Q : Value → Shared → Prop} (hu : A.units + 65 < cLine) (I : Inv X pins σ H s) (g : NGet X.prog X.w H a y o) (ry : RelV y u) (h : ∀ s', Inv X pins σ H s' → Q (.bool o.isSome) s') :
    wpAny (model X.prog X.w) A (compareOp .In u (.ref a)) Q E s := by
  obtain ⟨xs, k, b, n, ey, hk, hd, l⟩ := g
  subst ey
  cases (show u = Value.ref b from ry)
  obtain ⟨z, hs, vs, rel, dd⟩ := n.dict I.hok
  refine wpAny_in_heap (room_n hu) ⟨nk_is I.hok _ hk rfl, hd⟩ hs dd ?_
  have q := (rel.val k).isSome_eq
  rw [Option.isSome_map] at q
  rw [← q, ← l]
  exact h _ (I.tok _)
theorem n_notIn {Q : Value → Shared → Prop} (hu : A.units + 65 < cLine) (I : Inv X pins σ H s) (g : NGet X.prog X.w H a y o) (ry : RelV y u) (h : ∀ s', Inv X pins σ H s' → Q (.bool (!o.isSome)) s') :
    wpAny (model X.prog X.w) A (compareOp .NotIn u (.ref a)) Q E s := by
  obtain ⟨xs, k, b, n, ey, hk, hd, l⟩ := g
  subst ey
  cases (show u = Value.ref b from ry)
  obtain ⟨z, hs, vs, rel, dd⟩ := n.dict I.hok
  refine wpAny_notIn_heap (room_n hu) ⟨nk_is I.hok _ hk rfl, hd⟩ hs dd ?_
  have q := (rel.val k).isSome_eq
  rw [Option.isSome_map] at q
  rw [← q, ← l]
  exact h _ (I.tok _)
theorem n_setItem {H' : Hp} {Q : Unit → Shared → Prop} (hu : A.units + 65 < cLine) (I : Inv X pins σ H s) (g : NPut X.prog X.w H a y v H') (ry : RelV y u) (rv : RelV v r) (h : ∀ s', Inv X pins σ H' s' → Q () s') :
    wpAny (model X.prog X.w) A (setItem (.ref a) u r) Q E s := by
  obtain ⟨xs, k, b, n, e, ey, hk, hd, l, eH⟩ := g
  subst ey eH
  cases (show u = Value.ref b from ry)
  obtain ⟨z, hs0, vs, rel, dd⟩ := n.dict I.hok
  have hz : vs.length ≤ sizeLine := by rw [← Paired.length rel]; exact z
  have hl : (putN xs k b v).length ≤ sizeLine := by have := putN_len xs k b v; omega
  refine wpAny_setItem_heap (hsz := hz) (room_n hu) ⟨nk_is I.hok _ hk rfl, hd⟩ dd fun h' dd' hs => h _ ?_
  obtain ⟨q, es, ep, hq, h2, h3, h4, _, h5⟩ := dd'
  exact d_write I (by rw [e]; exact True.intro) hs ⟨q, hq⟩ (ndO_ok ⟨hl, hs0, _, rel.put k b rv, q, es, ep, hq, h2, h3, h4, h5⟩)
theorem n_get2 {d : V} {Q : Value → Shared → Prop} (hu : A.units + 65 < cLine) (I : Inv X pins σ H s) (g : NGet X.prog X.w H a y o) (ry : RelV y u) (rd : RelV d r) (h : ∀ w' s', Inv X pins σ H s' → RelV (o.getD d) w' → Q w' s') :
    wpAny (model X.prog X.w) A (call (.builtin "dict.get") [.ref a, u, r]) Q E s := by
  obtain ⟨xs, k, b, n, ey, hk, hd, l⟩ := g
  subst ey
  cases (show u = Value.ref b from ry)
  obtain ⟨z, hs, vs, rel, dd⟩ := n.dict I.hok
  refine call_meetsIn PySem.F.slot_dict_get dd.typeIs PySem.F.entry_dict_get (PySem.F.args_dict_get_3 _ _ _) (meetsH_dict_get_default (nestedKind X.prog X.w) a b hs r) ⟨room_n hu, k, vs, ⟨nk_is I.hok _ hk rfl, hd⟩, dd, h _ _ (I.tok _) ?_⟩
  rw [l]
  exact (rel.val k).getD rd
theorem nd_typeIs {xs : List Ent} (I : Inv X pins σ H s) (n : Rd H a (ndO X.prog X.w a xs)) : s.TypeIs (.ref a) "dict" ∧ (∀ b, Value.ref a = .ref b → ∃ ob, s.heap.get? b = some ob ∧ ob.dict = none) ∧ (a == sysModules) = false := by
  obtain ⟨z, hs, vs, rel, o, es, ep, h1, h2, h3⟩ := nd_of I.hok n
  refine ⟨⟨o, h1, h2.1⟩, fun b q => ?_, hs⟩
  cases q
  exact ⟨o, h1, h2.2.1⟩
end
/-! readings and rules -/
def tNGet (P : Program) (w : World) (td ty : TE) : TE := fun σ H Q => td σ H fun x H1 => ty σ H1 fun y H2 => ∃ a v, x = .ref a ∧ NGet P w H2 a y (some v) ∧ Q v H2
def tNIn (P : Program) (w : World) (ty td : TE) : TE := fun σ H Q => ty σ H fun y H1 => td σ H1 fun x H2 => ∃ a o, x = .ref a ∧ NGet P w H2 a y o ∧ Q (.bl o.isSome) H2
def tNNotIn (P : Program) (w : World) (ty td : TE) : TE := fun σ H Q => ty σ H fun y H1 => td σ H1 fun x H2 => ∃ a o, x = .ref a ∧ NGet P w H2 a y o ∧ Q (.bl (!o.isSome)) H2
def sNPut (P : Program) (w : World) (td ty tv : TE) : TS := fun D σ H => tv σ H fun v H1 => td σ H1 fun x H2 => ty σ H2 fun y H3 => ∃ a H4, x = .ref a ∧ NPut P w H3 a y v H4 ∧ D.nx σ H4
def tNGet2 (P : Program) (w : World) (td ty tx : TE) : TE := fun σ H Q => td σ H fun x H1 => ∃ a xs, x = .ref a ∧ Rd H1 a (ndO P w a xs) ∧ ty σ H1 fun y H2 => tx σ H2 fun z H3 => ∃ o, NGet P w H3 a y o ∧ Q (o.getD z) H3
def tNNew (P : Program) (w : World) : TE := fun _ H Q => ∀ p, H p = none → Q (.ref p) (upd H p (ndO P w p []))
section
variable {X : Cx} {P : Program} {w : World} {o i e f value : Expr} {pos pos' apos cpos : Pos} {td ty tv tx : TE}
theorem pe_nget (hu : X.A.units + 65 < cLine) (ho : PE X o td) (hi : PE X i ty) (hs : NoSl i) (hP : X.prog = P := by rfl) (hw : X.w = w := by rfl) : PE X (.Subscript o i pos) (tNGet P w td ty) := by
  subst hP hw
  refine ⟨fun pins s σ H Q I h => ?_⟩
  refine subD_of PySem.F.slot_dict_getitem.lookup hs (thn (ho.run pins s σ H _ I h) fun u s1 ⟨x, H1, I1, rx, q1⟩ => thn (hi.run pins s1 σ H1 _ I1 q1) fun iv s2 ⟨y, H2, I2, ry, a, v, ex, g, q2⟩ => ?_)
  subst ex
  obtain rfl : u = Value.ref a := rx
  obtain ⟨xs, _, _, n, _⟩ := id g
  exact ⟨(nd_typeIs I2 n.1).1, n_getItem hu I2 g ry fun w' s3 I3 rw' => ⟨v, H2, I3, rw', q2⟩⟩
theorem pc_nin (hu : X.A.units + 65 < cLine) (hi : PE X i ty) (ho : PE X o td) (hP : X.prog = P := by rfl) (hw : X.w = w := by rfl) : PC X .In i o (tNIn P w ty td) := by
  subst hP hw
  refine ⟨fun pins s σ H Q I h => ?_⟩
  refine thn (hi.run pins s σ H _ I h) fun iv s1 ⟨y, H1, I1, ry, q1⟩ => thn (ho.run pins s1 σ H1 _ I1 q1) fun u s2 ⟨x, H2, I2, rx, a, ov, ex, g, q2⟩ => ?_
  subst ex
  obtain rfl : u = Value.ref a := rx
  exact n_in hu I2 g ry fun s3 I3 => ⟨.bl ov.isSome, H2, I3, rfl, q2⟩
theorem pc_nnotin (hu : X.A.units + 65 < cLine) (hi : PE X i ty) (ho : PE X o td) (hP : X.prog = P := by rfl) (hw : X.w = w := by rfl) : PC X .NotIn i o (tNNotIn P w ty td) := by
  subst hP hw
  refine ⟨fun pins s σ H Q I h => ?_⟩
  refine thn (hi.run pins s σ H _ I h) fun iv s1 ⟨y, H1, I1, ry, q1⟩ => thn (ho.run pins s1 σ H1 _ I1 q1) fun u s2 ⟨x, H2, I2, rx, a, ov, ex, g, q2⟩ => ?_
  subst ex
  obtain rfl : u = Value.ref a := rx
  exact n_notIn hu I2 g ry fun s3 I3 => ⟨.bl (!ov.isSome), H2, I3, rfl, q2⟩
theorem ps_nput (hu : X.A.units + 65 < cLine) (ho : PE X o td) (hi : PE X i ty) (hv : PE X value tv) (hs : swapsWith value (some (.Subscript o i pos')) pos.line X.env = pure false) (hP : X.prog = P := by rfl) (hw : X.w = w := by rfl) :
    PS X (.Assign [.Subscript o i pos'] value pos) (sNPut P w td ty tv) := by
  subst hP hw
  refine ⟨fun pins s σ H D I h => ?_⟩
  refine wpAny_Assign_Subscript (thn (hv.run pins s σ H _ I h) fun r s1 ⟨v, H1, I1, rv, q1⟩ => thn (ho.run pins s1 σ H1 _ I1 q1) fun u s2 ⟨x, H2, I2, rx, q2⟩ => thn (hi.run pins s2 σ H2 _ I2 q2) fun iv s3 ⟨y, H3, I3, ry, a, H4, ex, g, q3⟩ => ?_) hs
  subst ex
  obtain rfl : u = Value.ref a := rx
  exact n_setItem hu I3 g ry rv fun s4 I4 => ⟨σ, H4, I4, q3⟩
theorem pe_nget2 (hu : X.A.units + 65 < cLine) (ho : PE X o td) (he : PE X e ty) (hf : PE X f tx) (m : M2 X o "get" apos e f cpos) (hP : X.prog = P := by rfl) (hw : X.w = w := by rfl) : PE X (.Call (.Attribute o "get" apos) [e, f] [] cpos) (tNGet2 P w td ty tx) := by
  subst hP hw
  refine ⟨fun pins s σ H Q I h => ?_⟩
  refine wpAny_Call_method m.base m.few m.line PySem.F.plainAttrs_dict PySem.F.slot_dict_get PySem.F.type_dict_get (thn (ho.run pins s σ H _ I h) fun u s1 ⟨x, H1, I1, rx, a, xs, ex, d, q1⟩ => ?_)
  subst ex
  obtain rfl : u = Value.ref a := rx
  obtain ⟨t1, t2, _⟩ := nd_typeIs I1 d
  refine ⟨t1, t2, ?_⟩
  rw [m.trees]
  refine Calls.callWith_builtin rfl (Calls.evalArgs_plain (Calls.spliced_cons (thn (he.run pins s1 σ H1 _ I1 q1) fun iv s2 ⟨y, H2, I2, ry, q2⟩ =>
    Calls.spliced_cons (thn (hf.run pins s2 σ H2 _ I2 q2) fun fv s3 ⟨z, H3, I3, rz, ov, g, q3⟩ => Calls.spliced_nil ?_))))
  exact n_get2 hu I3 g ry rz fun w' s4 I4 rw' => ⟨_, H3, I4, rw', q3⟩
theorem nd_empty {P : Program} {w : World} {H : Hp} (h : Heap) (hb : sysModules < h.objs.size) : ObjOk P w H (h.push { cls := .type "dict", data := .dict #[] }) h.objs.size (ndO P w h.objs.size []) :=
  ndO_ok ⟨Nat.zero_le _, beq_eq_false_iff_ne.mpr (Ne.symm (Nat.ne_of_lt hb)), [], .nil, _, #[], 0, Heap.get?_push_size _ rfl, ⟨rfl, rfl, rfl⟩, rfl, rfl, List.nodup_nil⟩
theorem pe_nnew (hP : X.prog = P := by rfl) (hw : X.w = w := by rfl) : PE X (.Dict [] [] pos) (tNNew P w) := by
  subst hP hw
  exact ⟨fun pins s σ H Q I h =>
    wpAny_Dict_empty ⟨.ref s.heap.objs.size, _, I.laid (a := s.heap.objs.size) (o := ndO X.prog X.w s.heap.objs.size []) (t' := s.toks) (fun _ _ q => Heap.get?_push_of_some _ q) (Nat.le_refl _) (nd_empty s.heap I.big), rfl, h _ (I.hok.fresh (Nat.le_refl _))⟩⟩
theorem NDat.new {P : Program} {w : World} {H : Hp} {p : Addr} : NDat P w (upd H p (ndO P w p [])) p [] := ⟨.inl upd_same, fun _ h => by cases h⟩
end
/-! .. in d.items(), the dict locked -/
def ItiN (P : Program) (w : World) (d : Addr) (o : Obj) (xs : List Ent) : It :=
  ⟨fun i H => H d = some (.frz o (ndO P w d xs)) ∧ i < xs.length, fun i H x H' => ∃ T b v k, xs[i]? = some (k, b, v) ∧ x = .ref T ∧ H T = none ∧ H' = upd H T (.tup [.ref b, v]), fun i H => H d = some (.frz o (ndO P w d xs)) ∧ xs.length ≤ i⟩
section
variable {P : Program} {w : World} {K : PySem.W.Frag} {d : Addr} {o : Obj} {es : Array DictEntry} {ep : Nat} {xs : List Ent}
theorem frzN {X : Cx} {pins : List (Addr × Obj)} {σ : L2.St} {H : Hp} {s : Shared} (I : Inv X pins σ H s) (h : H d = some (.frz o (ndO X.prog X.w d xs))) : (d == sysModules) = false ∧ s.heap.get? d = some o ∧ o.ExactDict ∧ ∃ (es : Array DictEntry) (ep : Nat), o.data = .dict es ep ∧ es.size = xs.length ∧
    ∀ (i : Nat) k b v, xs[i]? = some (k, b, v) → ∃ (en : DictEntry), es[i]? = some en ∧ en.key = .ref b ∧ RelV v en.val := by
  obtain ⟨hg, hq⟩ := (show ObjOk X.prog X.w H s.heap d (.frz o (ndO X.prog X.w d xs)) from I.hok d _ h)
  obtain ⟨⟨z, hs, vs, rel, o', es, ep, h1, h2, h3, h4, h5⟩, _⟩ := hq
  rw [hg] at h1
  cases h1
  refine ⟨hs, hg, h2, es, ep, h3, ?_, fun i k b v e => ?_⟩
  · have l1 : es.size = vs.length := size_of_entries h4
    have l2 : xs.length = vs.length := Paired.length rel
    omega
  · obtain ⟨q, hq, e1, e2, e3⟩ := L2.paired_get rel e
    have en := entry_at h4 i
    rw [hq] at en
    exact ⟨_, en, by show Value.ref q.2.1 = _; rw [← e2], e3⟩
theorem turn_itemsN {elts : List Expr} {kk : Nat} {tpos : Pos} (it : Addr) (hod : o.data = .dict es ep) :
    Turn P w K (.Tuple elts kk tpos) (ItiN P w d o xs) [it] it (fun i h => ∃ ok ov, IsItemIter h it d i xs.length ep ok ov) where
  mem := by simp
  obj := fun i h st b hb => by
    have e : b = it := by simpa using hb
    subst e
    obtain ⟨ok, ov, e⟩ := st
    exact ⟨_, e, fun v z => nomatch z⟩
  keep := fun i h h' st k => let ⟨ok, ov, e⟩ := st; ⟨ok, ov, k it (by simp) _ e⟩
  item := by
    intro X hP hw hK hc i pins s σ H E I hf st hg
    subst hP hw hK
    obtain ⟨hd, hi⟩ := hg
    obtain ⟨hs, hgd, hx, es', ep', hdt, hsz, ent⟩ := frzN I hd
    obtain ⟨rfl, rfl⟩ := dict_ep hod hdt
    obtain ⟨⟨k, b, v⟩, hkv⟩ : ∃ p, xs[i]? = some p := ⟨xs[i], List.getElem?_eq_getElem hi⟩
    obtain ⟨en, hen, ek, ru⟩ := ent i k b v hkv
    obtain ⟨ok, ov, he⟩ := st
    rw [← hsz] at he
    have hlt : it < s.heap.objs.size := Heap.lt_size he
    have hi' : i < es'.size := by rw [hsz]; exact hi
    have een : es'[i] = en := by
      have := Array.getElem?_eq_getElem hi'
      rw [hen] at this
      exact (Option.some.inj this).symm
    refine DT.nextI he ⟨_, hgd, hx, hdt⟩ hi' fun h' ho hT hz hk => ?_
    rw [een] at ho hT
    refine ⟨_, rfl, wpAny_letOwnedTupleGo_items (s := { s with heap := h' }) ho fun h'' he' sb => ?_⟩
    have hT2 : h''.get? s.heap.objs.size = some { cls := .type "tuple", data := .seq #[en.key, en.val] } := (sb.2 _ (Nat.ne_of_gt hlt)).trans hT
    have new : ObjOk X.prog X.w (upd H s.heap.objs.size (.tup [.ref b, v])) h'' s.heap.objs.size (.tup [.ref b, v]) :=
      ⟨by show 2 ≤ sizeLine; decide, [en.key, en.val], .cons ek (.cons ru .nil), ⟨_, hT2, rfl, _, rfl⟩⟩
    have I1 : Inv X pins σ (upd H s.heap.objs.size (.tup [.ref b, v])) { s with heap := h'' } :=
      I.turnedNew (t' := s.toks) (ch := [it]) (fun b ob hb e => (sb.2 b (by simpa using hb)).trans (hk b ob (by simpa using hb) e)) hf (Nat.le_refl _) new
    refine ⟨.ref s.heap.objs.size, _, I1, rfl, ⟨_, b, v, k, hkv, rfl, I.hok.fresh (Nat.le_refl _), rfl⟩, ⟨en.key, en.val, ?_⟩, fun b hb => ?_⟩
    · rw [← hsz]; exact he'
    · have e : b = it := by simpa using hb
      rw [e, upd_ne (Nat.ne_of_lt hlt)]
      exact (hf it (by simp)).1
  done := by
    intro X hP hw hK hc i pins s σ H E I hf st hg
    subst hP hw hK
    obtain ⟨hd, hi⟩ := hg
    obtain ⟨f0, f1, f2, f3, f4, f5⟩ := hf it (by simp)
    obtain ⟨hs, hgd, hx, es', ep', hdt, hsz, ent⟩ := frzN I hd
    obtain ⟨rfl, rfl⟩ := dict_ep hod hdt
    obtain ⟨ok, ov, he⟩ := st
    rw [← hsz] at he
    exact DT.endI (I.ok.hd hc) he ⟨_, hgd, hx, hdt⟩ (by rw [hsz]; exact hi) fun h' eb => ⟨rfl, I.turned (t' := s.toks) (fun b ob hb e => eb b ob hb e) f0 f1 f3 f4 f5⟩
  self := fun A i s Q E st h => let ⟨_, _, e⟩ := st; PySem.W.kcp_self e h
theorem walk_itemsN : Walk (ItiN P w d o xs) xs.length (fun H => H d = some (.frz o (ndO P w d xs))) (YPair (fun i => xs[i]?.map fun x => .ref x.2.1) (fun i => xs[i]?.map fun x => x.2.2)) := by
  refine ⟨fun _ _ hi q => ⟨q, hi⟩, fun _ q => ⟨q, Nat.le_refl _⟩, fun i H x H' _ _ y => ?_⟩
  obtain ⟨T, b, v, k, h1, h2, h3, h4⟩ := y
  exact ⟨T, .ref b, v, h2, h3, h4, by simp [h1], by simp [h1]⟩
end
def iItemsN (P : Program) (w : World) (td : TE) : TI := fun σ H R => td σ H fun x H1 => ∃ d o xs, x = .ref d ∧ H1 d = some (.frz o (ndO P w d xs)) ∧ R (ItiN P w d o xs) H1
theorem pi_itemsN {X : Cx} {P : Program} {w : World} {e : Expr} {td : TE} {apos cpos : Pos} {elts : List Expr} {kk : Nat} {tpos : Pos} (he : PE X e td) (hbase : attributeBase e "items" X.env (eval e X.env) = eval e X.env := by rfl) (hline : (apos.endLine == cpos.line) = true := by rfl) (hP : X.prog = P := by rfl) (hw : X.w = w := by rfl) :
    PI X (.Tuple elts kk tpos) (.Call (.Attribute e "items" apos) [] [] cpos) (iItemsN P w td) := by
  subst hP hw
  refine ⟨fun pins s σ H R I h => ?_⟩
  refine wpAny_Call_method (T := "dict") (id := "dict.items") hbase rfl hline F.plainAttrs_dict F.slot_dict_items F.type_dict_items (thn (he.run pins s σ H _ I h) fun u s1 ⟨x, H1, I1, rx, d, o, xs, ex, hd, q⟩ => ?_)
  subst ex
  obtain rfl : u = Value.ref d := rx
  obtain ⟨hs, hgd, hx, es, ep, hdt, hsz, ent⟩ := frzN I1 hd
  have raw : DT.Raw s1.heap d es ep := ⟨_, hgd, hx, hdt⟩
  refine ⟨raw.typeIs, fun b q => ?_, ?_⟩
  · cases q
    exact ⟨o, hgd, hx.2.1⟩
  have I2 : Inv X pins σ H1 { s1 with heap := s1.heap.push { cls := .type "dict_items", data := .fields #[.ref d] } } := I1.kept (t' := s1.toks) fun b ob q => Heap.get?_push_of_some _ q
  have fin : wpAny (model X.prog X.w) X.A (pyIter (.ref s1.heap.objs.size)) (PIE X pins σ (.Tuple elts kk tpos) R) X.xe { s1 with heap := s1.heap.push { cls := .type "dict_items", data := .fields #[.ref d] } } := by
    refine DT.iterI (d := d) ⟨_, Heap.get?_push_size _ rfl, rfl, rfl⟩ (raw.push _) (pi_one (tk := s1.toks) I2 _ (turn_itemsN _ hdt) ⟨.none, .none, ?_⟩ q)
    rw [← hsz]
    exact Heap.get?_push_size _ rfl
  show wpAny _ _ (callWith cpos (.builtin "dict.items") [.ref d] [] []) _ X.xe s1
  exact method_meetsIn F.slot_dict_items F.entry_dict_items rfl (PySem.evalArgs_none ⟨rfl, raw.typeIs, F.args_dict_items_1 _, _, DT.meetsItems (es := es) (ep := ep) hs, raw, fin⟩)
end NDi

/-! enumerate(tuple) in the hand layer -/
namespace ENt
open PySem PySem.W PySem.Calls PyProof.Rows PyProof.V PySem.Spec L2
open AutoSeq1 (wpAny_loadPart')
theorem meets_enumerate_newT (l : Addr) (items : Array Value) (n : Nat) (dct : Option Addr) (sl : Array (Option Value)) :
    Meets (Builtin.«enumerate.__new__» ⟨[.type "enumerate", .ref l], []⟩) (fun _ R s => s.heap.get? l = some { cls := .type "tuple", dict := dct, data := .seq items n, slots := sl } ∧
      R (.ok (.ret (.ref (s.heap.push { cls := .type "tuple_iterator", data := .fields #[.ref l, .int 0 0] }).objs.size)))
        { s with heap := (s.heap.push { cls := .type "tuple_iterator", data := .fields #[.ref l, .int 0 0] }).push { cls := .type "enumerate", data := .fields #[.none, .bool false, .ref s.heap.objs.size, rawInt 0, .none, .none] } }) :=
  .of_wp fun prog w A R s h => by
    obtain ⟨hp, g, d, tk, os⟩ := s; obtain ⟨hl, h⟩ := h
    have hsub := sub_enumerate
    have hL : Heap.IsTuple (Shared.heap ⟨hp, g, d, tk, os⟩) l items := ⟨_, hl, rfl, n, rfl⟩
    wp_walk using wpAny_loadPart' hl
    refine wpAny_stack_any fun st => wpAny_pure ?_
    split
    · rename_i c _ _ _ _ _
      cases (c == Value.type "enumerate")
      · wp_walk using wpAny_loadPart' hl, wpAny_pyIter_tuple hL
        exact ⟨_, rfl, h⟩
      · wp_walk using wpAny_loadPart' hl, wpAny_pyIter_tuple hL
        exact ⟨_, rfl, h⟩
    · wp_walk using wpAny_loadPart' hl, wpAny_pyIter_tuple hL
      exact ⟨_, rfl, h⟩
theorem call_enumerate_tuple {prog : Program} {w : World} {A : Around} {E : Value → Shared → Prop} {s : Shared} {l : Addr} {items : Array Value} {Q : Value → Shared → Prop} (hL : s.heap.IsTuple l items)
    (h : ∀ h', IsEnum h' (s.heap.objs.size + 1) s.heap.objs.size 0 .none → h'.IsTupleIter s.heap.objs.size l 0 → h'.objs.size = s.heap.objs.size + 2 →
      (∀ b o, s.heap.get? b = some o → h'.get? b = some o) → Q (.ref (s.heap.objs.size + 1)) { s with heap := h' }) :
    wpAny (model prog w) A (call (.type "enumerate") [.ref l]) Q E s := by
  obtain ⟨⟨c, dct, dt, sl⟩, hl, hc, n, hd⟩ := hL
  replace hc : c = .type "tuple" := hc
  replace hd : dt = .seq items n := hd
  subst hc hd
  refine callType_new F.called_enumerate (by decide) (F.typeCall_enumerate_1 _) (F.newCall_enumerate_1 _) (fun obj => F.args_object_init_2 obj _) F.entry_enumerate_new
    (meets_enumerate_newT l items n dct sl) ⟨hl, ?_⟩
  have hz : (s.heap.push { cls := .type "tuple_iterator", data := .fields #[.ref l, .int 0 0] }).objs.size = s.heap.objs.size + 1 := Heap.size_push ..
  show _ ∧ _
  rw [hz]
  have he : IsEnum ((s.heap.push { cls := .type "tuple_iterator", data := .fields #[.ref l, .int 0 0] }).push
      { cls := .type "enumerate", data := .fields #[.none, .bool false, .ref s.heap.objs.size, rawInt 0, .none, .none] }) (s.heap.objs.size + 1) s.heap.objs.size 0 .none := by
    have := Heap.get?_push_size (s.heap.push { cls := .type "tuple_iterator", data := .fields #[.ref l, .int 0 0] })
      (o := { cls := .type "enumerate", data := .fields #[.none, .bool false, .ref s.heap.objs.size, rawInt 0, .none, .none] }) rfl
    rw [hz] at this; exact this
  refine ⟨⟨_, he, rfl⟩, h _ he ⟨_, Heap.get?_push_of_some _ (Heap.get?_push_size _ rfl), rfl, rfl⟩ (by rw [Heap.size_push, hz]) fun b o x => Heap.get?_push_of_some _ (Heap.get?_push_of_some _ x)⟩
theorem wpAny_pyNext_enum_endG {prog : Program} {w : World} {A : Around} {E : Value → Shared → Prop} {s : Shared} {e it l : Addr} {i : Nat} {items : Array Value} {old : Value} {Q : Option Value → Shared → Prop} (hh : A.in1.handled = none)
    (he : IsEnum s.heap e it i old) (hit : s.heap.IsTupleIter it l i) (hl : s.heap.IsTuple l items) (hx : items[i]? = none)
    (hQ : ∀ h', Heap.ExtBut it s.heap h' → Q none { s with heap := h' }) : wpAny (model prog w) A (pyNext (.ref e)) Q E s := by
  have hT : s.TypeIs (.ref e) "enumerate" := ⟨_, he, rfl⟩
  unfold pyNext
  refine wpAny_bind (wpAny_attempt (wpAny_callSpecial?_slot (name := Str.ofString "__next__") hT F.slot_enumerate_next
    (wpAny_call_entry F.slot_enumerate_next hT F.entry_enumerate_next ?_ (F.args_enumerate_next_1 _))))
  show wpAny _ _ (field (.ref e) 2 >>= _) _ _ _
  refine wpAny_bind (wpAny_field he rfl (x := .ref it) rfl ?_)
  refine wpAny_bind (wpAny_nextOf_tuple_end hh hit hl hx fun h' x he' hx' => ?_)
  obtain ⟨o, ho, hc⟩ := hx'
  refine wpAny_bind (wpAny_isInstance (T := "StopIteration") (b := true) ⟨o, ho, hc⟩ isSubtype_stop ?_)
  exact wpAny_pure (hQ _ he')
/-- the tuple's items, each in a new pair -/
def ItE (K : PySem.W.Frag) (a : Addr) : It :=
  ⟨fun i H => ∃ (xs : List V) (x : V), SqT K H a xs ∧ xs[i]? = some x, fun i H v H' => ∃ T x, v = .ref T ∧ H T = none ∧ H' = upd H T (.tup [.int (i : Nat), x]) ∧ ∀ xs, SqT K H a xs → xs[i]? = some x, fun i H => ∃ xs : List V, SqT K H a xs ∧ xs.length ≤ i⟩
theorem turn_enumT {P : Program} {w : World} {K : PySem.W.Frag} {elts : List Expr} {kk : Nat} {tpos : Pos} (a e it : Addr) :
    Turn P w K (.Tuple elts kk tpos) (ItE K a) [e, it] e (fun i h => (∃ old, IsEnum h e it ((i : Nat) : Int) old) ∧ h.IsTupleIter it a i ∧ e ≠ it ∧ a ≠ it ∧ e ≠ a) where
  mem := by simp
  obj := fun i h st b hb => by
    obtain ⟨⟨old, he⟩, ⟨o, ho, hc, hd⟩, _⟩ := st
    have e' : b = e ∨ b = it := by simpa using hb
    rcases e' with z | z
    · rw [z]; exact ⟨_, he, fun v q => nomatch q⟩
    · rw [z]; exact ⟨o, ho, fun v q => by rw [hd] at q; cases q⟩
  keep := fun i h h' st k => let ⟨⟨old, he⟩, hi, hne⟩ := st; ⟨⟨old, k e (by simp) _ he⟩, hi.at fun o q => k it (by simp) o q, hne⟩
  item := by
    intro X hP hw hK hc i pins s σ H E I hf st hg
    subst hP hw hK
    obtain ⟨⟨old, he⟩, hit, hne, hai, hea⟩ := st
    obtain ⟨xs, x, hq, hx⟩ := hg
    obtain ⟨its, rv, p, hz⟩ := I.tuple hq
    obtain ⟨u, hu, ru⟩ := rv.get hx
    have hel : e < s.heap.objs.size := Heap.lt_size he
    have hil : it < s.heap.objs.size := by obtain ⟨_, q, _⟩ := hit; exact Heap.lt_size q
    have hh : X.A.in1.handled = none := I.ok.hd hc
    refine wpAny_pyNext_enum_itemD (Draws.tuple hh it a hai its.toArray) he ⟨hit, p⟩ (Array.getElem?_eq_some_iff.1 (by simpa using hu)).1 hne (by simp [hne, hea]) fun x' h' tk hP' ho st' hT hsz hk => ?_
    have ex : x' = u := by simpa [hu] using hP'.symm
    subst ex
    obtain ⟨hit', _⟩ := st'
    refine ⟨_, rfl, wpAny_letOwnedTupleGo_enum (s := { s with heap := h', toks := tk + 1 }) ho fun h'' he' sb => ?_⟩
    have hT2 : h''.get? s.heap.objs.size = some { cls := .type "tuple", data := .seq #[.int i tk, x'] } := (sb.2 _ (Nat.ne_of_gt hel)).trans hT
    have new : ObjOk X.prog X.w (upd H s.heap.objs.size (.tup [.int (i : Nat), x])) h'' s.heap.objs.size (.tup [.int (i : Nat), x]) :=
      ⟨by show 2 ≤ sizeLine; decide, [.int i tk, x'], .cons ⟨_, rfl⟩ (.cons ru .nil), ⟨_, hT2, rfl, _, rfl⟩⟩
    have I1 : Inv X pins σ (upd H s.heap.objs.size (.tup [.int (i : Nat), x])) { s with heap := h'', toks := tk + 1 } :=
      I.turnedNew (ch := [e, it]) (fun b ob hb q => (sb.2 b (fun z => hb (by simp [z]))).trans (hk b ob (fun z => hb (by simp [z])) (fun z => hb (by simp [z])) q)) hf (Nat.le_refl _) new
    refine ⟨.ref s.heap.objs.size, _, I1, rfl, ⟨_, x, rfl, I.hok.fresh (Nat.le_refl _), rfl, fun ys hy => by rw [I.tuple_inj hy hq]; exact hx⟩, ⟨⟨x', ?_⟩, hit'.at fun o q => (sb.2 it (Ne.symm hne)).trans q, hne, hai, hea⟩, fun b hb => ?_⟩
    · have e1 : ((i + 1 : Nat) : Int) = (i : Int) + 1 := by omega
      rw [e1]; exact he'
    · have hb' : b < s.heap.objs.size := by
        have e' : b = e ∨ b = it := by simpa using hb
        rcases e' with z | z
        · rw [z]; exact hel
        · rw [z]; exact hil
      rw [upd_ne (Nat.ne_of_lt hb')]
      exact (hf b hb).1
  done := by
    intro X hP hw hK hc i pins s σ H E I hf st hg
    subst hP hw hK
    obtain ⟨⟨old, he⟩, hit, hne, hai, hea⟩ := st
    obtain ⟨xs, hq, hx⟩ := hg
    obtain ⟨its, rv, p, hz⟩ := I.tuple hq
    obtain ⟨f0, f1, f2, f3, f4, f5⟩ := hf it (by simp)
    have hl := rv.length
    have hh : X.A.in1.handled = none := I.ok.hd hc
    refine wpAny_pyNext_enum_endG hh he hit p (by simp; omega) fun h' eb => ⟨rfl, I.turned (t' := s.toks) (fun b o hb q => eb b o hb q) f0 f1 f3 f4 f5⟩
  self := fun A i s Q E st h => let ⟨⟨_, he⟩, _⟩ := st; wpAny_pyIter_enum he h
def iEnumT (K : PySem.W.Frag) (ta : TA) : TI := fun σ H R => ta σ H fun vs H1 => ∃ a xs, vs = [.ref a] ∧ SqT K H1 a xs ∧ R (ItE K a) H1
theorem pi_enumT {X : Cx} {e : Expr} {ta : TA} {p pos tpos : Pos} {elts : List Expr} {kk : Nat} (hg : Gl X "enumerate") (hm : X.mg "enumerate" = none) (ha : PA X [e] ta) (hs : starEach [e] X.env = [(false, eval e X.env)] := by rfl) :
    PI X (.Tuple elts kk tpos) (.Call (.Name "enumerate" p) [e] [] pos) (iEnumT X.K ta) := by
  refine ⟨fun pins s σ H R I h => ?_⟩
  refine Call_ (ld_blt I hg hm boot_enumerate (PyProof.Rows.callWith_type1 (thn (ha.run pos pins s σ H _ I h) fun us s1 ⟨vs, H1, I1, r1, q1⟩ => ?_) hs rfl))
  obtain ⟨a, xs, ex, hq, q⟩ := q1
  subst ex
  cases r1 with
  | cons r rr =>
    cases rr
    cases r
    obtain ⟨its, rv, p', hz⟩ := I1.tuple hq
    have hal : a < s1.heap.objs.size := by obtain ⟨_, q, _⟩ := p'; exact Heap.lt_size q
    refine call_enumerate_tuple p' fun h' he hit hsz hk => wpAny_pyIter_enum he ?_
    have I2 : Inv X pins σ H1 { s1 with heap := h' } := I1.kept (t' := s1.toks) hk
    refine ⟨s1.heap.objs.size + 1, [s1.heap.objs.size + 1, s1.heap.objs.size], _, _, H1, rfl, I2, turn_enumT a (s1.heap.objs.size + 1) s1.heap.objs.size, ⟨⟨.none, he⟩, hit, Nat.succ_ne_self _, Nat.ne_of_lt hal, (Nat.ne_of_lt (Nat.lt_succ_of_lt hal)).symm⟩, fun b hb => ?_, q⟩
    have e' : b = s1.heap.objs.size + 1 ∨ b = s1.heap.objs.size := by simpa using hb
    have hle : s1.heap.objs.size ≤ b := by
      rcases e' with z | z
      · rw [z]; exact Nat.le_add_right _ _
      · rw [z]; exact Nat.le_refl _
    exact I1.fpOk hle (I1.hok.fresh hle)
theorem walk_enumT {K : PySem.W.Frag} {a : Addr} {xs : List V} : Walk (ItE K a) xs.length (fun H => SqT K H a xs) (YPair (fun i => some (.int (i : Nat))) (fun i => xs[i]?)) := by
  refine ⟨fun i _ hi q => ⟨xs, xs[i], q, by simp [hi]⟩, fun _ q => ⟨xs, q, Nat.le_refl _⟩, fun i H v H' _ q y => ?_⟩
  obtain ⟨T, x, h1, h2, h3, h4⟩ := y
  exact ⟨T, .int (i : Nat), x, h1, h2, h3, rfl, h4 xs q⟩
end ENt

namespace My
open PySem L2 C8 SX
/-! own base: tests, heaps -/
theorem bo_len : bootBuiltins "len" = some (.builtin "len") := by decide +kernel
theorem bo_isinstance : bootBuiltins "isinstance" = some (.builtin "isinstance") := by decide +kernel
theorem bo_min : bootBuiltins "min" = some (.builtin "min") := by decide +kernel
theorem bo_max : bootBuiltins "max" = some (.builtin "max") := by decide +kernel
theorem bo_abs : bootBuiltins "abs" = some (.builtin "abs") := by decide +kernel
theorem bo_int : bootBuiltins "int" = some (.type "int") := by decide +kernel
theorem bo_str : bootBuiltins "str" = some (.type "str") := by decide +kernel
theorem bo_bool : bootBuiltins "bool" = some (.type "bool") := by decide +kernel
theorem bo_list : bootBuiltins "list" = some (.type "list") := by decide +kernel
theorem bo_ord : bootBuiltins "ord" = some (.builtin "ord") := by decide +kernel
theorem bo_chr : bootBuiltins "chr" = some (.builtin "chr") := by decide +kernel
theorem bo_sum : bootBuiltins "sum" = some (.builtin "sum") := by decide +kernel
theorem bo_all : bootBuiltins "all" = some (.builtin "all") := by decide +kernel
theorem bo_any : bootBuiltins "any" = some (.builtin "any") := by decide +kernel
theorem bo_sorted : bootBuiltins "sorted" = some (.builtin "sorted") := by decide +kernel
theorem bo_dict : bootBuiltins "dict" = some (.type "dict") := by decide +kernel
theorem bo_tuple : bootBuiltins "tuple" = some (.type "tuple") := by decide +kernel
theorem iteD {p A B : Prop} [Decidable p] (h1 : p → A) (h2 : ¬ p → B) : if decide p = true then A else B := by
  by_cases h : p
  · rw [decide_eq_true h]; exact iteT (h1 h)
  · rw [decide_eq_false h]; exact iteF (h2 h)
theorem iteN {p A B : Prop} [Decidable p] (h1 : ¬ p → A) (h2 : p → B) : if (!decide p) = true then A else B := by
  by_cases h : p
  · rw [decide_eq_true h]; exact iteF (h2 h)
  · rw [decide_eq_false h]; exact iteT (h1 h)
theorem iteDT {p A B : Prop} [Decidable p] (h : p) (k : A) : if decide p = true then A else B := iteD (fun _ => k) fun z => absurd h z
theorem iteDF {p A B : Prop} [Decidable p] (h : ¬ p) (k : B) : if decide p = true then A else B := iteD (fun z => absurd z h) fun _ => k
theorem iteNT {p A B : Prop} [Decidable p] (h : ¬ p) (k : A) : if (!decide p) = true then A else B := iteN (fun _ => k) fun z => absurd z h
theorem iteNF {p A B : Prop} [Decidable p] (h : p) (k : B) : if (!decide p) = true then A else B := iteN (fun z => absurd h z) fun _ => k
theorem iteB {b : Bool} {A B : Prop} (h1 : b = true → A) (h2 : b = false → B) : if b = true then A else B := by
  cases b with
  | true => exact iteT (h1 rfl)
  | false => exact iteF (h2 rfl)
/-- in a comprehension without a test -/
theorem yes_then {σ : St} {H : Hp} {F G : Hp → Prop} (h : F H) : tYes σ H (fun b H3 => if b = true then F H3 else G H3) := h
/-- all that was tracked stands, but at W -/
def Keep (W : List Addr) (H H' : Hp) : Prop := ∀ b o, H b = some o → b ∉ W → H' b = some o
theorem Keep.refl (W : List Addr) (H : Hp) : Keep W H H := fun _ _ h _ => h
theorem Keep.trans {W : List Addr} {H H1 H2 : Hp} (a : Keep W H H1) (b : Keep W H1 H2) : Keep W H H2 := fun c o h w => b c o (a c o h w) w
theorem Keep.mono {W W' : List Addr} {H H1 : Hp} (a : Keep W H H1) (h : ∀ b, b ∈ W → b ∈ W') : Keep W' H H1 := fun c o q w => a c o q fun z => w (h c z)
theorem Keep.new {W : List Addr} {H : Hp} {p : Addr} {o : HO} (h : H p = none) : Keep W H (upd H p o) := fun b u q _ => by
  rw [upd_ne (ne_of_none q h)]; exact q
theorem Keep.at_ {W : List Addr} {H : Hp} {p : Addr} {o : HO} (h : p ∈ W) : Keep W H (upd H p o) := fun b u q w => by
  rw [upd_ne (fun z => w (by rw [z]; exact h))]; exact q
theorem Keep.then_new {W : List Addr} {H H1 : Hp} {p : Addr} {o : HO} (a : Keep W H H1) (h : H1 p = none) : Keep W H (upd H1 p o) := a.trans (Keep.new h)
theorem Keep.then_at {W : List Addr} {H H1 : Hp} {p : Addr} {o : HO} (a : Keep W H H1) (h : p ∈ W) : Keep W H (upd H1 p o) := a.trans (Keep.at_ h)
/-- what was new since H is not among the kept -/
theorem Keep.then_own {W : List Addr} {H H1 : Hp} {p : Addr} {o : HO} (a : Keep W H H1) (h : H p = none) : Keep W H (upd H1 p o) := fun b u q w => by
  rw [upd_ne (ne_of_none q h)]; exact a b u q w
theorem Keep.free {H H' : Hp} (e : Keep [] H H') {l : Addr} (h : H' l = none) : H l = none := by
  cases q : H l with
  | none => rfl
  | some o => rw [e l o q (by simp)] at h; cases h
theorem Keep.free1 {H H' : Hp} {p : Addr} {o : HO} (e : Keep [p] H H') (hp : H' p = some o) {l : Addr} (h : H' l = none) : H l = none := by
  cases q : H l with
  | none => rfl
  | some u =>
    by_cases z : l = p
    · subst z; rw [hp] at h; cases h
    · rw [e l u q (by simpa using z)] at h; cases h
theorem Keep.seqL {W : List Addr} {K : PySem.W.Frag} {H H' : Hp} {a : Addr} {xs : List V} (e : Keep W H H') (h : SqL K H a xs) (w : a ∉ W) : SqL K H' a xs := by
  rcases h with (h | ⟨o, h⟩) | h
  · exact .inl (.inl (e _ _ h w))
  · exact .inl (.inr ⟨o, e _ _ h w⟩)
  · exact .inr h
theorem Keep.seqT {W : List Addr} {K : PySem.W.Frag} {H H' : Hp} {a : Addr} {xs : List V} (e : Keep W H H') (h : SqT K H a xs) (w : a ∉ W) : SqT K H' a xs := by
  rcases h with (h | ⟨o, h⟩) | h
  · exact .inl (.inl (e _ _ h w))
  · exact .inl (.inr ⟨o, e _ _ h w⟩)
  · exact .inr h
theorem Keep.same {H H' : Hp} (e : Keep [] H H') : Same H H' := fun b o h => e b o h (by simp)
theorem ints_get {ns : List Int} {i : Nat} {v : V} (h : (ns.map V.int)[i]? = some v) : ∃ z, ns[i]? = some z ∧ v = V.int z := by
  rw [List.getElem?_map] at h
  cases e : ns[i]? with
  | none => rw [e] at h; cases h
  | some z => rw [e] at h; exact ⟨z, rfl, (Option.some.inj h).symm⟩
theorem strs_get {ns : List Str} {i : Nat} {v : V} (h : (ns.map V.str)[i]? = some v) : ∃ z, ns[i]? = some z ∧ v = V.str z := by
  rw [List.getElem?_map] at h
  cases e : ns[i]? with
  | none => rw [e] at h; cases h
  | some z => rw [e] at h; exact ⟨z, rfl, (Option.some.inj h).symm⟩
theorem smallM {n : Nat} (h : n ≤ 1000000) : n ≤ sizeLine := Nat.le_trans h (by decide)
theorem smallL {n : Nat} (h : n ≤ 1000000) : n < sizeLine := Nat.lt_of_le_of_lt h (by decide)
/-- a promise that asks the impossible: any def at all keeps it -/
def spNo : Sp := fun _ _ _ _ => False
/-! the same rules with the written part named (within a comprehension) -/
section
variable {X : Cx} {K : PySem.W.Frag}
theorem pe_fldK {e : Expr} {f : Str} {pos : Pos} {ta : TE} (he : PE X e ta) (hb : attributeBase e f X.env (eval e X.env) = eval e X.env) (hK : X.K = K := by rfl) : PE X (.Attribute e f pos) (tFld K ta f) := hK ▸ pe_fld he hb
theorem ix_listK (hK : X.K = K := by rfl) : IxR X (rIxL K) := hK ▸ ix_list
theorem ix_tupK (hK : X.K = K := by rfl) : IxR X (rIxT K) := hK ▸ ix_tup
theorem sl_listK (hK : X.K = K := by rfl) : SlR X (rSlL K) := hK ▸ sl_list
theorem sl_tupK (hK : X.K = K := by rfl) : SlR X (rSlT K) := hK ▸ sl_tup
theorem call_len_seqK (hK : X.K = K := by rfl) : CallR X (.builtin "len") (fun xs H Q => ∃ p ys, xs = [.ref p] ∧ (SqL K H p ys ∨ SqT K H p ys) ∧ Q (.int ys.length) H) := hK ▸ call_len_seq
theorem call_list_ofK (hK : X.K = K := by rfl) : CallR X (.type "list") (fun xs H Q => ∃ p ys, xs = [.ref p] ∧ (SqL K H p ys ∨ SqT K H p ys) ∧ ∀ l, H l = none → Q (.ref l) (upd H l (.lst ys))) := hK ▸ call_list_of
theorem call_isiK2 (hK : X.K = K := by rfl) : CallR X (.builtin "isinstance") (rIsi K) := hK ▸ call_isi
end
/-- behind the making of an instance -/
theorem keep_made {H H2 : Hp} {x dx : Addr} {o : HO} (hx : H x = none) (hd : H dx = none) (k : Keep [x] (upd (upd H dx (.own x)) x o) H2) : Keep [] H H2 := fun b u e _ =>
  k b u (by rw [upd_ne (ne_of_none e hx), upd_ne (ne_of_none e hd)]; exact e) (by simpa using ne_of_none e hx)
theorem kitSelf {K : PySem.W.Frag} {C : Addr} : PySem.W.kitOne K (.ref C) (.ref C) = some true := by
  unfold PySem.W.kitOne
  simp
/-- a call without arguments -/
theorem pe_c0 {X : Cx} {x : Str} {p pos : Pos} {k j : Nat} {sp : Sp} {dvs : List V} (c : C8.Cal X.prog X.w X.K X.mg X.base k x sp dvs) (hr : Room j X.A) (hk : k ≤ j) (hg : Gl X x) (hdb : (x == ("__debug__" : Str)) = false := by decide) :
    PE X (.Call (.Name x p) [] [] pos) (tCall sp dvs C8.E0 tNil) := by
  obtain ⟨f, fd, ps, ds, F, hm, kp, b, d⟩ := c.ex
  exact pe_call0 F (hr.mono hk) hg hm kp b d C8.pass0 hdb

/-! in a comprehension: unpack a tuple (the written part named) -/
theorem pg_tupK {X : Cx} {K : PySem.W.Frag} {es : List Expr} {k : Nat} {t : TGs} {n : Nat} {pos : Pos} (h : PGs X es t) (hc : X.calm = true := by rfl) (hK : X.K = K := by rfl)
    (hn : (assignEach es X.env).length = n := by rfl) (hst : (assignEach es X.env).findIdx? (·.1) = none := by rfl) : PG X (.Tuple es k pos) (gTup K n t) := hK ▸ pg_tup hc h hn hst
theorem op_in_seqK {X : Cx} {K : PySem.W.Frag} (hK : X.K = K := by rfl) : OpR X (compareOp .In) (rIn K false) := hK ▸ op_in_seq
theorem op_notIn_seqK {X : Cx} {K : PySem.W.Frag} (hK : X.K = K := by rfl) : OpR X (compareOp .NotIn) (rIn K true) := hK ▸ op_notIn_seq

open NDi
/-! the text by places -/
def top (i : Nat) : Stmt := PySem.Challenge.pw_bothgain_k33_views_and_rows.main.body.getD i (.Pass ⟨0, 0, 0, 0⟩)
abbrev s_End___init : Stmt := L2.inClass (top 1) 0
theorem sc_End___init : FnScope ["self", "paid"] ["self", "paid"] (fnScope s_End___init) := fnScope_by (by decide +kernel)
abbrev s_Lot___init : Stmt := L2.inClass (top 2) 0
theorem sc_Lot___init : FnScope ["self", "parts"] ["self", "parts"] (fnScope s_Lot___init) := fnScope_by (by decide +kernel)
abbrev s_Turn___init : Stmt := L2.inClass (top 3) 0
theorem sc_Turn___init : FnScope ["self", "player", "view", "parts"] ["self", "player", "view", "parts"] (fnScope s_Turn___init) := fnScope_by (by decide +kernel)
abbrev s_collect : Stmt := top 5
theorem sc_collect : FnScope ["tree", "player", "found", "part"] ["tree", "player", "found"] (fnScope s_collect) := fnScope_by (by decide +kernel)
abbrev s_views_of : Stmt := top 6
theorem sc_views_of : FnScope ["tree", "player", "found", "view", "count"] ["tree", "player"] (fnScope s_views_of) := fnScope_by (by decide +kernel)
abbrev s_rows_of : Stmt := top 7
theorem sc_rows_of : FnScope ["tree", "player", "view", "count", "k"] ["tree", "player"] (fnScope s_rows_of) := fnScope_by (by decide +kernel)
abbrev s_last_row : Stmt := top 8
theorem sc_last_row : FnScope ["view", "index"] ["view"] (fnScope s_last_row) := fnScope_by (by decide +kernel)
abbrev s_keeps : Stmt := top 9
theorem sc_keeps : FnScope ["tree", "rows", "k", "part", "after"] ["tree", "rows"] (fnScope s_keeps) := fnScope_by (by decide +kernel)
abbrev s_remembers : Stmt := top 10
theorem sc_remembers : FnScope ["tree"] ["tree"] (fnScope s_remembers) := fnScope_by (by decide +kernel)
abbrev s_law_cell : Stmt := top 12
theorem sc_law_cell : FnScope ["script", "k"] ["script", "k"] (fnScope s_law_cell) := fnScope_by (by decide +kernel)
abbrev s_law_is_integer : Stmt := top 13
theorem sc_law_is_integer : FnScope ["actual"] ["actual"] (fnScope s_law_is_integer) := fnScope_by (by decide +kernel)
abbrev s_law_row : Stmt := top 14
theorem sc_law_row : FnScope ["cell", "count", "size", "state", "row", "k"] ["cell", "count", "size"] (fnScope s_law_row) := fnScope_by (by decide +kernel)
abbrev s_law_stages : Stmt := top 15
theorem sc_law_stages : FnScope ["script", "most", "stages", "count", "digits", "k", "size", "show"] ["script", "most"] (fnScope s_law_stages) := fnScope_by (by decide +kernel)
abbrev s_law_paths : Stmt := top 16
theorem sc_law_paths : FnScope ["stages", "paths", "stage", "longer", "path", "k"] ["stages"] (fnScope s_law_paths) := fnScope_by (by decide +kernel)
abbrev s_law_view : Stmt := top 17
theorem sc_law_view : FnScope ["stages", "path", "player", "view", "number", "rounds", "k", "stage"] ["stages", "path", "player"] (fnScope s_law_view) := fnScope_by (by decide +kernel)
abbrev s_law_asked : Stmt := top 18
theorem sc_law_asked : FnScope ["stages", "path", "number", "k", "stage", "view"] ["stages", "path"] (fnScope s_law_asked) := fnScope_by (by decide +kernel)
abbrev s_law_met : Stmt := top 19
theorem sc_law_met : FnScope ["stages", "player", "views", "path", "k", "view"] ["stages", "player"] (fnScope s_law_met) := fnScope_by (by decide +kernel)
abbrev s_law_node : Stmt := top 20
theorem sc_law_node : FnScope ["stages", "paid", "path", "index", "k", "stage", "parts"] ["stages", "paid", "path"] (fnScope s_law_node) := fnScope_by (by decide +kernel)
abbrev s_law_are_pairs : Stmt := top 21
theorem sc_law_are_pairs : FnScope ["actual", "due", "k"] ["actual", "due"] (fnScope s_law_are_pairs) := fnScope_by (by decide +kernel)
abbrev s_law_is : Stmt := top 22
theorem sc_law_is : FnScope ["actual", "due"] ["actual", "due"] (fnScope s_law_is) := fnScope_by (by decide +kernel)
abbrev s_law_turned : Stmt := top 23
theorem sc_law_turned : FnScope ["stages", "path", "at", "stage", "parts", "k"] ["stages", "path", "at"] (fnScope s_law_turned) := fnScope_by (by decide +kernel)
abbrev s_law_joined : Stmt := top 24
theorem sc_law_joined : FnScope ["player", "cell", "told", "kind", "first", "second", "later", "parts", "turns"] ["player", "cell"] (fnScope s_law_joined) := fnScope_by (by decide +kernel)
abbrev s_law : Stmt := top 25
theorem sc_law : FnScope ["script", "stages", "paid", "tree", "first", "player", "due", "rows", "pair", "k", "earlier", "turn", "actual", "told", "at", "later", "path", "row", "stage"] ["script"] (fnScope s_law) := fnScope_by (by decide +kernel)
/-- what the walk asks of the module -/
structure Txt (K : PySem.W.Frag) (mg : Str → Option Value) (C_End : Addr) (C_Lot : Addr) (C_Turn : Addr) : Prop where
  n_all : mg "all" = none
  n_bool : mg "bool" = none
  n_enumerate : mg "enumerate" = none
  n_int : mg "int" = none
  n_isinstance : mg "isinstance" = none
  n_len : mg "len" = none
  n_list : mg "list" = none
  n_range : mg "range" = none
  n_sum : mg "sum" = none
  n_tuple : mg "tuple" = none
  cl_End : Cls K C_End
  m_End : mg "End" = some (.ref C_End)
  i_End : InsC K C_End
  a_End_paid : NoAttr K C_End "paid"
  cl_Lot : Cls K C_Lot
  m_Lot : mg "Lot" = some (.ref C_Lot)
  i_Lot : InsC K C_Lot
  a_Lot_parts : NoAttr K C_Lot "parts"
  cl_Turn : Cls K C_Turn
  m_Turn : mg "Turn" = some (.ref C_Turn)
  i_Turn : InsC K C_Turn
  a_Turn_player : NoAttr K C_Turn "player"
  a_Turn_view : NoAttr K C_Turn "view"
  a_Turn_parts : NoAttr K C_Turn "parts"
  kLE : PySem.W.kitOne K (.ref C_Lot) (.ref C_End) = some false
  kTE : PySem.W.kitOne K (.ref C_Turn) (.ref C_End) = some false
  kTL : PySem.W.kitOne K (.ref C_Turn) (.ref C_Lot) = some false
  kLT : PySem.W.kitOne K (.ref C_Lot) (.ref C_Turn) = some false
  ok : True
/-! ratios: an own object of two ints -/
theorem kND : ¬ (("num" : Str) = "den") := by decide +kernel
theorem kDN : ¬ (("den" : Str) = "num") := by decide +kernel
def rf (n d : Int) : List (Str × V) := putF "den" (.int d) (putF "num" (.int n) [])
theorem rf_num (n d : Int) : (rf n d).lookup ("num" : Str) = some (.int n) := by
  unfold rf
  rw [lookup_putF, if_neg kND, lookup_putF, if_pos rfl]
theorem rf_den (n d : Int) : (rf n d).lookup ("den" : Str) = some (.int d) := by
  unfold rf
  rw [lookup_putF, if_pos rfl]
theorem rf_no (n d : Int) {m : Str} (h1 : ¬ m = "num") (h2 : ¬ m = "den") : (rf n d).lookup m = none := by
  unfold rf
  rw [lookup_putF, if_neg h2, lookup_putF, if_neg h1]; rfl
/-- a Ratio stands at p -/
def RatAt (C : Addr) (H : Hp) (p : Addr) (n d : Int) : Prop := ∃ dx, H p = some (.ins C dx (rf n d))
theorem RatAt.keep {C p : Addr} {H H' : Hp} {W : List Addr} {n d : Int} (h : RatAt C H p n d) (k : Keep W H H') (w : p ∉ W) : RatAt C H' p n d := by
  obtain ⟨dx, h⟩ := h
  exact ⟨dx, k _ _ h w⟩
theorem RatAt.keep0 {C p : Addr} {H H' : Hp} {n d : Int} (h : RatAt C H p n d) (k : Keep [] H H') : RatAt C H' p n d := h.keep k (by simp)
/-- the sign of the divisor stands with the common part -/
def sg (n d : Int) : Int := if d < 0 then -((Nat.gcd n.natAbs d.natAbs : Nat) : Int) else ((Nat.gcd n.natAbs d.natAbs : Nat) : Int)
def redN (n d : Int) : Int := n.fdiv (sg n d)
def redD (n d : Int) : Int := d.fdiv (sg n d)
theorem gcd_pos_of {n d : Int} (h : d ≠ 0) : 0 < Nat.gcd n.natAbs d.natAbs := Nat.gcd_pos_of_pos_right _ (by omega)
theorem sg_ne {n d : Int} (h : d ≠ 0) : sg n d ≠ 0 := by
  have := gcd_pos_of (n := n) h
  unfold sg
  split <;> omega
theorem sg_dvd_n (n d : Int) : sg n d ∣ n := by
  have h : ((Nat.gcd n.natAbs d.natAbs : Nat) : Int) ∣ n := Int.ofNat_dvd_left.mpr (Nat.gcd_dvd_left _ _)
  unfold sg
  split
  · exact Int.neg_dvd.mpr h
  · exact h
theorem sg_dvd_d (n d : Int) : sg n d ∣ d := by
  have h : ((Nat.gcd n.natAbs d.natAbs : Nat) : Int) ∣ d := Int.ofNat_dvd_left.mpr (Nat.gcd_dvd_right _ _)
  unfold sg
  split
  · exact Int.neg_dvd.mpr h
  · exact h
theorem fdiv_of_mul {m c s : Int} (hs : s ≠ 0) (h : m = s * c) : m.fdiv s = c := by
  subst h; exact Int.mul_fdiv_cancel_left c hs
theorem red_n {n d : Int} (h : d ≠ 0) : redN n d * sg n d = n := by
  obtain ⟨c, hc⟩ := sg_dvd_n n d
  unfold redN
  rw [fdiv_of_mul (sg_ne h) hc, Int.mul_comm]; exact hc.symm
theorem red_d {n d : Int} (h : d ≠ 0) : redD n d * sg n d = d := by
  obtain ⟨c, hc⟩ := sg_dvd_d n d
  unfold redD
  rw [fdiv_of_mul (sg_ne h) hc, Int.mul_comm]; exact hc.symm
theorem redD_pos {n d : Int} (h : d ≠ 0) : 0 < redD n d := by
  have e := red_d (n := n) h
  have g := gcd_pos_of (n := n) h
  have hne : redD n d ≠ 0 := fun z => by rw [z, Int.zero_mul] at e; exact h e.symm
  rcases Int.lt_or_gt_of_ne hne with hl | hl
  · exfalso
    unfold sg at e
    split at e
    · rename_i hd
      have : 0 ≤ redD n d * -((Nat.gcd n.natAbs d.natAbs : Nat) : Int) := Int.mul_nonneg_of_nonpos_of_nonpos (by omega) (by omega)
      omega
    · rename_i hd
      have : redD n d * ((Nat.gcd n.natAbs d.natAbs : Nat) : Int) < 0 := Int.mul_neg_of_neg_of_pos hl (by omega)
      omega
  · exact hl
/-- the same ratio -/
theorem red_cross {n d : Int} (h : d ≠ 0) : redN n d * d = n * redD n d := by
  have e1 := red_n (n := n) h
  have e2 := red_d (n := n) h
  calc redN n d * d = redN n d * (redD n d * sg n d) := by rw [e2]
    _ = redN n d * sg n d * redD n d := by rw [Int.mul_comm (redD n d), Int.mul_assoc]
    _ = n * redD n d := by rw [e1]
theorem red_gcd {n d : Int} (h : d ≠ 0) : Nat.gcd (redN n d).natAbs (redD n d).natAbs = 1 := by
  have e1 : (redN n d).natAbs * (sg n d).natAbs = n.natAbs := by rw [← Int.natAbs_mul, red_n h]
  have e2 : (redD n d).natAbs * (sg n d).natAbs = d.natAbs := by rw [← Int.natAbs_mul, red_d h]
  have e3 : (sg n d).natAbs = Nat.gcd n.natAbs d.natAbs := by unfold sg; split <;> omega
  have e4 := Nat.gcd_mul_right (redN n d).natAbs (sg n d).natAbs (redD n d).natAbs
  rw [e1, e2, e3] at e4
  have g := gcd_pos_of (n := n) h
  exact Nat.eq_of_mul_eq_mul_right g (by omega)
theorem red_abs_n {n d : Int} (h : d ≠ 0) : (redN n d).natAbs ≤ n.natAbs := by
  have e1 : (redN n d).natAbs * (sg n d).natAbs = n.natAbs := by rw [← Int.natAbs_mul, red_n h]
  have : 0 < (sg n d).natAbs := by have := sg_ne (n := n) h; omega
  rw [← e1]
  exact Nat.le_mul_of_pos_right _ this
theorem red_dvd {n d : Int} (h : d ≠ 0) : redD n d ∣ d := ⟨sg n d, (red_d h).symm⟩
/-- what the rules ask of numbers below a power of two -/
theorem log2_lt9 {i : Int} {b : Nat} (h : i.natAbs < 2 ^ b) (h0 : 0 < b) : i.natAbs.log2 < b := PySem.Flt.log2_lt_of h0 h
section
variable {X : Cx}
def CDivG (_ j : Int) : Prop := j ≠ 0 ∧ j.natAbs.log2 < 9000
theorem op_fdivG : OpR X (binaryOp .FloorDiv) (rI CDivG fun i j => .int (i.fdiv j)) := opI fun i j _ _ _ _ _ hc q =>
  PyProof.Rows.floordiv_int hc.1 q (.inl (PyProof.noPylong_of_log2 hc.2))
def CPowB (i j : Int) : Prop := 2 ≤ i.natAbs ∧ 1 ≤ j ∧ (Builtin.Int.intBits i : Int) * j ≤ 100000000
theorem op_mulO : OpR X (binaryOp .Mult) (rI IntMulOk fun i j => .int (i * j)) := opI fun _ _ _ _ _ _ _ hc q => PyProof.Rows.mul_int q hc
end
def sp_rat (C : Addr) : Sp := fun vs H Q _ => ∃ (x dx : Addr) (n d : Int), vs = [.ref x, .int n, .int d] ∧ d ≠ 0 ∧ d.natAbs < 2 ^ 8000 ∧ H x = some (.ins C dx []) ∧
  ∀ H', Keep [x] H H' → H' x = some (.ins C dx (rf (redN n d) (redD n d))) → Q .non H'

/-- tuples stand -/
def TK (H H' : Hp) : Prop := ∀ b xs, H b = some (.tup xs) → H' b = some (.tup xs)
theorem TK.refl (H : Hp) : TK H H := fun _ _ h => h
theorem TK.trans {H H1 H2 : Hp} (a : TK H H1) (b : TK H1 H2) : TK H H2 := fun c xs h => b c xs (a c xs h)
theorem TK.new {H : Hp} {p : Addr} {o : HO} (h : H p = none) : TK H (upd H p o) := fun b xs q => by rw [upd_ne (ne_of_none q h)]; exact q
theorem TK.lst {H : Hp} {p : Addr} {o : HO} {ys : List V} (h : H p = some (.lst ys)) : TK H (upd H p o) := fun b xs q => by
  rw [upd_ne (ne_of q h (by intro z; cases z))]; exact q
theorem Keep.tk {H H' : Hp} (k : Keep [] H H') : TK H H' := fun b xs q => k b _ q (by simp)
theorem Keep.tk1 {H H' : Hp} {p : Addr} {ys : List V} (k : Keep [p] H H') (h : H p = some (.lst ys)) : TK H H' := fun b xs q => k b _ q (by
  have := ne_of q h (by intro z; cases z)
  simpa using this)

/-! data of tuples: what never changes -/
mutual
inductive TD (H : Hp) : V → PyData → Prop
  | non : TD H .non .none
  | bl (b : Bool) : TD H (.bl b) (.bool b)
  | int (i : Int) : TD H (.int i) (.int i)
  | str (x : Str) : TD H (.str x) (.str x)
  | tup {a : Addr} {xs : List V} {ds : List PyData} : H a = some (.tup xs) → TDs H xs ds → TD H (.ref a) (.tuple ds)
inductive TDs (H : Hp) : List V → List PyData → Prop
  | nil : TDs H [] []
  | cons {v : V} {vs : List V} {d : PyData} {ds : List PyData} : TD H v d → TDs H vs ds → TDs H (v :: vs) (d :: ds)
end
mutual
theorem TD.tk {H H' : Hp} (k : TK H H') : ∀ {d : PyData} {v : V}, TD H v d → TD H' v d
  | _, _, .non => .non
  | _, _, .bl b => .bl b
  | _, _, .int i => .int i
  | _, _, .str x => .str x
  | _, _, .tup h t => .tup (k _ _ h) (TDs.tk k t)
theorem TDs.tk {H H' : Hp} (k : TK H H') : ∀ {ds : List PyData} {vs : List V}, TDs H vs ds → TDs H' vs ds
  | _, _, .nil => .nil
  | _, _, .cons h t => .cons (TD.tk k h) (TDs.tk k t)
end
mutual
theorem TD.dp {K : PySem.W.Frag} {H : Hp} : ∀ {d : PyData} {v : V}, TD H v d → Dp K H v d
  | _, _, .non => .non
  | _, _, .bl b => .bl b
  | _, _, .int i => .int i
  | _, _, .str x => .str x
  | _, _, .tup h t => .tup (SqT.of h) (TDs.dp t)
theorem TDs.dp {K : PySem.W.Frag} {H : Hp} : ∀ {ds : List PyData} {vs : List V}, TDs H vs ds → DpAll K H vs ds
  | _, _, .nil => .nil
  | _, _, .cons h t => .cons (TD.dp h) (TDs.dp t)
end
theorem TDs.length {H : Hp} : ∀ {vs : List V} {ds : List PyData}, TDs H vs ds → vs.length = ds.length
  | _, _, .nil => rfl
  | _, _, .cons _ t => by rw [List.length_cons, List.length_cons, t.length]
theorem TDs.get {H : Hp} : ∀ {vs : List V} {ds : List PyData}, TDs H vs ds → ∀ {i : Nat} {d : PyData}, ds[i]? = some d → ∃ v, vs[i]? = some v ∧ TD H v d
  | _, _, .nil, i, d, e => by simp at e
  | _, _, .cons h t, 0, d, e => by simp at e; subst e; exact ⟨_, rfl, h⟩
  | _, _, .cons h t, i + 1, d, e => by
    obtain ⟨v, h1, h2⟩ := t.get (i := i) (by simpa using e)
    exact ⟨v, by simpa using h1, h2⟩
theorem TDs.append {H : Hp} : ∀ {vs ws : List V} {ds es : List PyData}, TDs H vs ds → TDs H ws es → TDs H (vs ++ ws) (ds ++ es)
  | _, _, _, _, .nil, s => s
  | _, _, _, _, .cons h t, s => .cons h (t.append s)
theorem TDs.take {H : Hp} : ∀ {vs : List V} {ds : List PyData} (n : Nat), TDs H vs ds → TDs H (vs.take n) (ds.take n)
  | _, _, 0, _ => .nil
  | _, _, _ + 1, .nil => .nil
  | _, _, n + 1, .cons h t => .cons h (t.take n)
theorem TDs.reverse {H : Hp} : ∀ {vs : List V} {ds : List PyData}, TDs H vs ds → TDs H vs.reverse ds.reverse
  | _, _, .nil => .nil
  | _, _, .cons h t => by rw [List.reverse_cons, List.reverse_cons]; exact t.reverse.append (.cons h .nil)
theorem TDs.snoc {H : Hp} {vs : List V} {ds : List PyData} {v : V} {d : PyData} (t : TDs H vs ds) (h : TD H v d) : TDs H (vs ++ [v]) (ds ++ [d]) := t.append (.cons h .nil)
theorem TDs.nil_of {H : Hp} {vs : List V} (t : TDs H vs []) : vs = [] := by cases t; rfl
/-! events and views -/
abbrev Ev := Str × List Int
def dEv (e : Ev) : PyData := .tuple (.str e.1 :: e.2.map PyData.int)
def dView (L : List Ev) : PyData := .tuple (L.map dEv)
abbrev Row := List Ev × Int
def dRow (r : Row) : PyData := .tuple [dView r.1, .int r.2]
def dRowO : Option Row → PyData
  | none => .none
  | some r => dRow r
theorem td_ints {H : Hp} : ∀ l : List Int, TDs H (l.map V.int) (l.map PyData.int)
  | [] => .nil
  | a :: r => .cons (.int a) (td_ints r)
def isDid (e : Ev) : Bool := decide (e.1 = "did")
def lastR : List Ev → Option Row
  | [] => none
  | e :: r => if isDid e = true then some (r.reverse, e.2.headD 0) else lastR r
def lastRow (L : List Ev) : Option Row := lastR L.reverse
def rowsR : List Ev → List Row
  | [] => []
  | e :: r => if isDid e = true then rowsR r ++ [(r.reverse, e.2.headD 0)] else rowsR r
theorem rowsR_cons (e : Ev) (r : List Ev) : rowsR (e :: r) = if isDid e = true then rowsR r ++ [(r.reverse, e.2.headD 0)] else rowsR r := rfl
theorem lastR_cons (e : Ev) (r : List Ev) : lastR (e :: r) = if isDid e = true then some (r.reverse, e.2.headD 0) else lastR r := rfl
def allRows (L : List Ev) : List Row := rowsR L.reverse
theorem allRows_snoc (L : List Ev) (e : Ev) : allRows (L ++ [e]) = if isDid e = true then allRows L ++ [(L, e.2.headD 0)] else allRows L := by
  unfold allRows
  rw [List.reverse_append]
  show rowsR (e :: L.reverse) = _
  rw [rowsR, List.reverse_reverse]
theorem lastR_rows : ∀ (R : List Ev), rowsR R = (match lastR R with | none => [] | some (V, k) => rowsR V.reverse ++ [(V, k)])
  | [] => rfl
  | e :: r => by
    rw [rowsR_cons, lastR_cons]
    by_cases h : isDid e = true
    · rw [if_pos h, if_pos h]; simp only [List.reverse_reverse]
    · rw [if_neg h, if_neg h]; exact lastR_rows r
theorem lastRow_rows (L : List Ev) : allRows L = (match lastRow L with | none => [] | some (V, k) => allRows V ++ [(V, k)]) := lastR_rows L.reverse
theorem lastR_len : ∀ (R : List Ev) {V : List Ev} {k : Int}, lastR R = some (V, k) → V.length < R.length
  | [], V, k, h => by cases h
  | e :: r, V, k, h => by
    rw [lastR_cons] at h
    by_cases g : isDid e = true
    · rw [if_pos g] at h
      cases h
      simp
    · rw [if_neg g] at h
      have := lastR_len r h
      simp; omega
theorem lastRow_len {L V : List Ev} {k : Int} (h : lastRow L = some (V, k)) : V.length < L.length := by
  have := lastR_len _ h
  simpa using this
theorem lastRow_last (L : List Ev) : lastRow L = (allRows L).getLast? := by
  rw [lastRow_rows]
  cases h : lastRow L with
  | none => rfl
  | some x => simp
theorem rowsR_take : ∀ (R : List Ev) {j : Nat} {V : List Ev} {k : Int}, (rowsR R)[j]? = some (V, k) → rowsR V.reverse = (rowsR R).take j
  | [], j, V, k, h => by simp [rowsR] at h
  | e :: r, j, V, k, h => by
    rw [rowsR_cons] at h ⊢
    by_cases g : isDid e = true
    · rw [if_pos g] at h ⊢
      by_cases hj : j < (rowsR r).length
      · rw [List.getElem?_append_left hj] at h
        rw [List.take_append_of_le_length (Nat.le_of_lt hj)]
        exact rowsR_take r h
      · have hj' : j = (rowsR r).length := by
          have := (List.getElem?_eq_some_iff.mp h).1
          rw [List.length_append] at this
          simp at this; omega
        subst hj'
        rw [List.getElem?_append_right (Nat.le_refl _), Nat.sub_self] at h
        have e1 : r.reverse = V := congrArg Prod.fst (Option.some.inj h)
        rw [← e1, List.reverse_reverse, List.take_left]
    · rw [if_neg g] at h ⊢
      exact rowsR_take r h
theorem allRows_take {L : List Ev} {j : Nat} {V : List Ev} {k : Int} (h : (allRows L)[j]? = some (V, k)) : allRows V = (allRows L).take j := rowsR_take _ h
theorem rowsR_mem : ∀ (R : List Ev) {V : List Ev} {k : Int}, (V, k) ∈ rowsR R → ∃ M, R.reverse = V ++ M
  | [], V, k, h => by cases h
  | e :: r, V, k, h => by
    rw [rowsR_cons] at h
    rw [List.reverse_cons]
    by_cases g : isDid e = true
    · rw [if_pos g] at h
      rcases List.mem_append.mp h with h | h
      · obtain ⟨M, e1⟩ := rowsR_mem r h
        exact ⟨M ++ [e], by rw [e1, List.append_assoc]⟩
      · have := List.mem_singleton.mp h
        cases this
        exact ⟨[e], rfl⟩
    · rw [if_neg g] at h
      obtain ⟨M, e1⟩ := rowsR_mem r h
      exact ⟨M ++ [e], by rw [e1, List.append_assoc]⟩
theorem allRows_mem {L V : List Ev} {k : Int} (h : (V, k) ∈ allRows L) : ∃ M, L = V ++ M := by
  obtain ⟨M, e⟩ := rowsR_mem _ h
  exact ⟨M, by rw [← e, List.reverse_reverse]⟩
theorem rowsR_len : ∀ R : List Ev, (rowsR R).length ≤ R.length
  | [] => Nat.le_refl _
  | e :: r => by
    have h := rowsR_len r
    rw [rowsR_cons]
    split
    · rw [List.length_append]; simp; omega
    · simp; omega
theorem allRows_len (L : List Ev) : (allRows L).length ≤ L.length := by
  have h := rowsR_len L.reverse
  rw [List.length_reverse] at h
  exact h
/-- every move made tells it -/
def Good (L : List Ev) : Prop := ∀ e ∈ L, isDid e = true → e.2 ≠ []
theorem Good.pre {L V M : List Ev} (g : Good L) (h : L = V ++ M) : Good V := fun e he => g e (by rw [h]; exact List.mem_append_left _ he)
theorem lastRow_pre {L V : List Ev} {k : Int} (h : lastRow L = some (V, k)) : ∃ M, L = V ++ M := by
  refine allRows_mem (k := k) ?_
  rw [lastRow_rows, h]
  simp
def sp_last_row : Sp := fun vs H Q _ => ∃ (v : V) (L : List Ev), vs = [v] ∧ TD H v (dView L) ∧ L.length ≤ 100000 ∧ Good L ∧ ∀ r H', Keep [] H H' → TD H' r (dRowO (lastRow L)) → Q r H'
theorem td_view {H : Hp} {v : V} {ds : List PyData} (h : TD H v (.tuple ds)) : ∃ a xs, v = .ref a ∧ H a = some (.tup xs) ∧ TDs H xs ds := by
  cases h with
  | tup h t => exact ⟨_, _, rfl, h, t⟩

theorem un65 {k : Nat} {A : Around} (r : Room k A) : A.units + 65 < cLine := by have := r.un; omega
section
variable {P : Program} {w : World} {K : PySem.W.Frag} {mg : Str → Option Value} {base : Heap} {C_End : Addr} {C_Lot : Addr} {C_Turn : Addr}
theorem ok_last_row {f : Addr} {fd : FuncData} (D : C8.Def K mg "last_row" s_last_row f fd) (b : Binds K fd ["view"] []) (T : Txt K mg C_End C_Lot C_Turn) : C8.Cal P w K mg base 1 "last_row" sp_last_row [] := by
  refine cal0 D b .nil sc_last_row (fun vs H Q E h => ?_) (fun cdv A outer s H vs Q E hr h => ?_)
  · obtain ⟨v, L, rfl, _⟩ := h
    rfl
  · obtain ⟨v, L, rfl, hv, hn, hg, k⟩ := h
    obtain ⟨a, xs, rfl, ha, ht⟩ := td_view hv
    have hlen : xs.length = L.length := by rw [ht.length, List.length_map]
    have hrg : RgC ((xs.length : Int) - 1) (-1) (-1) L.length := by
      have z := RgC.neg (i := (xs.length : Int) - 1) (j := -1) (by omega) (by omega) (by decide) (by decide)
      have e : ((xs.length : Int) - 1 - -1).toNat = L.length := by omega
      rw [e] at z; exact z
    refine ⟨_, (pss_cons (ps_for PassesOwn.never rfl (pi_range3 (by rfl) T.n_range (pa_cons (pe_op op_sub (pe_callB call_len_seq (by rfl) T.n_len bo_len (pa_cons (pv 0) pa_nil)) pe_int) (pa_cons (pe_un un_neg pe_int) (pa_cons (pe_un un_neg pe_int) pa_nil)))) (pg_name (i := 1) sc_last_row.nd rfl (by first | exact Or.inl rfl | exact Or.inr rfl))
  (pss_one (ps_if (pt_cmpR op_eq (pe_ix ix_tup (pe_ix ix_tup (pv 0) (pv 1) (fun _ _ => rfl)) pe_int (fun _ _ => rfl)) pe_str (nomark _))
    (pss_one (ps_ret (pe_tup (pa_cons (pe_slice sl_tup (pv 0) po_none (po_some (pv 1))) (pa_cons (pe_ix ix_tup (pe_ix ix_tup (pv 0) (pv 1) (fun _ _ => rfl)) pe_int (fun _ _ => rfl)) pa_nil)))))
    pss_nil)))
(pss_one (ps_ret pe_non))), ?_⟩
    refine ⟨_, rfl, _, _, rfl, .inr (SqT.of ha), _, _, rfl, rfl, _, rfl, _, rfl, _, _, _, L.length, rfl, hrg, for_rangeC (lo := (xs.length : Int) - 1) (c := -1) (n := L.length)
      (fun i σ H' => ∃ v2, σ = [some (.ref a), v2] ∧ H' = H ∧ lastRow L = lastRow (L.take (L.length - i))) ⟨none, rfl, rfl, by rw [Nat.sub_zero, List.take_length]⟩ ?_ ?_⟩
    · rintro i σ H' hi ⟨v2, rfl, rfl, hL⟩
      obtain ⟨m, hm⟩ : ∃ m, L.length - i = m + 1 := ⟨L.length - i - 1, by omega⟩
      have hmL : m < L.length := by omega
      have e1 : (xs.length : Int) - 1 + (i : Nat) * -1 = (m : Int) := by omega
      rw [e1]
      have hLm : L[m]? = some L[m] := List.getElem?_eq_getElem hmL
      obtain ⟨x, hx, hd⟩ := ht.get (i := m) (d := dEv L[m]) (by rw [List.getElem?_map, hLm]; rfl)
      obtain ⟨ea, es, rfl, he, hes⟩ := td_view hd
      obtain ⟨x0, h0, d0⟩ := hes.get (i := 0) (d := .str L[m].1) rfl
      cases d0
      have etake : (L.take (m + 1)).reverse = L[m] :: (L.take m).reverse := by
        rw [List.take_add_one, hLm]; simp
      have elast : lastRow L = if isDid L[m] = true then some (L.take m, L[m].2.headD 0) else lastRow (L.take m) := by
        rw [hL, hm]
        unfold lastRow
        rw [etake]
        show (if isDid L[m] = true then some ((L.take m).reverse.reverse, L[m].2.headD 0) else lastR (L.take m).reverse) = _
        rw [List.reverse_reverse]
      refine ⟨_, rfl, _, rfl, _, _, _, _, rfl, rfl, SqT.of ha, atI_nat hx, _, _, _, _, rfl, rfl, SqT.of he, atI_nat (j := 0) h0, rfl, _, rfl, iteD (fun e => ?_) (fun e => ?_)⟩
      · have hdid : isDid L[m] = true := decide_eq_true (V.str.inj e)
        rw [if_pos hdid] at elast
        obtain ⟨kk, hkk⟩ : ∃ kk, L[m].2[0]? = some kk := by
          cases q : L[m].2 with
          | nil => exact absurd q (hg _ (List.getElem_mem hmL) hdid)
          | cons z r => exact ⟨z, rfl⟩
        obtain ⟨x1, h1, d1⟩ := hes.get (i := 1) (d := .int kk) (by
          show ((L[m].2.map PyData.int)[0]?) = _
          rw [List.getElem?_map, hkk]; rfl)
        cases d1
        have hhd : L[m].2.headD 0 = kk := by
          cases q : L[m].2 with
          | nil => rw [q] at hkk; cases hkk
          | cons z r => rw [q] at hkk; exact Option.some.inj hkk
        have hcut : ¬ (HT.sIx xs.length 0 none = 0 ∧ HT.sIx xs.length xs.length (some (m : Int)) = xs.length) := by
          rintro ⟨_, z⟩
          rw [HT.sIx_nat] at z
          omega
        refine ⟨_, rfl, _, rfl, _, rfl, _, _, rfl, SqT.of ha, hcut, fun p hp => ?_⟩
        have hnew : ∀ (b : Addr) (o : HO), H' b = some o → upd H' p (.tup (cutV xs none (some (m : Int)))) b = some o := fun b o q => by rw [upd_ne (ne_of_none q hp)]; exact q
        refine ⟨_, rfl, _, rfl, _, _, _, _, rfl, rfl, SqT.of (hnew _ _ ha), atI_nat hx, _, _, _, _, rfl, rfl, SqT.of (hnew _ _ he), atI_nat (j := 1) h1, by show 2 ≤ sizeLine; decide, fun r hr' => ?_⟩
        have ecut : cutV xs none (some (m : Int)) = xs.take m := by
          show (xs.drop (HT.sIx xs.length 0 none)).take (HT.sIx xs.length xs.length (some (m : Int)) - HT.sIx xs.length 0 none) = xs.take m
          rw [HT.sIx_none, HT.sIx_nat, List.drop_zero, Nat.sub_zero, Nat.min_eq_left (by omega)]
        have kk2 : Keep [] H' (upd (upd H' p (.tup (cutV xs none (some (m : Int))))) r (.tup [.ref p, .int kk])) := (Keep.new hp).then_new hr'
        have npr : p ≠ r := ne_of_none (H := upd H' p _) upd_same hr'
        refine k _ _ kk2 ?_
        rw [elast, hhd]
        refine .tup upd_same (.cons (.tup (by rw [upd_ne npr]; exact upd_same) ?_) (.cons (.int kk) .nil))
        have t9 := (ht.take m).tk kk2.tk
        rw [← List.map_take] at t9
        exact Eq.mpr (congrArg (fun z => TDs _ z _) ecut) t9
      · have hdid : ¬ isDid L[m] = true := fun z => e (congrArg V.str (of_decide_eq_true z))
        rw [if_neg hdid] at elast
        refine ⟨_, rfl, rfl, ?_⟩
        have : L.length - (i + 1) = m := by omega
        rw [this]; exact elast
    · rintro σ H' ⟨v2, rfl, rfl, hL⟩
      refine k _ _ (Keep.refl _ _) ?_
      rw [hL, Nat.sub_self]
      exact .non
end
theorem tyT {K : PySem.W.Frag} {H : Hp} {a : Addr} {xs : List V} (h : H a = some (.tup xs)) : TyX K H (.ref a) (.type "tuple") := .base (.tup h)
def Lay (d : PyData) : Prop := SeqAt.shaped d = true
theorem canLay_ints : ∀ l : List Int, PyData.canLayAll0 (l.map PyData.int) = true
  | [] => rfl
  | a :: r => by simp [PyData.canLayAll0, PyData.canLay0, canLay_ints r]
theorem depth_ints : ∀ l : List Int, PyData.depthAll (l.map PyData.int) ≤ 1
  | [] => by simp [PyData.depthAll]
  | a :: r => by
    have := depth_ints r
    simp only [List.map_cons, PyData.depthAll, PyData.depth]
    omega
def OkE (e : Ev) : Prop := PyData.strOk e.1 = true
theorem canLay_ev {e : Ev} (h : OkE e) : (dEv e).canLay0 = true := by
  show ((PyData.str e.1).canLay0 && PyData.canLayAll0 (e.2.map PyData.int)) = true
  rw [canLay_ints, Bool.and_true]; exact h
theorem depth_ev (e : Ev) : (dEv e).depth ≤ 2 := by
  have := depth_ints e.2
  simp only [dEv, PyData.depth, PyData.depthAll]
  omega
theorem canLay_evs : ∀ {L : List Ev}, (∀ e ∈ L, OkE e) → PyData.canLayAll0 (L.map dEv) = true
  | [], _ => rfl
  | e :: r, h => by
    rw [List.map_cons]
    show ((dEv e).canLay0 && PyData.canLayAll0 (r.map dEv)) = true
    rw [canLay_ev (h e (List.mem_cons_self ..)), canLay_evs fun z hz => h z (List.mem_cons_of_mem _ hz)]; rfl
theorem depth_evs : ∀ L : List Ev, PyData.depthAll (L.map dEv) ≤ 2
  | [] => by simp [PyData.depthAll]
  | e :: r => by
    have h1 := depth_evs r
    have h2 := depth_ev e
    simp only [List.map_cons, PyData.depthAll]
    omega
theorem shaped_row {r : Row} (h : ∀ e ∈ r.1, OkE e) : SeqAt.shaped (dRow r) = true := by
  unfold SeqAt.shaped
  rw [Bool.and_eq_true]
  constructor
  · show (PyData.canLayAll0 (r.1.map dEv) && true) = true
    rw [canLay_evs h]; rfl
  · have := depth_evs r.1
    refine decide_eq_true ?_
    simp only [dRow, dView, PyData.depth, PyData.depthAll]
    omega
/-- a view grows by an event -/
theorem td_grow {H : Hp} {v : V} {L : List Ev} (h : TD H v (dView L)) : ∃ a xs, v = .ref a ∧ H a = some (.tup xs) ∧ TDs H xs (L.map dEv) ∧ xs.length = L.length := by
  obtain ⟨a, xs, e, ha, t⟩ := td_view h
  exact ⟨a, xs, e, ha, t, by rw [t.length, List.length_map]⟩
theorem okE_of {e : Ev} (h : PyData.strOk e.1 = true) : OkE e := h
theorem ok_round (l : List Int) : OkE ("round", l) := okE_of (by show PyData.strOk ("round" : Str) = true; decide +kernel)
theorem ok_told (l : List Int) : OkE ("told", l) := okE_of (by show PyData.strOk ("told" : Str) = true; decide +kernel)
theorem ok_move (l : List Int) : OkE ("move", l) := okE_of (by show PyData.strOk ("move" : Str) = true; decide +kernel)
theorem ok_did (l : List Int) : OkE ("did", l) := okE_of (by show PyData.strOk ("did" : Str) = true; decide +kernel)
theorem nd_round (l : List Int) : isDid ("round", l) = false := by show decide (("round" : Str) = "did") = false; decide +kernel
theorem nd_told (l : List Int) : isDid ("told", l) = false := by show decide (("told" : Str) = "did") = false; decide +kernel
theorem nd_move (l : List Int) : isDid ("move", l) = false := by show decide (("move" : Str) = "did") = false; decide +kernel
theorem yd_did (l : List Int) : isDid ("did", l) = true := by show decide (("did" : Str) = "did") = true; decide +kernel
theorem good_snoc {L : List Ev} {e : Ev} (g : Good L) (h : e.2 ≠ []) : Good (L ++ [e]) := fun z hz hd => by
  rcases List.mem_append.mp hz with q | q
  · exact g z q hd
  · rw [List.mem_singleton.mp q]; exact h
theorem oks_snoc {L : List Ev} {e : Ev} (g : ∀ z ∈ L, OkE z) (h : OkE e) : ∀ z ∈ L ++ [e], OkE z := fun z hz => by
  rcases List.mem_append.mp hz with q | q
  · exact g z q
  · rw [List.mem_singleton.mp q]; exact h
theorem rows_same {L : List Ev} {e : Ev} (h : isDid e = false) : allRows (L ++ [e]) = allRows L := by
  rw [allRows_snoc, if_neg (by rw [h]; simp)]
/-- view + (event,): once both tuples are made -/
theorem add_ev {K : PySem.W.Frag} {H : Hp} {v : V} {L : List Ev} (e : Ev) {Q : VK} {t1 t2 : Addr} (hv : TD H v (dView L)) (n1 : H t1 = none) (n2 : upd H t1 (.tup (.str e.1 :: e.2.map V.int)) t2 = none) (hl : L.length ≤ 100000)
    (k : ∀ (p : Addr) (H' : Hp), Keep [] H H' → TD H' (.ref p) (dView (L ++ [e])) → Q (.ref p) H') : rCatA K v (.ref t2) (upd (upd H t1 (.tup (.str e.1 :: e.2.map V.int))) t2 (.tup [.ref t1])) Q := by
  have kk : Keep [] H (upd (upd H t1 (.tup (.str e.1 :: e.2.map V.int))) t2 (.tup [.ref t1])) := (Keep.new n1).then_new n2
  obtain ⟨a, xs, rfl, ha, hx⟩ := td_view (hv.tk kk.tk)
  have n12 : t1 ≠ t2 := ne_of_none (H := upd H t1 _) upd_same n2
  have h1 : upd (upd H t1 (.tup (.str e.1 :: e.2.map V.int))) t2 (.tup [.ref t1]) t1 = some (.tup (.str e.1 :: e.2.map V.int)) := by rw [upd_ne n12]; exact upd_same
  have hlx : xs.length = L.length := by rw [hx.length, List.length_map]
  have hcat := hx.snoc (TD.tup h1 (.cons (.str e.1) (td_ints e.2)))
  have e1 : L.map dEv ++ [PyData.tuple (.str e.1 :: e.2.map PyData.int)] = (L ++ [e]).map dEv := by rw [List.map_append]; rfl
  rw [e1] at hcat
  refine ⟨a, t2, xs, [.ref t1], rfl, rfl, SqT.of ha, SqT.of upd_same, by simp only [List.length_cons, List.length_nil]; exact smallM (by omega), fun e0 => ?_, fun _ z => (by cases z), fun _ _ p hp => ?_⟩
  · subst e0
    exact k t2 _ kk (.tup upd_same hcat)
  · exact k p _ (kk.then_new hp) (.tup upd_same (hcat.tk (TK.new hp)))

/-! plain data: == is = -/
mutual
def PlD : PyData → Bool
  | .none => true
  | .bool _ => false
  | .int _ => true
  | .str _ => true
  | .list _ => false
  | .tuple xs => PlDs xs
  | .dict _ => false
def PlDs : List PyData → Bool
  | [] => true
  | d :: ds => PlD d && PlDs ds
end
mutual
theorem eqv_pl : ∀ (d e : PyData), PlD d = true → PlD e = true → PyData.eqv d e = true → d = e
  | .none, .none, _, _, _ => rfl
  | .int i, .int j, _, _, h => by
    have : i = j := by simpa [PyData.eqv] using h
    rw [this]
  | .str i, .str j, _, _, h => by
    have : i = j := by simpa [PyData.eqv] using h
    rw [this]
  | .tuple xs, .tuple ys, hx, hy, h => by
    rw [eqvs_pl xs ys (by simpa [PlD] using hx) (by simpa [PlD] using hy) (by simpa [PyData.eqv] using h)]
  | .none, .int _, _, _, h => by simp [PyData.eqv] at h
  | .none, .str _, _, _, h => by simp [PyData.eqv] at h
  | .none, .tuple _, _, _, h => by simp [PyData.eqv] at h
  | .int _, .none, _, _, h => by simp [PyData.eqv] at h
  | .int _, .str _, _, _, h => by simp [PyData.eqv] at h
  | .int _, .tuple _, _, _, h => by simp [PyData.eqv] at h
  | .str _, .none, _, _, h => by simp [PyData.eqv] at h
  | .str _, .int _, _, _, h => by simp [PyData.eqv] at h
  | .str _, .tuple _, _, _, h => by simp [PyData.eqv] at h
  | .tuple _, .none, _, _, h => by simp [PyData.eqv] at h
  | .tuple _, .int _, _, _, h => by simp [PyData.eqv] at h
  | .tuple _, .str _, _, _, h => by simp [PyData.eqv] at h
  | .bool _, _, h, _, _ => by simp [PlD] at h
  | .list _, _, h, _, _ => by simp [PlD] at h
  | .dict _, _, h, _, _ => by simp [PlD] at h
  | _, .bool _, _, h, _ => by simp [PlD] at h
  | _, .list _, _, h, _ => by simp [PlD] at h
  | _, .dict _, _, h, _ => by simp [PlD] at h
theorem eqvs_pl : ∀ (xs ys : List PyData), PlDs xs = true → PlDs ys = true → PyData.eqvAll xs ys = true → xs = ys
  | [], [], _, _, _ => rfl
  | d :: ds, e :: es, hx, hy, h => by
    simp only [PlDs, Bool.and_eq_true] at hx hy
    simp only [PyData.eqvAll, Bool.and_eq_true] at h
    rw [eqv_pl d e hx.1 hy.1 h.1, eqvs_pl ds es hx.2 hy.2 h.2]
  | [], _ :: _, _, _, h => by simp [PyData.eqvAll] at h
  | _ :: _, [], _, _, h => by simp [PyData.eqvAll] at h
end
theorem pl_ints : ∀ l : List Int, PlDs (l.map PyData.int) = true
  | [] => rfl
  | a :: r => by simp [PlDs, PlD, pl_ints r]
theorem pl_ev (e : Ev) : PlD (dEv e) = true := by
  show PlDs (.str e.1 :: e.2.map PyData.int) = true
  simp [PlDs, PlD, pl_ints]
theorem pl_evs : ∀ L : List Ev, PlDs (L.map dEv) = true
  | [] => rfl
  | e :: r => by
    rw [List.map_cons]
    show (PlD (dEv e) && PlDs (r.map dEv)) = true
    rw [pl_ev, pl_evs r]; rfl
theorem pl_view (L : List Ev) : PlD (dView L) = true := by
  show PlDs (L.map dEv) = true
  exact pl_evs L
theorem pl_row (r : Row) : PlD (dRow r) = true := by
  show (PlD (dView r.1) && (true && true)) = true
  rw [pl_view]; rfl
theorem ints_inj : ∀ {l m : List Int}, l.map PyData.int = m.map PyData.int → l = m
  | [], [], _ => rfl
  | a :: l, b :: m, h => by
    simp only [List.map_cons, List.cons.injEq, PyData.int.injEq] at h
    rw [h.1, ints_inj h.2]
  | [], _ :: _, h => by simp at h
  | _ :: _, [], h => by simp at h
theorem dEv_inj {e f : Ev} (h : dEv e = dEv f) : e = f := by
  unfold dEv at h
  simp only [PyData.tuple.injEq, List.cons.injEq, PyData.str.injEq] at h
  exact Prod.ext h.1 (ints_inj h.2)
theorem evs_inj : ∀ {l m : List Ev}, l.map dEv = m.map dEv → l = m
  | [], [], _ => rfl
  | a :: l, b :: m, h => by
    simp only [List.map_cons, List.cons.injEq] at h
    rw [dEv_inj h.1, evs_inj h.2]
  | [], _ :: _, h => by simp at h
  | _ :: _, [], h => by simp at h
theorem dView_inj {l m : List Ev} (h : dView l = dView m) : l = m := by
  unfold dView at h
  exact evs_inj (PyData.tuple.inj h)
theorem dRow_inj {r s : Row} (h : dRow r = dRow s) : r = s := by
  unfold dRow at h
  simp only [PyData.tuple.injEq, List.cons.injEq, PyData.int.injEq] at h
  exact Prod.ext (dView_inj h.1) h.2.1
theorem dRowO_inj {r s : Option Row} (h : dRowO r = dRowO s) : r = s := by
  cases r with
  | none =>
    cases s with
    | none => rfl
    | some s => unfold dRowO dRow at h; cases h
  | some r =>
    cases s with
    | none => unfold dRowO dRow at h; cases h
    | some s => rw [dRow_inj h]
theorem pl_rowO (r : Option Row) : PlD (dRowO r) = true := by
  cases r with
  | none => rfl
  | some r => exact pl_row r
theorem canLay_view {L : List Ev} (h : ∀ e ∈ L, OkE e) : (dView L).canLay0 = true := canLay_evs h
theorem shaped_view {L : List Ev} (h : ∀ e ∈ L, OkE e) : SeqAt.shaped (dView L) = true := by
  unfold SeqAt.shaped
  rw [Bool.and_eq_true]
  refine ⟨canLay_view h, decide_eq_true ?_⟩
  have := depth_evs L
  simp only [dView, PyData.depth]
  omega
theorem shaped_rowO {r : Option Row} (h : ∀ q, r = some q → ∀ e ∈ q.1, OkE e) : SeqAt.shaped (dRowO r) = true := by
  cases r with
  | none => rfl
  | some r => exact shaped_row (h r rfl)
theorem shaped_list {ds : List PyData} (h : ∀ d ∈ ds, SeqAt.shaped d = true) (h2 : ∀ d ∈ ds, d.depth ≤ 10) : SeqAt.shaped (.list ds) = true := by
  have g1 : ∀ {ds : List PyData}, (∀ d ∈ ds, SeqAt.shaped d = true) → PyData.canLayAll0 ds = true := by
    intro ds h
    induction ds with
    | nil => rfl
    | cons d r ih =>
      show (d.canLay0 && PyData.canLayAll0 r) = true
      rw [SeqAt.canLay_of_shaped (h d (List.mem_cons_self ..)), ih fun x hx => h x (List.mem_cons_of_mem _ hx)]; rfl
  have g2 : ∀ {ds : List PyData}, (∀ d ∈ ds, d.depth ≤ 10) → PyData.depthAll ds ≤ 10 := by
    intro ds h
    induction ds with
    | nil => simp [PyData.depthAll]
    | cons d r ih =>
      have h1 := h d (List.mem_cons_self ..)
      have h2 := ih fun x hx => h x (List.mem_cons_of_mem _ hx)
      simp only [PyData.depthAll]; omega
  unfold SeqAt.shaped
  rw [Bool.and_eq_true]
  refine ⟨g1 h, decide_eq_true ?_⟩
  have := g2 h2
  simp only [PyData.depth]
  omega
theorem depth_row (r : Row) : (dRow r).depth ≤ 10 := by
  have := depth_evs r.1
  simp only [dRow, dView, PyData.depth, PyData.depthAll]
  omega
instance : DecidableEq Row := inferInstanceAs (DecidableEq (List (Str × List Int) × Int))
theorem eqv_row {r s : Row} (hr : ∀ e ∈ r.1, OkE e) : PyData.eqv (dRow r) (dRow s) = decide (r = s) := by
  by_cases h : r = s
  · subst h
    rw [decide_eq_true rfl]
    exact SeqAt.eqv_refl _ (SeqAt.canLay_of_shaped (shaped_row hr))
  · rw [decide_eq_false h]
    cases q : PyData.eqv (dRow r) (dRow s) with
    | false => rfl
    | true => exact absurd (dRow_inj (eqv_pl _ _ (pl_row r) (pl_row s) q)) h
theorem eqv_rowO {r s : Option Row} (hr : ∀ q, r = some q → ∀ e ∈ q.1, OkE e) : PyData.eqv (dRowO r) (dRowO s) = decide (r = s) := by
  by_cases h : r = s
  · subst h
    rw [decide_eq_true rfl]
    exact SeqAt.eqv_refl _ (SeqAt.canLay_of_shaped (shaped_rowO hr))
  · rw [decide_eq_false h]
    cases q : PyData.eqv (dRowO r) (dRowO s) with
    | false => rfl
    | true => exact absurd (dRowO_inj (eqv_pl _ _ (pl_rowO r) (pl_rowO s) q)) h
/-- view + events, once their tuple is made -/
theorem add_evs {K : PySem.W.Frag} {H : Hp} {v : V} {L M : List Ev} {Q : VK} {t2 : Addr} {ys : List V} (hv : TD H v (dView L)) (h2 : H t2 = some (.tup ys)) (hy : TDs H ys (M.map dEv)) (hl : L.length + M.length ≤ 100000)
    (k : ∀ (p : Addr) (H' : Hp), Keep [] H H' → TD H' (.ref p) (dView (L ++ M)) → Q (.ref p) H') : rCatA K v (.ref t2) H Q := by
  obtain ⟨a, xs, rfl, ha, hx⟩ := td_view hv
  have hlx : xs.length = L.length := by rw [hx.length, List.length_map]
  have hly : ys.length = M.length := by rw [hy.length, List.length_map]
  have hcat := hx.append hy
  rw [← List.map_append] at hcat
  refine ⟨a, t2, xs, ys, rfl, rfl, SqT.of ha, SqT.of h2, smallM (by omega), fun e0 => ?_, fun _ e0 => ?_, fun _ _ p hp => ?_⟩
  · subst e0
    exact k t2 _ (Keep.refl _ _) (.tup h2 hcat)
  · subst e0
    rw [List.append_nil] at hcat
    exact k a _ (Keep.refl _ _) (.tup ha hcat)
  · exact k p _ (Keep.new hp) (.tup upd_same (hcat.tk (TK.new hp)))

theorem calUp {P : Program} {w : World} {K : PySem.W.Frag} {mg : Str → Option Value} {base : Heap} {j k : Nat} {x : Str} {sp : Sp} {dvs : List V} (c : C8.Cal P w K mg base j x sp dvs) (h : j ≤ k) : C8.Cal P w K mg base k x sp dvs := by
  obtain ⟨f, fd, ps, ds, F, hm, kp, b, d⟩ := c.ex
  exact ⟨f, fd, ps, ds, F.mono h, hm, kp, b, d⟩

def tl (sz x : Nat) : Int := (sz : Int) - 1 - x
/-! stages of a game, paths, views: in plain words -/
structure Stg where
  pl : Nat
  sz : Nat
  sh : Nat
  rd : Bool
def Stg.row (s : Stg) : List V := [.int s.pl, .int s.sz, .int s.sh, .bl s.rd]
instance : Inhabited Stg := ⟨⟨0, 1, 0, false⟩⟩
structure Stg.Ok (s : Stg) : Prop where
  pl : s.pl < 3
  sz0 : 1 ≤ s.sz
  sz1 : s.sz ≤ 100
  sh : s.sh < 4
def stg (S : List Stg) (k : Nat) : Stg := S.getD k ⟨0, 1, 0, false⟩
def nm (S : List Stg) : Nat → Int
  | 0 => 0
  | k + 1 => nm S k + (if (stg S k).pl ≠ 0 then 1 else 0)
def rn (S : List Stg) : Nat → Int
  | 0 => 0
  | k + 1 => rn S k + (if 0 < k ∧ (stg S k).rd = true then 1 else 0)
def rdE (S : List Stg) (k : Nat) : List Ev := if 0 < k ∧ (stg S k).rd = true then [(("round" : Str), [rn S (k + 1)])] else []
def vw (S : List Stg) (pl : Nat) (p : List Nat) : Nat → List Ev
  | 0 => [(("round" : Str), [0])]
  | k + 1 => ((vw S pl p k ++ rdE S k) ++ (if (stg S k).pl = pl then [(("move" : Str), [nm S k, ((stg S k).sz : Int)]), (("did" : Str), [((p.getD k 0 : Nat) : Int)])] else [])) ++ (if (stg S k).sh = pl ∨ (stg S k).sh = 3 then [(("told" : Str), [tl (stg S k).sz (p.getD k 0)])] else [])
/-- the view of who moves at stage k, behind the first k results of p -/
def asked (S : List Stg) (p : List Nat) (k : Nat) : List Ev := (vw S (stg S k).pl p k ++ rdE S k) ++ [(("move" : Str), [nm S k, ((stg S k).sz : Int)])]
def ext1 (n : Nat) (p : List Nat) : List (List Nat) := (List.range n).map fun k => p ++ [k]
def paths : List Stg → List (List Nat) → List (List Nat)
  | [], ps => ps
  | s :: S, ps => paths S (ps.flatMap (ext1 s.sz))
def prodS : List Stg → Nat
  | [] => 1
  | s :: S => s.sz * prodS S
def insR (f : List Row) (r : Row) : List Row := if r ∈ f then f else f ++ [r]
def metK (S : List Stg) (pl : Nat) (p : List Nat) : Nat → List Row → List Row
  | 0, f => f
  | k + 1, f => if (stg S k).pl = pl then insR (metK S pl p k f) (asked S p k, ((stg S k).sz : Int)) else metK S pl p k f
def met (S : List Stg) (pl : Nat) : List Row := (paths S [[]]).foldl (fun f p => metK S pl p S.length f) []
theorem vw_take (S : List Stg) (pl : Nat) (p : List Nat) : ∀ (k n : Nat), k ≤ n → vw S pl (p.take n) k = vw S pl p k
  | 0, _, _ => rfl
  | k + 1, n, h => by
    have e : (p.take n).getD k 0 = p.getD k 0 := by
      rw [List.getD_eq_getElem?_getD, List.getD_eq_getElem?_getD, List.getElem?_take_of_lt (by omega)]
    unfold vw
    rw [vw_take S pl p k n (by omega), e]
theorem asked_take (S : List Stg) (p : List Nat) (k : Nat) : asked S (p.take k) k = asked S p k := by
  unfold asked
  rw [vw_take S _ p k k (Nat.le_refl _)]
theorem vw_len (S : List Stg) (pl : Nat) (p : List Nat) : ∀ k, (vw S pl p k).length ≤ 1 + 4 * k
  | 0 => Nat.le_refl _
  | k + 1 => by
    have := vw_len S pl p k
    unfold vw rdE
    rw [List.length_append, List.length_append, List.length_append]
    split <;> split <;> split <;> simp <;> omega
theorem asked_len (S : List Stg) (p : List Nat) (k : Nat) : (asked S p k).length ≤ 3 + 4 * k := by
  have := vw_len S (stg S k).pl p k
  unfold asked rdE
  rw [List.length_append, List.length_append]
  split <;> simp <;> omega
theorem ok_app {L M : List Ev} (h : ∀ e ∈ L, OkE e) (g : ∀ e ∈ M, OkE e) : ∀ e ∈ L ++ M, OkE e := fun e he => (List.mem_append.mp he).elim (h e) (g e)
theorem ok_if {p : Prop} [Decidable p] {L : List Ev} (h : ∀ e ∈ L, OkE e) : ∀ e ∈ (if p then L else []), OkE e := fun e he => by
  split at he
  · exact h e he
  · cases he
theorem ok_one {e : Ev} (h : OkE e) : ∀ x ∈ [e], OkE x := fun x hx => by rw [List.mem_singleton.mp hx]; exact h
theorem vw_ok (S : List Stg) (pl : Nat) (p : List Nat) : ∀ k, ∀ e ∈ vw S pl p k, OkE e
  | 0 => ok_one (ok_round _)
  | k + 1 => by
    unfold vw rdE
    refine ok_app (ok_app (ok_app (vw_ok S pl p k) (ok_if (ok_one (ok_round _)))) (ok_if fun x hx => ?_)) (ok_if (ok_one (ok_told _)))
    rcases List.mem_cons.mp hx with rfl | hx
    · exact ok_move _
    · rw [List.mem_singleton.mp hx]; exact ok_did _
theorem asked_ok (S : List Stg) (p : List Nat) (k : Nat) : ∀ e ∈ asked S p k, OkE e := by
  unfold asked rdE
  exact ok_app (ok_app (vw_ok S _ p k) (ok_if (ok_one (ok_round _)))) (ok_one (ok_move _))
theorem paths_len : ∀ (S : List Stg) (ps : List (List Nat)), (paths S ps).length = prodS S * ps.length
  | [], ps => by show ps.length = 1 * ps.length; omega
  | s :: S, ps => by
    show (paths S (ps.flatMap (ext1 s.sz))).length = s.sz * prodS S * ps.length
    rw [paths_len S]
    have : (ps.flatMap (ext1 s.sz)).length = s.sz * ps.length := by
      rw [List.length_flatMap]
      have e : ps.map (fun x => (ext1 s.sz x).length) = ps.map fun _ => s.sz := List.map_congr_left fun x _ => by unfold ext1; rw [List.length_map, List.length_range]
      rw [e, List.map_const', List.sum_replicate_nat, Nat.mul_comm]
    rw [this, ← Nat.mul_assoc, Nat.mul_comm (prodS S)]
theorem prod_pos : ∀ {S : List Stg}, (∀ s ∈ S, s.Ok) → 1 ≤ prodS S
  | [], _ => Nat.le_refl _
  | s :: S, h => by
    have h1 := (h s (List.mem_cons_self ..)).sz0
    have h2 := prod_pos (S := S) fun x hx => h x (List.mem_cons_of_mem _ hx)
    exact Nat.mul_le_mul h1 h2
theorem prod_app : ∀ (S : List Stg) (s : Stg), prodS (S ++ [s]) = prodS S * s.sz
  | [], s => by show s.sz * 1 = 1 * s.sz; omega
  | t :: S, s => by
    show t.sz * prodS (S ++ [s]) = t.sz * prodS S * s.sz
    rw [prod_app S s, Nat.mul_assoc]
/-- the paths of the first k stages stay within the product -/
theorem prod_take : ∀ {S : List Stg}, (∀ s ∈ S, s.Ok) → ∀ k, prodS (S.take k) ≤ prodS S
  | [], _, k => by rw [List.take_nil]; exact Nat.le_refl _
  | s :: S, h, 0 => prod_pos h
  | s :: S, h, k + 1 => Nat.mul_le_mul_left _ (prod_take (S := S) (fun x hx => h x (List.mem_cons_of_mem _ hx)) k)
theorem paths_snoc : ∀ (S : List Stg) (s : Stg) (ps : List (List Nat)), paths (S ++ [s]) ps = (paths S ps).flatMap (ext1 s.sz)
  | [], _, _ => rfl
  | t :: S, s, ps => by
    show paths (S ++ [s]) (ps.flatMap (ext1 t.sz)) = (paths S (ps.flatMap (ext1 t.sz))).flatMap (ext1 s.sz)
    rw [paths_snoc S s]
theorem paths_each : ∀ (S : List Stg) (ps : List (List Nat)) (n : Nat), (∀ p ∈ ps, p.length = n) → ∀ p ∈ paths S ps, p.length = n + S.length
  | [], ps, n, h => fun p hp => h p hp
  | s :: S, ps, n, h => fun p hp => by
    have := paths_each S (ps.flatMap (ext1 s.sz)) (n + 1) (fun q hq => by
      obtain ⟨r, hr, hq⟩ := List.mem_flatMap.mp hq
      unfold ext1 at hq
      obtain ⟨k, _, rfl⟩ := List.mem_map.mp hq
      rw [List.length_append, h r hr]; rfl) p hp
    rw [this, List.length_cons]; omega
/-! in the heap -/
inductive SL (H : Hp) : List V → List Stg → Prop
  | nil : SL H [] []
  | cons {t : Addr} {s : Stg} {vs : List V} {S : List Stg} : H t = some (.tup s.row) → SL H vs S → SL H (.ref t :: vs) (s :: S)
theorem SL.tk {H H' : Hp} (k : TK H H') {vs : List V} {S : List Stg} (h : SL H vs S) : SL H' vs S := by
  induction h with
  | nil => exact .nil
  | cons h _ ih => exact .cons (k _ _ h) ih
theorem SL.len {H : Hp} {vs : List V} {S : List Stg} (h : SL H vs S) : vs.length = S.length := by
  induction h with
  | nil => rfl
  | cons _ _ ih => rw [List.length_cons, List.length_cons, ih]
theorem SL.snoc {H : Hp} {vs : List V} {S : List Stg} {t : Addr} {s : Stg} (h : SL H vs S) (ht : H t = some (.tup s.row)) : SL H (vs ++ [.ref t]) (S ++ [s]) := by
  induction h with
  | nil => exact .cons ht .nil
  | cons h _ ih => exact .cons h ih
theorem SL.get {H : Hp} {vs : List V} {S : List Stg} (h : SL H vs S) : ∀ {i : Nat}, i < S.length → ∃ t, vs[i]? = some (.ref t) ∧ H t = some (.tup (stg S i).row) := by
  induction h with
  | nil => intro i hi; exact absurd hi (Nat.not_lt_zero _)
  | cons h _ ih =>
    intro i hi
    cases i with
    | zero => exact ⟨_, rfl, h⟩
    | succ i =>
      obtain ⟨t, h1, h2⟩ := ih (i := i) (by simpa using hi)
      exact ⟨t, by simpa using h1, by simpa [stg] using h2⟩
structure SOk (S : List Stg) : Prop where
  all : ∀ s ∈ S, s.Ok
  len : S.length ≤ 4
  prod : prodS S ≤ 100
def StA (H : Hp) (a : Addr) (S : List Stg) : Prop := ∃ vs, H a = some (.lst vs) ∧ SL H vs S
theorem StA.keep {H H' : Hp} {a : Addr} {S : List Stg} (h : StA H a S) (k : Keep [] H H') : StA H' a S := by
  obtain ⟨vs, h1, h2⟩ := h
  exact ⟨vs, k _ _ h1 (by simp), h2.tk k.tk⟩
theorem stg_ok {S : List Stg} (h : SOk S) (k : Nat) : (stg S k).Ok := by
  unfold stg
  by_cases q : k < S.length
  · rw [List.getD_eq_getElem?_getD, List.getElem?_eq_getElem q]
    exact h.all _ (List.getElem_mem q)
  · rw [List.getD_eq_getElem?_getD, List.getElem?_eq_none (by omega)]
    exact ⟨by decide, by decide, by decide, by decide⟩
def nat (k : Nat) : V := .int (k : Int)
def PaA (H : Hp) (a : Addr) (p : List Nat) : Prop := H a = some (.lst (p.map nat))
inductive PLs (H : Hp) : List V → List (List Nat) → Prop
  | nil : PLs H [] []
  | cons {t : Addr} {p : List Nat} {vs : List V} {ps : List (List Nat)} : PaA H t p → PLs H vs ps → PLs H (.ref t :: vs) (p :: ps)
theorem PLs.keep {H H' : Hp} (k : Keep [] H H') {vs : List V} {ps : List (List Nat)} (h : PLs H vs ps) : PLs H' vs ps := by
  induction h with
  | nil => exact .nil
  | cons h _ ih => exact .cons (k _ _ h (by simp)) ih
theorem PLs.own {H H' : Hp} {l : Addr} (k : ∀ b o, H b = some o → b ≠ l → H' b = some o) {vs : List V} {ps : List (List Nat)} (h : PLs H vs ps) (hl : ∀ t, V.ref t ∈ vs → t ≠ l) : PLs H' vs ps := by
  induction h with
  | nil => exact .nil
  | cons h _ ih => exact .cons (k _ _ h (hl _ (List.mem_cons_self ..))) (ih fun t ht => hl t (List.mem_cons_of_mem _ ht))
theorem PLs.len {H : Hp} {vs : List V} {ps : List (List Nat)} (h : PLs H vs ps) : vs.length = ps.length := by
  induction h with
  | nil => rfl
  | cons _ _ ih => rw [List.length_cons, List.length_cons, ih]
theorem PLs.snoc {H : Hp} {vs : List V} {ps : List (List Nat)} {t : Addr} {p : List Nat} (h : PLs H vs ps) (ht : PaA H t p) : PLs H (vs ++ [.ref t]) (ps ++ [p]) := by
  induction h with
  | nil => exact .cons ht .nil
  | cons h _ ih => exact .cons h ih
theorem PLs.get {H : Hp} {vs : List V} {ps : List (List Nat)} (h : PLs H vs ps) : ∀ {i : Nat} {v : V}, vs[i]? = some v → ∃ t p, v = .ref t ∧ ps[i]? = some p ∧ PaA H t p := by
  induction h with
  | nil => intro i v h; simp at h
  | cons h _ ih =>
    intro i v hv
    cases i with
    | zero => simp at hv; subst hv; exact ⟨_, _, rfl, rfl, h⟩
    | succ i => simpa using ih (by simpa using hv)
/-! the promises -/
def sp_cell (K : PySem.W.Frag) : Sp := fun vs H Q _ => ∃ (a : Addr) (ns : List Int) (k : Nat), vs = [.ref a, .int k] ∧ SqL K H a (ns.map V.int) ∧ Q (.int (ns.getD k 0)) H
def sp_isint : Sp := fun vs H Q _ => ∃ z : Int, vs = [.int z] ∧ Q (.bl true) H
def sp_row : Sp := fun vs H Q _ => ∃ (c : Int) (n : Nat) (m : Int), vs = [.int c, .int n, .int m] ∧ 0 < m ∧ m < 1000000 ∧ n ≤ 1000 ∧ ∀ l (ds : List Nat) H', H l = none → H' l = some (.lst (ds.map nat)) → ds.length = n → (∀ d ∈ ds, (d : Int) < m) → Keep [] H H' → Q (.ref l) H'
def sp_stages (K : PySem.W.Frag) (mx : Nat) : Sp := fun vs H Q _ => ∃ (a : Addr) (ns : List Int) (m : Int), vs = [.ref a, .int m] ∧ m = mx ∧ SqL K H a (ns.map V.int) ∧ ∀ l (S : List Stg) H', H l = none → StA H' l S → SOk S → prodS S ≤ mx → Keep [] H H' → Q (.ref l) H'
def sp_paths : Sp := fun vs H Q _ => ∃ (a : Addr) (S : List Stg), vs = [.ref a] ∧ StA H a S ∧ SOk S ∧ ∀ l xs H', H l = none → H' l = some (.lst xs) → PLs H' xs (paths S [[]]) → (∀ u, V.ref u ∈ xs → H u = none) → Keep [] H H' → Q (.ref l) H'
def sp_view : Sp := fun vs H Q _ => ∃ (a b : Addr) (S : List Stg) (p : List Nat) (pl : Nat), vs = [.ref a, .ref b, .int pl] ∧ StA H a S ∧ SOk S ∧ PaA H b p ∧ p.length ≤ S.length ∧ ∀ v H', TD H' v (dView (vw S pl p p.length)) → Keep [] H H' → Q v H'
def sp_asked : Sp := fun vs H Q _ => ∃ (a b : Addr) (S : List Stg) (p : List Nat), vs = [.ref a, .ref b] ∧ StA H a S ∧ SOk S ∧ PaA H b p ∧ p.length < S.length ∧ ∀ v H', TD H' v (dView (asked S p p.length)) → Keep [] H H' → Q v H'
def sp_met : Sp := fun vs H Q _ => ∃ (a : Addr) (S : List Stg) (pl : Nat), vs = [.ref a, .int pl] ∧ StA H a S ∧ SOk S ∧ ∀ l xs H', H l = none → H' l = some (.lst xs) → TDs H' xs ((met S pl).map dRow) → Keep [] H H' → Q (.ref l) H'
section
variable {P : Program} {w : World} {K : PySem.W.Frag} {mg : Str → Option Value} {base : Heap} {C_End : Addr} {C_Lot : Addr} {C_Turn : Addr}
theorem ok_cell {f : Addr} {fd : FuncData} (D : C8.Def K mg "_law_cell" s_law_cell f fd) (b : Binds K fd ["script", "k"] []) (T : Txt K mg C_End C_Lot C_Turn) : C8.Cal P w K mg base 1 "_law_cell" (sp_cell K) [] := by
  refine cal0 D b .nil sc_law_cell (fun vs H Q E h => ?_) (fun cdv A outer s H vs Q E hr h => ?_)
  · obtain ⟨a, ns, k, rfl, _⟩ := h
    rfl
  · obtain ⟨a, ns, k, rfl, hS, g⟩ := h
    refine ⟨_, (pss_cons (ps_if (pt_cmpR op_lt (pv 1) (pe_callB call_len_seq (by rfl) T.n_len bo_len (pa_cons (pv 0) pa_nil)) (nomark _))
  (pss_one (ps_ret (pe_ix ix_list (pv 0) (pv 1) (fun _ _ => rfl))))
  pss_nil)
(pss_one (ps_ret pe_int))), ?_⟩
    refine ⟨_, rfl, _, rfl, _, _, rfl, .inl hS, _, _, rfl, rfl, _, rfl, iteD (fun h => ?_) (fun h => ?_)⟩
    all_goals rw [List.length_map] at h
    rotate_left
    · have e : ns.getD k 0 = 0 := by rw [List.getD_eq_getElem?_getD, List.getElem?_eq_none (by omega)]; rfl
      rw [e] at g; exact g
    have hk : k < ns.length := by omega
    have e : ns.getD k 0 = ns[k] := by rw [List.getD_eq_getElem?_getD, List.getElem?_eq_getElem hk]; rfl
    rw [e] at g
    exact ⟨_, rfl, _, rfl, _, _, _, _, rfl, rfl, hS, atI_nat (by rw [List.getElem?_map, List.getElem?_eq_getElem hk]; rfl), g⟩
theorem ok_isint {f : Addr} {fd : FuncData} (D : C8.Def K mg "_law_is_integer" s_law_is_integer f fd) (b : Binds K fd ["actual"] []) (T : Txt K mg C_End C_Lot C_Turn) : C8.Cal P w K mg base 1 "_law_is_integer" sp_isint [] := by
  refine cal0 D b .nil sc_law_is_integer (fun vs H Q E h => ?_) (fun cdv A outer s H vs Q E hr h => ?_)
  · obtain ⟨z, rfl, _⟩ := h
    rfl
  · obtain ⟨z, rfl, k⟩ := h
    refine ⟨_, (pss_one (ps_ret (pe_and (pe_callB call_isi (by rfl) T.n_isinstance bo_isinstance (pa_cons (pv 0) (pa_cons (pe_bltn (v := .ty "int") (by rfl) T.n_int bo_int rfl) pa_nil))) (pe_one (pe_not (pe_callB call_isi (by rfl) T.n_isinstance bo_isinstance (pa_cons (pv 0) (pa_cons (pe_bltn (v := .ty "bool") (by rfl) T.n_bool bo_bool rfl) pa_nil)))))))), ?_⟩
    have kII : PySem.W.kitOne K (.type "int") (.type "int") = some true := kit_ty (by decide +kernel)
    have kIB : PySem.W.kitOne K (.type "int") (.type "bool") = some false := kit_ty (by decide +kernel)
    exact ⟨_, rfl, _, _, _, _, _, rfl, .ty _, .base (.int z), kII, _, rfl, iteT ⟨_, rfl, _, _, _, _, _, rfl, .ty _, .base (.int z), kIB, _, rfl, k⟩⟩
theorem ok_row {f : Addr} {fd : FuncData} (D : C8.Def K mg "_law_row" s_law_row f fd) (b : Binds K fd ["cell", "count", "size"] []) (T : Txt K mg C_End C_Lot C_Turn) : C8.Cal P w K mg base 1 "_law_row" sp_row [] := by
  refine cal0 D b .nil sc_law_row (fun vs H Q E h => ?_) (fun cdv A outer s H vs Q E hr h => ?_)
  · obtain ⟨c, n, m, rfl, _⟩ := h
    rfl
  · obtain ⟨c, n, m, rfl, hm0, hm1, hn, k⟩ := h
    refine ⟨_, (pss_cons (ps_set (i := 3) sc_law_row.nd rfl (by first | exact Or.inl rfl | exact Or.inr rfl) (pv 0))
(pss_cons (ps_set (i := 4) sc_law_row.nd rfl (by first | exact Or.inl rfl | exact Or.inr rfl) (pe_lst pa_nil))
(pss_cons (ps_for PassesOwn.never rfl (pi_range1 (by rfl) T.n_range (pa_cons (pv 1) pa_nil)) (pg_name (i := 5) sc_law_row.nd rfl (by first | exact Or.inl rfl | exact Or.inr rfl))
  (pss_one (ps_if (pt_cmpR op_ge (pv 0) (pe_op op_pow pe_int pe_int) (nomark _))
    (pss_cons (ps_expr (pe_bm PySem.F.plainAttrs_list PySem.F.slot_list_append PySem.F.type_list_append mt_append (pv 4) (pa_cons (pe_op op_mod (pe_callTy call_int1 (by rfl) T.n_int bo_int (pa_cons (pv 3) pa_nil)) (pv 2)) pa_nil)))
    (pss_one (ps_set (i := 3) sc_law_row.nd rfl (by first | exact Or.inl rfl | exact Or.inr rfl) (pe_op op_fdivG (pv 3) (pv 2)))))
    (pss_cons (ps_set (i := 3) sc_law_row.nd rfl (by first | exact Or.inl rfl | exact Or.inr rfl) (pe_op op_mod (pe_callTy call_int1 (by rfl) T.n_int bo_int (pa_cons (pe_op op_add (pe_op op_mul (pv 3) pe_int) pe_int) pa_nil)) pe_int))
    (pss_one (ps_expr (pe_bm PySem.F.plainAttrs_list PySem.F.slot_list_append PySem.F.type_list_append mt_append (pv 4) (pa_cons (pe_op op_mod (pe_op op_mod (pe_callTy call_int1 (by rfl) T.n_int bo_int (pa_cons (pe_op op_add (pe_op op_mul (pv 3) pe_int) (pe_op op_mul (pv 5) pe_int)) pa_nil)) pe_int) (pv 2)) pa_nil))))))))
(pss_one (ps_ret (pv 4)))))), ?_⟩
    have cdg : ∀ {i : Int}, CDivG i m := ⟨by omega, Nat.lt_trans (log2_lt9 (b := 60) (by omega) (by decide)) (by decide)⟩
    have hbig : (0 : Int) < 2147483647 := by decide
    refine ⟨_, rfl, by show 0 ≤ sizeLine; decide, fun l nl => ?_⟩
    refine ⟨_, rfl, (n : Int), rfl, by omega, by omega, for_range (lo := 0) (n := ((n : Int)).toNat) (fun i σ H' => ∃ (st : Int) (ds : List Nat) (o : Option V), σ = [some (.int c), some (.int n), some (.int m), some (.int st), some (.ref l), o] ∧ H' l = some (.lst (ds.map nat)) ∧ ds.length = i ∧ (∀ d ∈ ds, (d : Int) < m) ∧ Keep [] H H')
      ⟨c, [], none, rfl, upd_same, rfl, (fun _ h => by cases h), Keep.new nl⟩ ?_ ?_⟩
    · rintro i σ H' hi ⟨st, ds, o, rfl, hl, hlen, hds, kk⟩
      have e0 : (0 : Int) + (i : Int) = (i : Int) := by omega
      rw [e0]
      have push : ∀ {z : Int}, 0 ≤ z → z < m → upd H' l (.lst (ds.map nat ++ [.int z])) l = some (.lst ((ds ++ [z.toNat]).map nat)) ∧ ∀ d ∈ ds ++ [z.toNat], (d : Int) < m := fun {z} h0 h1 => by
        refine ⟨?_, fun d hd => ?_⟩
        · rw [upd_same, List.map_append]
          show some (HO.lst (ds.map nat ++ [.int z])) = some (HO.lst (ds.map nat ++ [.int ((z.toNat : Nat) : Int)]))
          rw [Int.toNat_of_nonneg h0]
        · rcases List.mem_append.mp hd with q | q
          · exact hds d q
          · rw [List.mem_singleton.mp q]; omega
      have hln : (ds.map nat).length < sizeLine := by rw [List.length_map]; exact smallL (by omega)
      refine ⟨_, rfl, _, _, rfl, rfl, ⟨by decide, by decide, by decide⟩, _, _, rfl, rfl, _, rfl, iteD (fun _ => ?_) (fun _ => ?_)⟩
      · refine ⟨_, rfl, .inl ⟨rfl, _, SqL.of hl⟩, _, rfl, .inl ⟨_, rfl, _, rfl, _, _, rfl, rfl, hm0, ?_⟩⟩
        obtain ⟨g1, g2⟩ := push (Int.emod_nonneg st (by omega)) (Int.emod_lt_of_pos st hm0)
        exact ⟨_, _, _, rfl, rfl, hl, hln, _, rfl, _, rfl, _, _, rfl, rfl, cdg, _, _, _, rfl, g1, by rw [List.length_append, hlen]; rfl, g2, kk.then_own nl⟩
      · refine ⟨_, rfl, _, _, rfl, rfl, .inr ⟨by decide, by decide⟩, _, _, rfl, rfl, .inl ⟨_, rfl, _, _, rfl, rfl, hbig, ?_⟩⟩
        refine ⟨_, rfl, .inl ⟨rfl, _, SqL.of hl⟩, _, rfl, _, _, rfl, rfl, .inr ⟨by decide, by decide⟩, _, rfl, _, _, rfl, rfl, .inr ⟨by decide, by decide⟩, _, _, rfl, rfl, .inl ⟨_, rfl, _, _, rfl, rfl, hbig, _, rfl, _, _, rfl, rfl, hm0, ?_⟩⟩
        obtain ⟨g1, g2⟩ := push (Int.emod_nonneg _ (by omega)) (Int.emod_lt_of_pos _ hm0)
        exact ⟨_, _, _, rfl, rfl, hl, hln, _, _, _, rfl, g1, by rw [List.length_append, hlen]; rfl, g2, kk.then_own nl⟩
    · rintro σ H' ⟨st, ds, o, rfl, hl, hlen, hds, kk⟩
      exact ⟨_, rfl, k l ds _ nl hl (by omega) hds kk⟩
theorem ok_paths {f : Addr} {fd : FuncData} (D : C8.Def K mg "_law_paths" s_law_paths f fd) (b : Binds K fd ["stages"] []) (T : Txt K mg C_End C_Lot C_Turn) : C8.Cal P w K mg base 1 "_law_paths" sp_paths [] := by
  refine cal0 D b .nil sc_law_paths (fun vs H Q E h => ?_) (fun cdv A outer s H vs Q E hr h => ?_)
  · obtain ⟨a, S, rfl, _⟩ := h
    rfl
  · obtain ⟨a, S, rfl, hS, hok, k⟩ := h
    refine ⟨_, (pss_cons (ps_set (i := 1) sc_law_paths.nd rfl (by first | exact Or.inl rfl | exact Or.inr rfl) (pe_lst (pa_cons (pe_lst pa_nil) pa_nil)))
(pss_cons (ps_for PassesOwn.never rfl (pi_list (pv 0)) (pg_name (i := 2) sc_law_paths.nd rfl (by first | exact Or.inl rfl | exact Or.inr rfl))
  (pss_cons (ps_set (i := 3) sc_law_paths.nd rfl (by first | exact Or.inl rfl | exact Or.inr rfl) (pe_lst pa_nil))
  (pss_cons (ps_for PassesOwn.never rfl (pi_list (pv 1)) (pg_name (i := 4) sc_law_paths.nd rfl (by first | exact Or.inl rfl | exact Or.inr rfl))
    (pss_one (ps_for PassesOwn.never rfl (pi_range1 (by rfl) T.n_range (pa_cons (pe_ix ix_tup (pv 2) pe_int (fun _ _ => rfl)) pa_nil)) (pg_name (i := 5) sc_law_paths.nd rfl (by first | exact Or.inl rfl | exact Or.inr rfl))
      (pss_one (ps_expr (pe_bm PySem.F.plainAttrs_list PySem.F.slot_list_append PySem.F.type_list_append mt_append (pv 3) (pa_cons (pe_op op_cat (pv 4) (pe_lst (pa_cons (pv 5) pa_nil))) pa_nil)))))))
  (pss_one (ps_set (i := 1) sc_law_paths.nd rfl (by first | exact Or.inl rfl | exact Or.inr rfl) (pv 3))))))
(pss_one (ps_ret (pv 1))))), ?_⟩
    obtain ⟨vs, hvs, hSL⟩ := id hS
    have hlS := hSL.len
    refine And.intro (by show 0 ≤ sizeLine; decide) <| fun e0 ne0 => And.intro (by show 1 ≤ sizeLine; decide) <| fun l0 nl0 => ?_
    have k0 : Keep [] H (upd (upd H e0 (.lst [])) l0 (.lst [.ref e0])) := (Keep.new ne0).then_new nl0
    refine ⟨_, rfl, a, rfl, ⟨_, SqL.of (k0 _ _ hvs (by simp))⟩, for_list (K := K) (a := a) (xs := vs) (fun i σ H' => ∃ (l : Addr) (xs : List V) (o2 o3 o4 o5 : Option V), σ = [some (.ref a), some (.ref l), o2, o3, o4, o5] ∧ H l = none ∧ H' l = some (.lst xs) ∧ PLs H' xs (paths (S.take i) [[]]) ∧ Keep [] H H' ∧ (∀ u, V.ref u ∈ xs → H u = none))
      ⟨l0, _, _, _, _, _, rfl, (Keep.new (W := []) ne0).free nl0, upd_same, .cons (p := []) (Keep.new (W := []) nl0 _ _ upd_same (by simp)) .nil, k0, fun u hu => by rw [V.ref.inj (List.mem_singleton.mp hu)]; exact ne0⟩ (fun i σ H' _ ⟨_, _, _, _, _, _, _, _, _, _, kk, _⟩ => SqL.of (kk _ _ hvs (by simp))) ?_ ?_⟩
    · rintro i v σ H1 hi ⟨l, xs, o2, o3, o4, o5, rfl, nl, hl, hpl, k1, fr⟩
      have hi' : i < S.length := by
        have := (List.getElem?_eq_some_iff.mp hi).1
        omega
      obtain ⟨t, ht1, ht0⟩ := hSL.get hi'
      rw [hi] at ht1
      cases ht1
      have hok1 := stg_ok hok i
      have etk : S.take (i + 1) = S.take i ++ [stg S i] := by
        rw [List.take_succ_eq_append_getElem hi']
        unfold stg
        rw [List.getD_eq_getElem?_getD, List.getElem?_eq_getElem hi']; rfl
      have hprod : prodS (S.take (i + 1)) ≤ 100 := Nat.le_trans (prod_take hok.all _) hok.prod
      rw [etk, prod_app] at hprod
      have hcnt : (paths (S.take i) [[]]).length = prodS (S.take i) := by rw [paths_len]; show _ * 1 = _; omega
      have hplen : ∀ q ∈ paths (S.take i) [[]], q.length ≤ 4 := fun q hq => by
        have := paths_each (S.take i) [[]] 0 (fun q hq => by rw [List.mem_singleton.mp hq]; rfl) q hq
        rw [List.length_take] at this
        have := hok.len
        omega
      rw [etk, paths_snoc]
      generalize hps : paths (S.take i) [[]] = ps at hpl hcnt hplen
      generalize hst : stg S i = st at *
      refine And.intro (by show 0 ≤ sizeLine; decide) <| fun g ng => ?_
      have kg : Keep [] H1 (upd H1 g (.lst [])) := Keep.new ng
      have hll := hpl.len
      have ng0 := k1.free ng
      refine ⟨_, rfl, l, rfl, ⟨_, SqL.of (kg _ _ hl (by simp))⟩, for_list (K := K) (a := l) (xs := xs) (fun j σ H' => ∃ (ys : List V) (o4 o5 : Option V), σ = [some (.ref a), some (.ref l), some (.ref t), some (.ref g), o4, o5] ∧ H' g = some (.lst ys) ∧ PLs H' ys ((ps.take j).flatMap (ext1 st.sz)) ∧ Keep [] H1 H' ∧ (∀ u, V.ref u ∈ ys → u ≠ g) ∧ (∀ u, V.ref u ∈ ys → H u = none))
        ⟨[], _, _, rfl, upd_same, .nil, kg, (fun _ h => by cases h), fun _ h => by cases h⟩ (fun j σ H' _ ⟨_, _, _, _, _, _, kk, _⟩ => SqL.of (kk _ _ hl (by simp))) ?_ ?_⟩
      · rintro j v σ H2 hj ⟨ys, o4, o5, rfl, hg, hys, k2, hne, fr2⟩
        obtain ⟨u, q, rfl, hq, hu⟩ := hpl.get hj
        have hjl := (List.getElem?_eq_some_iff.mp hq).1
        have hu2 : H2 u = some (.lst (q.map nat)) := k2 _ _ hu (by simp)
        have hql := hplen q (List.mem_of_getElem? hq)
        have ht2 := k2 _ _ (k1 _ _ ht0 (by simp)) (by simp)
        have hyl := hys.len
        have etj : ps.take (j + 1) = ps.take j ++ [q] := by
          rw [List.take_succ_eq_append_getElem hjl]
          rw [List.getElem?_eq_getElem hjl] at hq
          rw [Option.some.inj hq]
        have hflen : ((ps.take j).flatMap (ext1 st.sz)).length = st.sz * (ps.take j).length := by
          rw [List.length_flatMap]
          have e : (ps.take j).map (fun x => (ext1 st.sz x).length) = (ps.take j).map fun _ => st.sz := List.map_congr_left fun x _ => by unfold ext1; rw [List.length_map, List.length_range]
          rw [e, List.map_const', List.sum_replicate_nat, Nat.mul_comm]
        have hbound : ys.length ≤ 100 := by
          rw [hyl, hflen, List.length_take]
          have : st.sz * min j ps.length ≤ st.sz * prodS (S.take i) := Nat.mul_le_mul_left _ (by omega)
          rw [Nat.mul_comm st.sz (prodS _)] at this
          omega
        refine ⟨_, rfl, _, _, _, _, rfl, rfl, SqT.of ht2, rfl, (st.sz : Int), rfl, by omega, by have := hok1.sz1; omega, for_range (lo := 0) (n := ((st.sz : Int)).toNat) (fun m σ H' => ∃ (zs : List V) (o5 : Option V), σ = [some (.ref a), some (.ref l), some (.ref t), some (.ref g), some (.ref u), o5] ∧ H' g = some (.lst zs) ∧ PLs H' zs ((ps.take j).flatMap (ext1 st.sz) ++ (List.range m).map fun k => q ++ [k]) ∧ Keep [] H1 H' ∧ (∀ u, V.ref u ∈ zs → u ≠ g) ∧ (∀ u, V.ref u ∈ zs → H u = none))
          ⟨ys, _, rfl, hg, by rw [List.range_zero, List.map_nil, List.append_nil]; exact hys, k2, hne, fr2⟩ ?_ ?_⟩
        · rintro m σ H3 hm ⟨zs, o5, rfl, hg3, hzs, k3, hne3, fr3⟩
          have e0 : (0 : Int) + (m : Int) = (m : Int) := by omega
          rw [e0]
          have hzl := hzs.len
          rw [List.length_append, List.length_map, List.length_range, ← hyl] at hzl
          have hm' : m < 100 := by have := hok1.sz1; omega
          have hu3 : H3 u = some (.lst (q.map nat)) := k3 _ _ hu (by simp)
          refine ⟨_, rfl, .inl ⟨rfl, _, SqL.of hg3⟩, _, rfl, _, rfl, And.intro (by show 1 ≤ sizeLine; decide) <| fun s1 ns1 => ?_⟩
          have ks : Keep [] H3 (upd H3 s1 (.lst [.int (m : Int)])) := Keep.new ns1
          refine ⟨u, s1, _, _, rfl, rfl, ks _ _ hu3 (by simp), upd_same, smallM (by rw [List.length_map]; simp; omega), fun r nr => ?_⟩
          have kr := ks.then_new (o := .lst (q.map nat ++ [.int (m : Int)])) nr
          have hg4 := kr _ _ hg3 (by simp)
          have nrg : r ≠ g := (ne_of_none (ks _ _ hg3 (by simp)) nr).symm
          refine ⟨_, _, _, rfl, rfl, hg4, smallL (by omega), zs ++ [.ref r], _, rfl, upd_same, ?_, (k3.trans kr).then_own ng, fun w hw => ?_, fun w hw => ?_⟩
          · rw [List.range_succ, List.map_append, ← List.append_assoc]
            refine PLs.snoc ?_ ?_
            · refine (hzs.keep kr).own (fun b o hb nb => by rw [upd_ne nb]; exact hb) hne3
            · show (upd _ g _) r = _
              rw [upd_ne nrg, upd_same, List.map_append]; rfl
          · rcases List.mem_append.mp hw with hw | hw
            · exact hne3 w hw
            · rw [V.ref.inj (List.mem_singleton.mp hw)]; exact nrg
          · rcases List.mem_append.mp hw with hw | hw
            · exact fr3 w hw
            · rw [V.ref.inj (List.mem_singleton.mp hw)]; exact (k1.trans (k3.trans ks)).free nr
        · rintro σ H3 ⟨zs, o5, rfl, hg3, hzs, k3, hne3, fr3⟩
          refine ⟨zs, _, _, rfl, hg3, ?_, k3, hne3, fr3⟩
          rw [etj, List.flatMap_append]
          rw [Int.toNat_natCast] at hzs
          simpa [ext1] using hzs
      · rintro σ H2 ⟨ys, o4, o5, rfl, hg, hys, k2, hne, fr2⟩
        rw [hll, List.take_length] at hys
        exact ⟨_, rfl, g, ys, _, _, _, _, rfl, ng0, hg, hys, k1.trans k2, fr2⟩
    · rintro σ H1 ⟨l, xs, o2, o3, o4, o5, rfl, nl, hl, hpl, k1, fr⟩
      rw [hlS, List.take_length] at hpl
      exact ⟨_, rfl, k l xs _ nl hl hpl fr k1⟩
theorem ok_view {f : Addr} {fd : FuncData} (D : C8.Def K mg "_law_view" s_law_view f fd) (b : Binds K fd ["stages", "path", "player"] []) (T : Txt K mg C_End C_Lot C_Turn) : C8.Cal P w K mg base 1 "_law_view" sp_view [] := by
  refine cal0 D b .nil sc_law_view (fun vs H Q E h => ?_) (fun cdv A outer s H vs Q E hr h => ?_)
  · obtain ⟨a, c, S, p, pl, rfl, _⟩ := h
    rfl
  · obtain ⟨a, c, S, p, pl, rfl, hS, hok, hp, hlen, k⟩ := h
    refine ⟨_, (pss_cons (ps_set (i := 3) sc_law_view.nd rfl (by first | exact Or.inl rfl | exact Or.inr rfl) (pe_tup (pa_cons (pe_tup (pa_cons pe_str (pa_cons pe_int pa_nil))) pa_nil)))
(pss_cons (ps_set (i := 4) sc_law_view.nd rfl (by first | exact Or.inl rfl | exact Or.inr rfl) pe_int)
(pss_cons (ps_set (i := 5) sc_law_view.nd rfl (by first | exact Or.inl rfl | exact Or.inr rfl) pe_int)
(pss_cons (ps_for PassesOwn.never rfl (pi_range1 (by rfl) T.n_range (pa_cons (pe_callB call_len_seq (by rfl) T.n_len bo_len (pa_cons (pv 1) pa_nil)) pa_nil)) (pg_name (i := 6) sc_law_view.nd rfl (by first | exact Or.inl rfl | exact Or.inr rfl))
  (pss_cons (ps_set (i := 7) sc_law_view.nd rfl (by first | exact Or.inl rfl | exact Or.inr rfl) (pe_ix ix_list (pv 0) (pv 6) (fun _ _ => rfl)))
  (pss_cut (ps_if (PW.pt (pw_and (pt_cmpR op_gt (pv 6) pe_int (nomark _)) (pw_and1 (pt_val (pe_ix ix_tup (pv 7) pe_int (fun _ _ => rfl))))))
    (pss_cons (ps_set (i := 5) sc_law_view.nd rfl (by first | exact Or.inl rfl | exact Or.inr rfl) (pe_op op_add (pv 5) pe_int))
    (pss_one (ps_set (i := 3) sc_law_view.nd rfl (by first | exact Or.inl rfl | exact Or.inr rfl) (pe_op op_catA (pv 3) (pe_tup (pa_cons (pe_tup (pa_cons pe_str (pa_cons (pv 5) pa_nil))) pa_nil))))))
    pss_nil)
  (pss_cut (ps_if (pt_cmpR op_eq (pe_ix ix_tup (pv 7) pe_int (fun _ _ => rfl)) (pv 2) (nomark _))
    (pss_one (ps_set (i := 3) sc_law_view.nd rfl (by first | exact Or.inl rfl | exact Or.inr rfl) (pe_op op_catA (pv 3) (pe_tup (pa_cons (pe_tup (pa_cons pe_str (pa_cons (pv 4) (pa_cons (pe_ix ix_tup (pv 7) pe_int (fun _ _ => rfl)) pa_nil)))) (pa_cons (pe_tup (pa_cons pe_str (pa_cons (pe_ix ix_list (pv 1) (pv 6) (fun _ _ => rfl)) pa_nil))) pa_nil))))))
    pss_nil)
  (pss_cut (ps_if (pt_cmpR op_ne (pe_ix ix_tup (pv 7) pe_int (fun _ _ => rfl)) pe_int (nomark _))
    (pss_one (ps_set (i := 4) sc_law_view.nd rfl (by first | exact Or.inl rfl | exact Or.inr rfl) (pe_op op_add (pv 4) pe_int)))
    pss_nil)
  (pss_one (ps_if (PW.pt (pw_or (pt_cmpR op_eq (pe_ix ix_tup (pv 7) pe_int (fun _ _ => rfl)) (pv 2) (nomark _)) (pw_or1 (pt_cmpR op_eq (pe_ix ix_tup (pv 7) pe_int (fun _ _ => rfl)) pe_int (nomark _)))))
    (pss_one (ps_set (i := 3) sc_law_view.nd rfl (by first | exact Or.inl rfl | exact Or.inr rfl) (pe_op op_catA (pv 3) (pe_tup (pa_cons (pe_tup (pa_cons pe_str (pa_cons (pe_op op_sub (pe_op op_sub (pe_ix ix_tup (pv 7) pe_int (fun _ _ => rfl)) pe_int) (pe_ix ix_list (pv 1) (pv 6) (fun _ _ => rfl))) pa_nil))) pa_nil)))))
    pss_nil)))))))
(pss_one (ps_ret (pv 3))))))), ?_⟩
    refine And.intro (by show 2 ≤ sizeLine; decide) <| fun t0 n0 => And.intro (by show 1 ≤ sizeLine; decide) <| fun v0 nv0 => ?_
    have k0 : Keep [] H (upd (upd H t0 (.tup [.str "round", .int 0])) v0 (.tup [.ref t0])) := (Keep.new n0).then_new nv0
    have hv0 : TD (upd (upd H t0 (.tup [.str "round", .int 0])) v0 (.tup [.ref t0])) (.ref v0) (dView (vw S pl p 0)) := .tup upd_same (.cons (.tup (Keep.new (W := []) nv0 _ _ upd_same (by simp)) (.cons (.str _) (.cons (.int _) .nil))) .nil)
    generalize upd (upd H t0 (.tup [.str "round", .int 0])) v0 (.tup [.ref t0]) = H0 at *
    have hp0 := k0 _ _ hp (by simp)
    have hl4 := hok.len
    refine ⟨_, rfl, _, _, rfl, .inl (SqL.of hp0), _, rfl, by rw [List.length_map]; omega, by rw [List.length_map]; omega, ?_⟩
    rw [List.length_map]
    refine for_range (lo := 0) (n := p.length) (fun i σ H' => ∃ (v : V) (o6 o7 : Option V), σ = [some (.ref a), some (.ref c), some (.int pl), some v, some (.int (nm S i)), some (.int (rn S i)), o6, o7] ∧ TD H' v (dView (vw S pl p i)) ∧ Keep [] H H') ⟨_, none, none, rfl, hv0, k0⟩ ?_ ?_
    · rintro i σ H1 hi ⟨v, o6, o7, rfl, hv, k1⟩
      have e0 : (0 : Int) + (i : Int) = (i : Int) := by omega
      rw [e0]
      obtain ⟨xs, hxs, hSL⟩ := id hS
      obtain ⟨t, ht1, ht0⟩ := hSL.get (i := i) (by omega)
      refine ⟨_, rfl, _, rfl, _, _, _, _, rfl, rfl, SqL.of (k1 _ _ hxs (by simp)), atI_nat ht1, ?_⟩
      generalize hst : stg S i = st at ht0
      have ht2 := k1 _ _ ht0 (by simp)
      have hvl := vw_len S pl p i
      -- a round
      refine ⟨fun σ H' => ∃ v', σ = [some (.ref a), some (.ref c), some (.int pl), some v', some (.int (nm S i)), some (.int (rn S (i + 1))), some (.int (i : Int)), some (.ref t)] ∧ TD H' v' (dView (vw S pl p i ++ rdE S i)) ∧ Keep [] H H', ?_, ?_⟩
      · have ern : rn S (i + 1) = rn S i + (if 0 < i ∧ (stg S i).rd = true then 1 else 0) := rfl
        have no : ¬ (0 < i ∧ (stg S i).rd = true) → ∃ v', [some (V.ref a), some (V.ref c), some (V.int pl), some v, some (V.int (nm S i)), some (V.int (rn S i)), some (V.int (i : Int)), some (V.ref t)] = [some (.ref a), some (.ref c), some (.int pl), some v', some (.int (nm S i)), some (.int (rn S (i + 1))), some (.int (i : Int)), some (.ref t)] ∧ TD H1 v' (dView (vw S pl p i ++ rdE S i)) ∧ Keep [] H H1 := fun h => by
          unfold rdE
          rw [ern, if_neg h, if_neg h, Int.add_zero, List.append_nil]
          exact ⟨_, rfl, hv, k1⟩
        refine ⟨_, rfl, _, _, rfl, rfl, _, rfl, iteD (fun h0 => ?_) (fun h0 => no fun z => h0 (by omega))⟩
        refine ⟨_, rfl, _, _, _, _, rfl, rfl, SqT.of ht2, rfl, _, rfl, iteB (fun h1 => ?_) (fun h1 => no fun z => by rw [hst, h1] at z; cases z.2)⟩
        have yes : 0 < i ∧ (stg S i).rd = true := ⟨by omega, by rw [hst]; exact h1⟩
        refine ⟨_, rfl, _, _, rfl, rfl, _, rfl, _, rfl, And.intro (by show 2 ≤ sizeLine; decide) <| fun u1 m1 => And.intro (by show 1 ≤ sizeLine; decide) <| fun u2 m2 => ?_⟩
        have kk := ((Keep.new (W := []) (o := .tup [.str "round", .int (rn S i + 1)]) m1).then_new (o := .tup [.ref u1]) m2)
        refine add_evs (M := [("round", [rn S i + 1])]) (hv.tk kk.tk) upd_same (.cons (.tup (Keep.new (W := []) m2 _ _ upd_same (by simp)) (.cons (.str _) (td_ints [_]))) .nil) (by simp; omega) fun q H2 k2 hq => ?_
        refine ⟨.ref q, ?_, ?_, (k1.trans kk).trans k2⟩
        · rw [ern, if_pos yes]; rfl
        · unfold rdE
          rw [if_pos yes, ern, if_pos yes]; exact hq
      rintro σ H2 ⟨v2, rfl, hv2, k2⟩
      have ht3 := k2 _ _ ht0 (by simp)
      have hl2 : (vw S pl p i ++ rdE S i).length ≤ 2 + 4 * i := by
        unfold rdE
        rw [List.length_append]
        split <;> simp <;> omega
      have vwS : vw S pl p (i + 1) = ((vw S pl p i ++ rdE S i) ++ (if st.pl = pl then [(("move" : Str), [nm S i, (st.sz : Int)]), (("did" : Str), [((p.getD i 0 : Nat) : Int)])] else [])) ++ (if st.sh = pl ∨ st.sh = 3 then [(("told" : Str), [tl st.sz (p.getD i 0)])] else []) := by
        subst hst; rfl
      have hpi : i < p.length := hi
      have hpat : (p.map nat)[i]? = some (nat (p.getD i 0)) := by
        rw [List.getElem?_map, List.getElem?_eq_getElem hpi, List.getD_eq_getElem?_getD, List.getElem?_eq_getElem hpi]; rfl
      generalize p.getD i 0 = x at vwS hpat
      -- an own move
      refine ⟨fun σ H' => ∃ v', σ = [some (.ref a), some (.ref c), some (.int pl), some v', some (.int (nm S i)), some (.int (rn S (i + 1))), some (.int (i : Int)), some (.ref t)] ∧ TD H' v' (dView ((vw S pl p i ++ rdE S i) ++ (if st.pl = pl then [(("move" : Str), [nm S i, (st.sz : Int)]), (("did" : Str), [((x : Nat) : Int)])] else []))) ∧ Keep [] H H', ?_, ?_⟩
      · refine ⟨_, rfl, _, _, _, _, rfl, rfl, SqT.of ht3, rfl, _, rfl, rfl, _, rfl, iteD (fun h => ?_) (fun h => ?_)⟩
        · have hpl : st.pl = pl := by have := V.int.inj h; omega
          rw [if_pos hpl]
          have hpc2 := k2 _ _ hp (by simp)
          refine ⟨_, rfl, _, rfl, _, rfl, _, _, _, _, rfl, rfl, SqT.of ht3, rfl, And.intro (by show 3 ≤ sizeLine; decide) <| fun u1 m1 => ?_⟩
          have kk1 := Keep.new (W := []) (o := .tup [.str "move", .int (nm S i), .int (st.sz : Int)]) m1
          refine ⟨_, rfl, _, rfl, _, _, _, _, rfl, rfl, SqL.of (kk1 _ _ hpc2 (by simp)), atI_nat hpat, And.intro (by show 2 ≤ sizeLine; decide) <| fun u2 m2 => And.intro (by show 2 ≤ sizeLine; decide) <| fun u3 m3 => ?_⟩
          have kk2 := Keep.new (W := []) (o := .tup [.str "did", .int (x : Int)]) m2
          have kk3 := Keep.new (W := []) (o := .tup [.ref u1, .ref u2]) m3
          have kk := (kk1.trans kk2).trans kk3
          refine add_evs (M := [(("move" : Str), [nm S i, (st.sz : Int)]), (("did" : Str), [((x : Nat) : Int)])]) (hv2.tk kk.tk) upd_same (.cons (.tup (kk3 _ _ (kk2 _ _ upd_same (by simp)) (by simp)) (.cons (.str _) (td_ints [_, _]))) (.cons (.tup (kk3 _ _ upd_same (by simp)) (.cons (.str _) (td_ints [_]))) .nil)) (by simp only [List.length_cons, List.length_nil]; omega) fun q H3 k3 hq => ?_
          exact ⟨.ref q, rfl, hq, (k2.trans kk).trans k3⟩
        · have hpl : ¬ st.pl = pl := fun z => h (by rw [z])
          rw [if_neg hpl, List.append_nil]
          exact ⟨v2, rfl, hv2, k2⟩
      rintro σ H3 ⟨v3, rfl, hv3, k3⟩
      have ht4 := k3 _ _ ht0 (by simp)
      have hl3 : ((vw S pl p i ++ rdE S i) ++ (if st.pl = pl then [(("move" : Str), [nm S i, (st.sz : Int)]), (("did" : Str), [((x : Nat) : Int)])] else [])).length ≤ 4 + 4 * i := by
        rw [List.length_append]
        split <;> simp only [List.length_cons, List.length_nil] <;> omega
      generalize hG : ((vw S pl p i ++ rdE S i) ++ (if st.pl = pl then [(("move" : Str), [nm S i, (st.sz : Int)]), (("did" : Str), [((x : Nat) : Int)])] else [])) = G at vwS hv3 hl3
      -- the number of moves
      refine ⟨fun σ H' => H' = H3 ∧ σ = [some (.ref a), some (.ref c), some (.int pl), some v3, some (.int (nm S (i + 1))), some (.int (rn S (i + 1))), some (.int (i : Int)), some (.ref t)], ?_, ?_⟩
      · have en : nm S (i + 1) = nm S i + (if st.pl ≠ 0 then 1 else 0) := by subst hst; rfl
        refine ⟨_, rfl, _, _, _, _, rfl, rfl, SqT.of ht4, rfl, rfl, _, rfl, iteN (fun h => ?_) (fun h => ?_)⟩
        · refine ⟨_, rfl, _, _, rfl, rfl, rfl, ?_⟩
          rw [en, if_pos (fun z => h (by rw [z]; rfl))]; rfl
        · refine ⟨rfl, ?_⟩
          have : ¬ st.pl ≠ 0 := fun z => z (by have := V.int.inj h; omega)
          rw [en, if_neg this, Int.add_zero]
      rintro σ H4 ⟨rfl, rfl⟩
      -- a number told
      rw [vwS]
      have ht5 := k3 _ _ ht0 (by simp)
      have hpc3 := k3 _ _ hp (by simp)
      have stay : ¬ (st.sh = pl ∨ st.sh = 3) → ∃ (v' : V) (o6 o7 : Option V), [some (V.ref a), some (V.ref c), some (V.int pl), some v3, some (V.int (nm S (i + 1))), some (V.int (rn S (i + 1))), some (V.int (i : Int)), some (V.ref t)] = [some (.ref a), some (.ref c), some (.int pl), some v', some (.int (nm S (i + 1))), some (.int (rn S (i + 1))), o6, o7] ∧ TD H4 v' (dView (G ++ (if st.sh = pl ∨ st.sh = 3 then [(("told" : Str), [tl st.sz x])] else []))) ∧ Keep [] H H4 := fun hs => by
        rw [if_neg hs, List.append_nil]
        exact ⟨v3, _, _, rfl, hv3, k3⟩
      have grow : (st.sh = pl ∨ st.sh = 3) → ∀ {u1 u2 : Addr} {H5 : Hp}, Keep [] H4 H5 → H5 u2 = some (.tup [.ref u1]) → H5 u1 = some (.tup [.str "told", .int (tl st.sz x)]) → rCatA K v3 (.ref u2) H5 fun v H6 => ∃ (v' : V) (o6 o7 : Option V), [some (V.ref a), some (V.ref c), some (V.int pl), some v, some (V.int (nm S (i + 1))), some (V.int (rn S (i + 1))), some (V.int (i : Int)), some (V.ref t)] = [some (.ref a), some (.ref c), some (.int pl), some v', some (.int (nm S (i + 1))), some (.int (rn S (i + 1))), o6, o7] ∧ TD H6 v' (dView (G ++ (if st.sh = pl ∨ st.sh = 3 then [(("told" : Str), [tl st.sz x])] else []))) ∧ Keep [] H H6 := fun hs {u1 u2 H5} kk g2 g1 => by
        rw [if_pos hs]
        refine add_evs (M := [(("told" : Str), [tl st.sz x])]) (hv3.tk kk.tk) g2 (.cons (.tup g1 (.cons (.str _) (td_ints [_]))) .nil) (by simp only [List.length_cons, List.length_nil]; omega) fun q H6 k6 hq => ?_
        exact ⟨.ref q, _, _, rfl, hq, (k3.trans kk).trans k6⟩
      have i3 : ∀ {z : Nat}, V.int (st.sh : Int) = V.int (z : Int) → st.sh = z := fun h => by have := V.int.inj h; omega
      refine ⟨_, rfl, _, _, _, _, rfl, rfl, SqT.of ht5, rfl, _, rfl, rfl, _, rfl, iteD (fun h => ?_) (fun h => ⟨_, rfl, _, _, _, _, rfl, rfl, SqT.of ht5, rfl, rfl, _, rfl, iteD (fun h2 => ?_) (fun h2 => stay fun z => z.elim (fun z => h (by rw [z])) (fun z => h2 (by rw [z]; rfl)))⟩)⟩
      all_goals
        first | refine ⟨_, rfl, _, rfl, _, _, _, _, rfl, rfl, SqT.of ht5, rfl, _, _, rfl, rfl, _, rfl, _, rfl, _, _, _, _, rfl, rfl, SqL.of hpc3, atI_nat hpat, _, _, rfl, rfl, And.intro (by show 2 ≤ sizeLine; decide) <| fun u1 m1 => And.intro (by show 1 ≤ sizeLine; decide) <| fun u2 m2 => ?_⟩ | refine ⟨_, rfl, _, rfl, _, rfl, _, _, _, _, rfl, rfl, SqL.of hpc3, atI_nat hpat, And.intro (by show 2 ≤ sizeLine; decide) <| fun u1 m1 => And.intro (by show 1 ≤ sizeLine; decide) <| fun u2 m2 => ?_⟩
        have kk1 := Keep.new (W := []) (o := .tup [.str "told", .int (tl st.sz x)]) m1
        have kk2 := Keep.new (W := []) (o := .tup [.ref u1]) m2
        exact grow (by first | exact .inl (i3 h) | exact .inr (i3 (z := 3) h2)) (kk1.trans kk2) upd_same (kk2 _ _ upd_same (by simp))
    · rintro σ H' ⟨v, o6, o7, rfl, hv, kk⟩
      exact ⟨_, rfl, k _ _ hv kk⟩
theorem rn_sum (S : List Stg) : ∀ n, ((List.range n).map fun j => (if (stg S (j + 1)).rd = true then (1 : Int) else 0)).sum = rn S (n + 1)
  | 0 => rfl
  | n + 1 => by
    rw [List.range_succ, List.map_append, List.sum_append, rn_sum S n]
    show rn S (n + 1) + ((if (stg S (n + 1)).rd = true then (1 : Int) else 0) + 0) = rn S (n + 1) + (if 0 < n + 1 ∧ (stg S (n + 1)).rd = true then 1 else 0)
    have : (0 < n + 1 ∧ (stg S (n + 1)).rd = true) ↔ (stg S (n + 1)).rd = true := ⟨fun h => h.2, fun h => ⟨by omega, h⟩⟩
    simp only [this, Int.add_zero]
theorem cut_take {p : List Nat} {k : Nat} (h : k ≤ p.length) : cutV (p.map nat) none (some (k : Int)) = (p.take k).map nat := by
  show ((p.map nat).drop (HT.sIx (p.map nat).length 0 none)).take (HT.sIx (p.map nat).length (p.map nat).length (some (k : Int)) - HT.sIx (p.map nat).length 0 none) = _
  rw [HT.sIx_none, HT.sIx_nat, List.drop_zero, Nat.sub_zero, List.length_map, Nat.min_eq_left h, List.map_take]
theorem ok_asked {f : Addr} {fd : FuncData} (D : C8.Def K mg "_law_asked" s_law_asked f fd) (b : Binds K fd ["stages", "path"] []) (T : Txt K mg C_End C_Lot C_Turn) (c_law_view : C8.Cal P w K mg base 1 "_law_view" sp_view []) : C8.Cal P w K mg base 2 "_law_asked" sp_asked [] := by
  refine cal0 D b .nil sc_law_asked (fun vs H Q E h => ?_) (fun cdv A outer s H vs Q E hr h => ?_)
  · obtain ⟨a, c, S, p, rfl, _⟩ := h
    rfl
  · obtain ⟨a, c, S, p, rfl, hS, hok, hp, hlen, k⟩ := h
    refine ⟨_, (pss_cons (ps_set (i := 2) sc_law_asked.nd rfl (by first | exact Or.inl rfl | exact Or.inr rfl) pe_int)
(pss_cons (ps_for PassesOwn.never rfl (pi_range1 (by rfl) T.n_range (pa_cons (pe_callB call_len_seq (by rfl) T.n_len bo_len (pa_cons (pv 1) pa_nil)) pa_nil)) (pg_name (i := 3) sc_law_asked.nd rfl (by first | exact Or.inl rfl | exact Or.inr rfl))
  (pss_one (ps_set (i := 2) sc_law_asked.nd rfl (by first | exact Or.inl rfl | exact Or.inr rfl) (pe_op op_add (pv 2) (pe_callTy call_int1 (by rfl) T.n_int bo_int (pa_cons (pe_cmpR op_ne (pe_ix ix_tup (pe_ix ix_list (pv 0) (pv 3) (fun _ _ => rfl)) pe_int (fun _ _ => rfl)) pe_int (nomark _)) pa_nil))))))
(pss_cons (ps_set (i := 4) sc_law_asked.nd rfl (by first | exact Or.inl rfl | exact Or.inr rfl) (pe_ix ix_list (pv 0) (pe_callB call_len_seq (by rfl) T.n_len bo_len (pa_cons (pv 1) pa_nil)) (fun _ _ => rfl)))
(pss_cons (ps_set (i := 5) sc_law_asked.nd rfl (by first | exact Or.inl rfl | exact Or.inr rfl) (pe_c c_law_view hr (by first | exact Nat.le_refl _ | decide | omega) rfl (pa_cons (pv 0) (pa_cons (pv 1) (pa_cons (pe_ix ix_tup (pv 4) pe_int (fun _ _ => rfl)) pa_nil)))))
(pss_cut (ps_if (PW.pt (pw_and (pt_cmpR op_gt (pe_callB call_len_seq (by rfl) T.n_len bo_len (pa_cons (pv 1) pa_nil)) pe_int (nomark _)) (pw_and1 (pt_val (pe_ix ix_tup (pv 4) pe_int (fun _ _ => rfl))))))
  (pss_one (ps_set (i := 5) sc_law_asked.nd rfl (by first | exact Or.inl rfl | exact Or.inr rfl) (pe_op op_catA (pv 5) (pe_tup (pa_cons (pe_tup (pa_cons pe_str (pa_cons (pe_callB (cr_sum rfl) (by rfl) T.n_sum bo_sum (pa_cons (pe_lc (own := [("k", 3)]) (g := gName 3) (tt := tYes) rfl sc_law_asked.nd (pi_range2 (by rfl) T.n_range (pa_cons pe_int (pa_cons (pe_op op_add (pe_callB call_len_seq (by rfl) T.n_len bo_len (pa_cons (pv 1) pa_nil)) pe_int) pa_nil))) (blkOk_by (N := ["stages", "path", "number", "k", "stage", "view"]) (sc := fnScope s_law_asked) (by decide +kernel)) (fun _ _ _ _ _ => pg_name (i := 3) sc_law_asked.nd rfl (Or.inl rfl)) (fun _ _ _ _ _ => pts_nil) (fun _ _ _ _ _ => (pe_callTy call_int1 (by rfl) T.n_int bo_int (pa_cons (pe_ix (ix_tupK (K := K)) (pe_ix (ix_listK (K := K)) (pv 0) (pv 3) (fun _ _ => rfl)) pe_int (fun _ _ => rfl)) pa_nil)))) pa_nil)) pa_nil))) pa_nil)))))
  pss_nil)
(pss_one (ps_ret (pe_op op_catA (pv 5) (pe_tup (pa_cons (pe_tup (pa_cons pe_str (pa_cons (pv 2) (pa_cons (pe_ix ix_tup (pv 4) pe_int (fun _ _ => rfl)) pa_nil)))) pa_nil)))))))))), ?_⟩
    obtain ⟨vs, hvs, hSL⟩ := id hS
    have hl4 := hok.len
    have hpl : (p.map nat).length = p.length := List.length_map _
    refine ⟨_, rfl, _, _, rfl, .inl (SqL.of hp), _, rfl, by omega, by omega, ?_⟩
    rw [hpl]
    refine for_range (lo := 0) (n := p.length) (fun i σ H' => H' = H ∧ ∃ o3, σ = [some (.ref a), some (.ref c), some (.int (nm S i)), o3, none, none]) ⟨rfl, none, rfl⟩ ?_ ?_
    · rintro i σ H' hi ⟨rfl, o3, rfl⟩
      have e0 : (0 : Int) + (i : Int) = (i : Int) := by omega
      rw [e0]
      obtain ⟨t, ht1, ht0⟩ := hSL.get (i := i) (by omega)
      refine ⟨_, rfl, _, rfl, _, rfl, _, _, _, _, rfl, rfl, SqL.of hvs, atI_nat ht1, _, _, _, _, rfl, rfl, SqT.of ht0, rfl, rfl, .inr ⟨_, rfl, _, _, rfl, rfl, rfl, some (.int (i : Int)), ?_⟩⟩
      have en : nm S (i + 1) = nm S i + (if (stg S i).pl ≠ 0 then 1 else 0) := rfl
      have e : (if (!decide (V.int ((stg S i).pl : Int) = V.int 0)) = true then (1 : Int) else 0) = (if (stg S i).pl ≠ 0 then 1 else 0) := by
        by_cases h : (stg S i).pl = 0
        · rw [h]; rfl
        · have : ¬ V.int ((stg S i).pl : Int) = V.int 0 := fun z => h (by have := V.int.inj z; omega)
          rw [decide_eq_false this, if_pos h]; rfl
      rw [e, en]; rfl
    · rintro σ H' ⟨rfl, o3, rfl⟩
      obtain ⟨t, ht1, ht0⟩ := hSL.get (i := p.length) hlen
      refine ⟨_, rfl, _, rfl, _, _, rfl, .inl (SqL.of hp), _, _, _, _, rfl, rfl, SqL.of hvs, atI_nat (by rw [hpl]; exact ht1), ?_⟩
      refine ⟨_, rfl, _, rfl, _, rfl, _, _, _, _, rfl, rfl, SqT.of ht0, rfl, a, c, S, p, (stg S p.length).pl, rfl, hS, hok, hp, by omega, fun v H1 hv K1 => ?_⟩
      have hvl := vw_len S (stg S p.length).pl p p.length
      have ht1' := K1 _ _ ht0 (by simp)
      generalize hst : stg S p.length = st at *
      refine ⟨fun σ H2 => ∃ v', σ = [some (.ref a), some (.ref c), some (.int (nm S p.length)), o3, some (.ref t), some v'] ∧ TD H2 v' (dView (vw S st.pl p p.length ++ rdE S p.length)) ∧ Keep [] H' H2, ?_, ?_⟩
      · have no : ¬ (0 < p.length ∧ st.rd = true) → ∃ v', [some (V.ref a), some (V.ref c), some (V.int (nm S p.length)), o3, some (V.ref t), some v] = [some (.ref a), some (.ref c), some (.int (nm S p.length)), o3, some (.ref t), some v'] ∧ TD H1 v' (dView (vw S st.pl p p.length ++ rdE S p.length)) ∧ Keep [] H' H1 := fun h => by
          unfold rdE
          rw [hst, if_neg h, List.append_nil]
          exact ⟨_, rfl, hv, K1⟩
        refine ⟨_, rfl, _, _, rfl, .inl (SqL.of (K1 _ _ hp (by simp))), _, _, rfl, rfl, _, rfl, iteD (fun h0 => ?_) (fun h0 => no fun z => h0 (by rw [hpl]; omega))⟩
        refine ⟨_, rfl, _, _, _, _, rfl, rfl, SqT.of ht1', rfl, _, rfl, iteB (fun h1 => ?_) (fun h1 => no fun z => by rw [h1] at z; cases z.2)⟩
        have yes : 0 < p.length ∧ st.rd = true := ⟨by omega, h1⟩
        refine ⟨_, rfl, _, rfl, _, _, rfl, .inl (SqL.of (K1 _ _ hp (by simp))), _, _, rfl, rfl, _, _, rfl, ⟨by decide, by decide, by rw [hpl]; omega, by rw [hpl]; omega⟩, fun L nL => ?_⟩
        have en : ((((p.map nat).length : Nat) : Int) + 1 - 1).toNat = p.length := by rw [hpl]; omega
        rw [en]
        have nL0 := K1.free nL
        refine lc_range (lo := 1) (n := p.length) (fun j H2 => H2 L = some (.lst (((List.range j).map fun j => (if (stg S (j + 1)).rd = true then (1 : Int) else 0)).map V.int)) ∧ Keep [] H1 H2) ⟨upd_same, Keep.new nL⟩ ?_ ?_
        · rintro j H2 hj ⟨hD, k2⟩
          obtain ⟨t2, ht21, ht20⟩ := hSL.get (i := j + 1) (by omega)
          have kk := K1.trans k2
          have e1 : (1 : Int) + (j : Int) = ((j + 1 : Nat) : Int) := by omega
          rw [e1]
          refine ⟨rfl, yes_then ⟨_, rfl, _, rfl, _, _, _, _, rfl, rfl, SqL.of (kk _ _ hvs (by simp)), atI_nat ht21, _, _, _, _, rfl, rfl, SqT.of (kk _ _ ht20 (by simp)), rfl, .inr ⟨_, rfl, _, hD, by rw [List.length_map, List.length_map, List.length_range]; exact smallL (by omega), ?_, k2.then_own nL⟩⟩⟩
          rw [upd_same, List.range_succ, List.map_append, List.map_append]; rfl
        · rintro H2 ⟨hD, k2⟩
          refine ⟨L, _, rfl, SqL.of hD, And.intro (by show 2 ≤ sizeLine; decide) <| fun u1 m1 => And.intro (by show 1 ≤ sizeLine; decide) <| fun u2 m2 => ?_⟩
          have ers := rn_sum S p.length
          generalize ((List.range p.length).map fun j => (if (stg S (j + 1)).rd = true then (1 : Int) else 0)).sum = rr at *
          subst ers
          have kk := (Keep.new (W := []) (o := .tup [.str "round", .int (rn S (p.length + 1))]) m1).then_new (o := .tup [.ref u1]) m2
          refine add_evs (M := [(("round" : Str), [rn S (p.length + 1)])]) ((hv.tk k2.tk).tk kk.tk) upd_same (.cons (.tup (Keep.new (W := []) m2 _ _ upd_same (by simp)) (.cons (.str _) (td_ints [_]))) .nil) (by simp only [List.length_cons, List.length_nil]; omega) fun q H3 k3 hq => ?_
          refine ⟨.ref q, rfl, ?_, ((K1.trans k2).trans kk).trans k3⟩
          unfold rdE
          rw [hst, if_pos yes]; exact hq
      rintro σ H2 ⟨v2, rfl, hv2, K2⟩
      have ht2 := K2 _ _ ht0 (by simp)
      have hl2 : (vw S st.pl p p.length ++ rdE S p.length).length ≤ 2 + 4 * p.length := by
        unfold rdE
        rw [List.length_append]
        split <;> simp only [List.length_cons, List.length_nil] <;> omega
      refine ⟨_, rfl, _, rfl, _, rfl, _, _, _, _, rfl, rfl, SqT.of ht2, rfl, And.intro (by show 3 ≤ sizeLine; decide) <| fun u1 m1 => And.intro (by show 1 ≤ sizeLine; decide) <| fun u2 m2 => ?_⟩
      have kk := (Keep.new (W := []) (o := .tup [.str "move", .int (nm S p.length), .int (st.sz : Int)]) m1).then_new (o := .tup [.ref u1]) m2
      refine add_evs (M := [(("move" : Str), [nm S p.length, (st.sz : Int)])]) (hv2.tk kk.tk) upd_same (.cons (.tup (Keep.new (W := []) m2 _ _ upd_same (by simp)) (.cons (.str _) (td_ints [_, _]))) .nil) (by simp only [List.length_cons, List.length_nil]; omega) fun q H3 k3 hq => ?_
      refine k _ _ ?_ ((K2.trans kk).trans k3)
      unfold asked
      rw [hst]; exact hq
theorem metK_len (S : List Stg) (pl : Nat) (p : List Nat) : ∀ k f, (metK S pl p k f).length ≤ f.length + k
  | 0, f => Nat.le_refl _
  | k + 1, f => by
    have := metK_len S pl p k f
    unfold metK
    split
    · unfold insR
      split
      · omega
      · rw [List.length_append]; simp; omega
    · omega
theorem metK_ok (S : List Stg) (pl : Nat) (p : List Nat) : ∀ k f, (∀ r ∈ f, ∀ e ∈ r.1, OkE e) → ∀ r ∈ metK S pl p k f, ∀ e ∈ r.1, OkE e
  | 0, f, h => h
  | k + 1, f, h => by
    have ih := metK_ok S pl p k f h
    unfold metK
    split
    · unfold insR
      split
      · exact ih
      · intro r hr
        rcases List.mem_append.mp hr with q | q
        · exact ih r q
        · rw [List.mem_singleton.mp q]; exact asked_ok S p k
    · exact ih
theorem mem_rows {f : List Row} {r : Row} (hf : ∀ r ∈ f, ∀ e ∈ r.1, OkE e) : ((f.map dRow).any fun z => PyData.eqv z (dRow r)) = decide (r ∈ f) := by
  rw [List.any_map]
  induction f with
  | nil => rfl
  | cons a l ih =>
    rw [List.any_cons, ih fun x hx => hf x (List.mem_cons_of_mem _ hx)]
    show (PyData.eqv (dRow a) (dRow r) || _) = _
    rw [eqv_row (hf a (List.mem_cons_self ..))]
    by_cases h : a = r
    · subst h; simp
    · have h' : ¬ r = a := fun z => h z.symm
      simp [h, h']
theorem TDs.map_dp {H : Hp} {K : PySem.W.Frag} {a : Addr} {xs : List V} {ds : List PyData} (h : H a = some (.lst xs)) (t : TDs H xs ds) : Dp K H (.ref a) (.list ds) := .lst (SqL.of h) t.dp
theorem ok_met {f : Addr} {fd : FuncData} (D : C8.Def K mg "_law_met" s_law_met f fd) (b : Binds K fd ["stages", "player"] []) (T : Txt K mg C_End C_Lot C_Turn) (c_law_paths : C8.Cal P w K mg base 1 "_law_paths" sp_paths []) (c_law_asked : C8.Cal P w K mg base 2 "_law_asked" sp_asked []) : C8.Cal P w K mg base 3 "_law_met" sp_met [] := by
  refine cal0 D b .nil sc_law_met (fun vs H Q E h => ?_) (fun cdv A outer s H vs Q E hr h => ?_)
  · obtain ⟨a, S, pl, rfl, _⟩ := h
    rfl
  · obtain ⟨a, S, pl, rfl, hS, hok, k⟩ := h
    refine ⟨_, (pss_cons (ps_set (i := 2) sc_law_met.nd rfl (by first | exact Or.inl rfl | exact Or.inr rfl) (pe_lst pa_nil))
(pss_cons (ps_for PassesOwn.never rfl (pi_list (pe_c c_law_paths hr (by first | exact Nat.le_refl _ | decide | omega) rfl (pa_cons (pv 0) pa_nil))) (pg_name (i := 3) sc_law_met.nd rfl (by first | exact Or.inl rfl | exact Or.inr rfl))
  (pss_one (ps_for PassesOwn.never rfl (pi_range1 (by rfl) T.n_range (pa_cons (pe_callB call_len_seq (by rfl) T.n_len bo_len (pa_cons (pv 0) pa_nil)) pa_nil)) (pg_name (i := 4) sc_law_met.nd rfl (by first | exact Or.inl rfl | exact Or.inr rfl))
    (pss_one (ps_if (pt_cmpR op_eq (pe_ix ix_tup (pe_ix ix_list (pv 0) (pv 4) (fun _ _ => rfl)) pe_int (fun _ _ => rfl)) (pv 1) (nomark _))
      (pss_cons (ps_set (i := 5) sc_law_met.nd rfl (by first | exact Or.inl rfl | exact Or.inr rfl) (pe_c c_law_asked hr (by first | exact Nat.le_refl _ | decide | omega) rfl (pa_cons (pv 0) (pa_cons (pe_slice sl_list (pv 3) po_none (po_some (pv 4))) pa_nil))))
      (pss_one (ps_if (pt_cmpR (op_notInD (un65 hr)) (pe_tup (pa_cons (pv 5) (pa_cons (pe_ix ix_tup (pe_ix ix_list (pv 0) (pv 4) (fun _ _ => rfl)) pe_int (fun _ _ => rfl)) pa_nil))) (pv 2) (by rfl))
        (pss_one (ps_expr (pe_bm PySem.F.plainAttrs_list PySem.F.slot_list_append PySem.F.type_list_append mt_append (pv 2) (pa_cons (pe_tup (pa_cons (pv 5) (pa_cons (pe_ix ix_tup (pe_ix ix_list (pv 0) (pv 4) (fun _ _ => rfl)) pe_int (fun _ _ => rfl)) pa_nil))) pa_nil))))
        pss_nil)))
      pss_nil)))))
(pss_one (ps_ret (pv 2))))), ?_⟩
    obtain ⟨vs, hvs, hSL⟩ := id hS
    have hl4 := hok.len
    have hlS := hSL.len
    refine And.intro (by show 0 ≤ sizeLine; decide) <| fun l nl => ?_
    have k0 : Keep [] H (upd H l (.lst [])) := Keep.new nl
    refine ⟨_, rfl, a, S, rfl, hS.keep k0, hok, fun pa ps H1 npa hpa hps fr K1 => ?_⟩
    have hpl := hps.len
    rw [paths_len] at hpl
    have hp100 := hok.prod
    have hpl' : ps.length = prodS S := by rw [hpl]; show prodS S * 1 = _; omega
    refine ⟨pa, rfl, ⟨_, SqL.of hpa⟩, for_list (K := K) (a := pa) (xs := ps) (fun i σ H' => ∃ (xs : List V) (o3 o4 o5 : Option V), σ = [some (.ref a), some (.int pl), some (.ref l), o3, o4, o5] ∧ H' l = some (.lst xs) ∧ TDs H' xs ((((paths S [[]]).take i).foldl (fun f p => metK S pl p S.length f) []).map dRow) ∧ (((paths S [[]]).take i).foldl (fun f p => metK S pl p S.length f) []).length ≤ 4 * i ∧ (∀ r ∈ ((paths S [[]]).take i).foldl (fun f p => metK S pl p S.length f) [], ∀ e ∈ r.1, OkE e) ∧ Keep [] H H' ∧ (∀ b o, H1 b = some o → b ≠ l → H' b = some o))
      ⟨[], _, _, _, rfl, K1 _ _ upd_same (by simp), .nil, Nat.le_refl _, (fun _ h => by cases h), k0.trans K1, fun b o h _ => h⟩ (fun i σ H' _ ⟨_, _, _, _, _, _, _, _, _, _, kk⟩ => SqL.of (kk _ _ hpa (ne_of_none upd_same npa).symm)) ?_ ?_⟩
    · rintro i v σ H2 hi ⟨xs, o3, o4, o5, rfl, hl, hxs, hlen, hoks, kk, kb⟩
      obtain ⟨u, p, rfl, hp, hu⟩ := hps.get hi
      have hil := (List.getElem?_eq_some_iff.mp hp).1
      have hpn : p.length = S.length := by
        have := paths_each S [[]] 0 (fun q hq => by rw [List.mem_singleton.mp hq]; rfl) p (List.mem_of_getElem? hp)
        omega
      have eti : (paths S [[]]).take (i + 1) = (paths S [[]]).take i ++ [p] := by
        rw [List.take_succ_eq_append_getElem hil]
        rw [List.getElem?_eq_getElem hil] at hp
        rw [Option.some.inj hp]
      rw [eti, List.foldl_append]
      show ∃ _, _
      generalize ((paths S [[]]).take i).foldl (fun f p => metK S pl p S.length f) [] = f0 at *
      have nul : u ≠ l := (ne_of_none upd_same (fr u (List.mem_of_getElem? hi))).symm
      have hu2 := kb _ _ hu nul
      have hib : i < 100 := by
        have := (List.getElem?_eq_some_iff.mp hi).1
        omega
      refine ⟨_, rfl, _, _, rfl, .inl (SqL.of (kk _ _ hvs (by simp))), _, rfl, by rw [hlS]; omega, by rw [hlS]; omega, ?_⟩
      rw [hlS]
      refine for_range (lo := 0) (n := S.length) (fun j σ H' => ∃ (xs : List V) (o4 o5 : Option V), σ = [some (.ref a), some (.int pl), some (.ref l), some (.ref u), o4, o5] ∧ H' l = some (.lst xs) ∧ TDs H' xs ((metK S pl p j f0).map dRow) ∧ Keep [] H H' ∧ (∀ b o, H1 b = some o → b ≠ l → H' b = some o)) ⟨xs, _, _, rfl, hl, hxs, kk, kb⟩ ?_ ?_
      · rintro j σ H3 hj ⟨xs3, o4, o5, rfl, hl3, hxs3, k3, kb3⟩
        have e0 : (0 : Int) + (j : Int) = (j : Int) := by omega
        rw [e0]
        obtain ⟨t, ht1, ht0⟩ := hSL.get hj
        have hfl := metK_len S pl p j f0
        have hfo := metK_ok S pl p j f0 hoks
        have hu3 := kb3 _ _ hu nul
        have emk : metK S pl p (j + 1) f0 = if (stg S j).pl = pl then insR (metK S pl p j f0) (asked S p j, ((stg S j).sz : Int)) else metK S pl p j f0 := rfl
        rw [emk]
        generalize metK S pl p j f0 = f1 at *
        refine ⟨_, rfl, _, rfl, _, _, _, _, rfl, rfl, SqL.of (k3 _ _ hvs (by simp)), atI_nat ht1, _, _, _, _, rfl, rfl, SqT.of (k3 _ _ ht0 (by simp)), rfl, _, rfl, rfl, _, rfl, iteD (fun h => ?_) (fun h => ?_)⟩
        rotate_left
        · have hn : ¬ (stg S j).pl = pl := fun z => h (by rw [z])
          rw [if_neg hn]
          exact ⟨xs3, _, _, rfl, hl3, hxs3, k3, kb3⟩
        have hy : (stg S j).pl = pl := by have := V.int.inj h; omega
        rw [if_pos hy]
        refine ⟨_, rfl, _, rfl, _, rfl, _, rfl, _, _, rfl, SqL.of hu3, fun q nq => ?_⟩
        rw [cut_take (by omega)]
        have kq : Keep [] H3 (upd H3 q (.lst ((p.take j).map nat))) := Keep.new nq
        have hpj : (p.take j).length = j := by rw [List.length_take]; omega
        refine ⟨a, q, S, p.take j, rfl, hS.keep (k3.trans kq), hok, upd_same, by rw [hpj]; exact hj, fun v4 H4 hv4 K4 => ?_⟩
        rw [hpj, asked_take] at hv4
        have kq4 : Keep [] H3 H4 := kq.trans K4
        have hl44 := kq4 _ _ hl3 (by simp)
        have k4 := k3.trans kq4
        refine ⟨_, rfl, _, rfl, _, rfl, _, _, _, _, rfl, rfl, SqL.of (k4 _ _ hvs (by simp)), atI_nat ht1, _, _, _, _, rfl, rfl, SqT.of (k4 _ _ ht0 (by simp)), rfl, And.intro (by show 2 ≤ sizeLine; decide) <| fun t5 nt5 => ?_⟩
        have k5 : Keep [] H4 (upd H4 t5 (.tup [v4, .int ((stg S j).sz : Int)])) := Keep.new nt5
        have hr5 : TD (upd H4 t5 (.tup [v4, .int ((stg S j).sz : Int)])) (.ref t5) (dRow (asked S p j, ((stg S j).sz : Int))) := .tup upd_same (.cons (hv4.tk k5.tk) (.cons (.int _) .nil))
        have hx5 := (hxs3.tk kq4.tk).tk k5.tk
        have hro : ∀ e ∈ (asked S p j, ((stg S j).sz : Int)).1, OkE e := asked_ok S p j
        refine ⟨_, rfl, _, _, hr5.dp, hx5.map_dp (k5 _ _ hl44 (by simp)), shaped_row hro, shaped_list (fun d hd => ?_) (fun d hd => ?_), _, rfl, ?_⟩
        · obtain ⟨r, hr, rfl⟩ := List.mem_map.mp hd
          exact shaped_row (hfo r hr)
        · obtain ⟨r, hr, rfl⟩ := List.mem_map.mp hd
          exact depth_row r
        rw [mem_rows hfo]
        unfold insR
        have kb5 : ∀ b o, H1 b = some o → b ≠ l → upd H4 t5 (.tup [v4, .int ((stg S j).sz : Int)]) b = some o := fun b o hb nb => k5 _ _ (kq4 _ _ (kb3 _ _ hb nb) (by simp)) (by simp)
        refine iteN (fun hm => ?_) (fun hm => ?_)
        · rw [if_neg hm]
          have k35 := kq4.trans k5
          have k05 := k3.trans k35
          refine ⟨_, rfl, .inl ⟨rfl, _, SqL.of (k5 _ _ hl44 (by simp))⟩, _, rfl, _, rfl, _, rfl, _, _, _, _, rfl, rfl, SqL.of (k05 _ _ hvs (by simp)), atI_nat ht1, _, _, _, _, rfl, rfl, SqT.of (k05 _ _ ht0 (by simp)), rfl, And.intro (by show 2 ≤ sizeLine; decide) <| fun t6 nt6 => ?_⟩
          have k6 := Keep.new (W := []) (o := .tup [v4, .int ((stg S j).sz : Int)]) nt6
          have hl6 := k6 _ _ (k5 _ _ hl44 (by simp)) (by simp)
          have hxl := hxs3.length
          rw [List.length_map] at hxl
          have tk6 := k6.tk.trans (TK.lst (o := .lst (xs3 ++ [.ref t6])) hl6)
          refine ⟨_, _, _, rfl, rfl, hl6, smallL (by omega), xs3 ++ [.ref t6], _, _, rfl, upd_same, ?_, (k05.trans k6).then_own nl, fun b o hb nb => by rw [upd_ne nb]; exact k6 _ _ (kb5 b o hb nb) (by simp)⟩
          rw [List.map_append]
          refine (hx5.tk tk6).snoc (.tup ?_ (.cons ((hv4.tk k5.tk).tk tk6) (.cons (.int _) .nil)))
          rw [upd_ne (ne_of_none (k5 _ _ hl44 (by simp)) nt6).symm]; exact upd_same
        · have hm' : (asked S p j, ((stg S j).sz : Int)) ∈ f1 := hm
          rw [if_pos hm']
          exact ⟨xs3, _, _, rfl, k5 _ _ hl44 (by simp), hx5, k4.trans k5, kb5⟩
      · rintro σ H3 ⟨xs3, o4, o5, rfl, hl3, hxs3, k3, kb3⟩
        have hfl := metK_len S pl p S.length f0
        exact ⟨xs3, _, _, _, rfl, hl3, hxs3, by show (metK S pl p S.length f0).length ≤ _; omega, metK_ok S pl p S.length f0 hoks, k3, kb3⟩
    · rintro σ H2 ⟨xs, o3, o4, o5, rfl, hl, hxs, hlen, hoks, kk, kb⟩
      rw [hps.len, List.take_length] at hxs
      exact ⟨_, rfl, k l xs _ nl hl hxs kk⟩
end

/-! the stages of this law -/
section
variable {P : Program} {w : World} {K : PySem.W.Frag} {mg : Str → Option Value} {base : Heap} {C_End : Addr} {C_Lot : Addr} {C_Turn : Addr}
theorem ok_stages {f : Addr} {fd : FuncData} (D : C8.Def K mg "_law_stages" s_law_stages f fd) (b : Binds K fd ["script", "most"] []) (T : Txt K mg C_End C_Lot C_Turn) (c_law_cell : C8.Cal P w K mg base 1 "_law_cell" (sp_cell K) []) (c_law_row : C8.Cal P w K mg base 1 "_law_row" sp_row []) : C8.Cal P w K mg base 2 "_law_stages" (sp_stages K 48) [] := by
  refine cal0 D b .nil sc_law_stages (fun vs H Q E h => ?_) (fun cdv A outer s H vs Q E hr h => ?_)
  · obtain ⟨a, ns, m, rfl, _⟩ := h
    rfl
  · obtain ⟨a, ns, m, rfl, hm, hS, k⟩ := h
    subst hm
    refine ⟨_, (pss_cons (ps_set (i := 2) sc_law_stages.nd rfl (by first | exact Or.inl rfl | exact Or.inr rfl) (pe_lst pa_nil))
(pss_cons (ps_set (i := 3) sc_law_stages.nd rfl (by first | exact Or.inl rfl | exact Or.inr rfl) pe_int)
(pss_cons (ps_set (i := 4) sc_law_stages.nd rfl (by first | exact Or.inl rfl | exact Or.inr rfl) (pe_c c_law_row hr (by first | exact Nat.le_refl _ | decide | omega) rfl (pa_cons (pe_c c_law_cell hr (by first | exact Nat.le_refl _ | decide | omega) rfl (pa_cons (pv 0) (pa_cons pe_int pa_nil))) (pa_cons pe_int (pa_cons pe_int pa_nil)))))
(pss_cons (ps_for PassesOwn.never rfl (pi_range1 (by rfl) T.n_range (pa_cons (pe_op op_mod (pe_callTy call_int1 (by rfl) T.n_int bo_int (pa_cons (pe_ix ix_list (pv 4) pe_int (fun _ _ => rfl)) pa_nil)) pe_int) pa_nil)) (pg_name (i := 5) sc_law_stages.nd rfl (by first | exact Or.inl rfl | exact Or.inr rfl))
  (pss_cons (ps_set (i := 6) sc_law_stages.nd rfl (by first | exact Or.inl rfl | exact Or.inr rfl) (pe_op op_add pe_int (pe_op op_mod (pe_callTy call_int1 (by rfl) T.n_int bo_int (pa_cons (pe_ix ix_list (pv 4) (pe_op op_add (pe_op op_mul pe_int (pv 5)) pe_int) (fun _ _ => rfl)) pa_nil)) pe_int)))
  (pss_cut (ps_if (pt_cmpR op_eq (pe_op op_mod (pe_op op_fdiv (pe_callTy call_int1 (by rfl) T.n_int bo_int (pa_cons (pe_ix ix_list (pv 4) (pe_op op_add (pe_op op_mul pe_int (pv 5)) pe_int) (fun _ _ => rfl)) pa_nil)) pe_int) pe_int) pe_int (nomark _))
    (pss_one (ps_set (i := 6) sc_law_stages.nd rfl (by first | exact Or.inl rfl | exact Or.inr rfl) (pe_op op_add (pe_op op_add pe_int (pe_op op_fdiv (pe_callTy call_int1 (by rfl) T.n_int bo_int (pa_cons (pe_ix ix_list (pv 4) (pe_op op_add (pe_op op_mul pe_int (pv 5)) pe_int) (fun _ _ => rfl)) pa_nil)) pe_int)) (pe_op op_fdiv (pe_callTy call_int1 (by rfl) T.n_int bo_int (pa_cons (pe_ix ix_list (pv 4) (pe_op op_add (pe_op op_mul pe_int (pv 5)) pe_int) (fun _ _ => rfl)) pa_nil)) pe_int))))
    pss_nil)
  (pss_cut (ps_if (pt_cmpR op_gt (pe_op op_mul (pv 3) (pv 6)) (pv 1) (nomark _))
    (pss_one (ps_set (i := 6) sc_law_stages.nd rfl (by first | exact Or.inl rfl | exact Or.inr rfl) pe_int))
    pss_nil)
  (pss_cons (ps_set (i := 3) sc_law_stages.nd rfl (by first | exact Or.inl rfl | exact Or.inr rfl) (pe_op op_mul (pv 3) (pv 6)))
  (pss_cons (ps_set (i := 7) sc_law_stages.nd rfl (by first | exact Or.inl rfl | exact Or.inr rfl) (pe_ix ix_tup (pe_tup (pa_cons pe_int (pa_cons pe_int (pa_cons pe_int (pa_cons pe_int (pa_cons pe_int pa_nil)))))) (pe_op op_mod (pe_callTy call_int1 (by rfl) T.n_int bo_int (pa_cons (pe_ix ix_list (pv 4) (pe_op op_add (pe_op op_mul pe_int (pv 5)) pe_int) (fun _ _ => rfl)) pa_nil)) pe_int) (fun _ _ => rfl)))
  (pss_one (ps_expr (pe_bm PySem.F.plainAttrs_list PySem.F.slot_list_append PySem.F.type_list_append mt_append (pv 2) (pa_cons (pe_tup (pa_cons (pe_op op_mod (pe_callTy call_int1 (by rfl) T.n_int bo_int (pa_cons (pe_ix ix_list (pv 4) (pe_op op_add (pe_op op_mul pe_int (pv 5)) pe_int) (fun _ _ => rfl)) pa_nil)) pe_int) (pa_cons (pv 6) (pa_cons (pv 7) (pa_cons (pe_cmpR op_eq (pe_op op_mod (pe_callTy call_int1 (by rfl) T.n_int bo_int (pa_cons (pe_ix ix_list (pv 4) (pe_op op_add (pe_op op_mul pe_int (pv 5)) pe_int) (fun _ _ => rfl)) pa_nil)) pe_int) pe_int (nomark _)) pa_nil))))) pa_nil))))))))))
(pss_one (ps_ret (pv 2))))))), ?_⟩
    refine And.intro (by show 0 ≤ sizeLine; decide) <| fun l nl => ?_
    have k0 : Keep [] H (upd H l (.lst [])) := Keep.new nl
    refine ⟨_, rfl, a, ns, 0, rfl, k0.seqL hS (by simp), _, 20, 60, rfl, by decide, by decide, by decide, fun g ds H1 ng hg hdl hds K1 => ?_⟩
    have dig : ∀ j : Nat, j < 20 → ∃ z : Nat, (ds.map nat)[j]? = some (nat z) ∧ z < 60 := fun j hj => by
      have hj' : j < ds.length := by omega
      have h := hds _ (List.getElem_mem hj')
      exact ⟨ds[j], by rw [List.getElem?_map, List.getElem?_eq_getElem hj']; rfl, by omega⟩
    obtain ⟨z0, hz0, hz0b⟩ := dig 0 (by decide)
    refine ⟨_, rfl, _, _, _, _, rfl, rfl, SqL.of hg, atI_nat (j := 0) hz0, .inl ⟨_, rfl, _, _, rfl, rfl, by show (0 : Int) < 5; decide, ((z0 : Nat) : Int) % 5, rfl, by omega, by omega, ?_⟩⟩
    have hl1 := K1 _ _ (upd_same (H := H) (a := l) (o := .lst [])) (by simp)
    have hgl : g ≠ l := (ne_of_none upd_same ng).symm
    refine for_range (lo := 0) (n := (((z0 : Nat) : Int) % 5).toNat) (fun i σ H' => ∃ (S : List Stg) (o5 o6 o7 : Option V), σ = [some (.ref a), some (.int (48 : Nat)), some (.ref l), some (.int (prodS S : Nat)), some (.ref g), o5, o6, o7] ∧ StA H' l S ∧ (∀ s ∈ S, s.Ok) ∧ S.length = i ∧ prodS S ≤ 48 ∧ H' g = some (.lst (ds.map nat)) ∧ Keep [] H H')
      ⟨[], _, _, _, rfl, ⟨[], hl1, .nil⟩, (fun _ h => by cases h), rfl, by decide, hg, k0.trans K1⟩ ?_ ?_
    · rintro i σ H2 hi ⟨S, o5, o6, o7, rfl, ⟨vs, hvs, hSL⟩, hoks, hSn, hpr, hg2, k2⟩
      have hi5 : i < 4 := by omega
      have e0 : (0 : Int) + (i : Int) = (i : Int) := by omega
      rw [e0]
      have dg : ∀ j : Nat, j ≤ 4 → ∃ z : Nat, atI (ds.map nat) (((4 * i + j : Nat) : Int)) = some (nat z) ∧ z < 60 := fun j hj => by
        obtain ⟨z, h1, h2⟩ := dig (4 * i + j) (by omega)
        exact ⟨z, atI_nat h1, h2⟩
      obtain ⟨d1, hd1, hd1b⟩ := dg 1 (by decide)
      obtain ⟨d2, hd2, hd2b⟩ := dg 2 (by decide)
      obtain ⟨d3, hd3, hd3b⟩ := dg 3 (by decide)
      obtain ⟨d4, hd4, hd4b⟩ := dg 4 (by decide)
      have c1 : ((4 * i + 1 : Nat) : Int) = 4 * (i : Int) + 1 := by omega
      have c2 : ((4 * i + 2 : Nat) : Int) = 4 * (i : Int) + 2 := by omega
      have c3 : ((4 * i + 3 : Nat) : Int) = 4 * (i : Int) + 3 := by omega
      have c4 : ((4 * i + 4 : Nat) : Int) = 4 * (i : Int) + 4 := by omega
      rw [c1] at hd1
      rw [c2] at hd2
      rw [c3] at hd3
      rw [c4] at hd4
      clear c1 c2 c3 c4
      have mc : (fun i j : Int => True) 0 0 := trivial
      refine ⟨_, rfl, _, rfl, _, _, rfl, rfl, .inl ⟨by decide, by decide⟩, _, _, rfl, rfl, _, _, _, _, rfl, rfl, SqL.of hg2, hd1, .inl ⟨_, rfl, _, _, rfl, rfl, by show (0 : Int) < 3; decide, _, _, rfl, rfl, ?_⟩⟩
      have getd : ∀ {j : Int} {z : Nat} {Q' : VK}, atI (ds.map nat) (4 * (i : Int) + j) = some (nat z) → Q' (nat z) H2 → rIxL K (.ref g) (.int (4 * (i : Int) + j)) H2 Q' := fun h q => ⟨_, _, _, _, rfl, rfl, SqL.of hg2, h, q⟩
      refine ⟨fun σ H' => ∃ sz : Nat, 1 ≤ sz ∧ sz ≤ 60 ∧ H' = H2 ∧ σ = [some (.ref a), some (.int (48 : Nat)), some (.ref l), some (.int (prodS S : Nat)), some (.ref g), some (.int (i : Int)), some (.int (sz : Nat)), o7], ?_, ?_⟩
      · refine ⟨_, rfl, _, rfl, _, _, rfl, rfl, .inl ⟨by decide, by decide⟩, _, _, rfl, rfl, getd hd1 (.inl ⟨_, rfl, _, _, rfl, rfl, ⟨by decide, by decide⟩, _, _, rfl, rfl, by show (0 : Int) < 4; decide, rfl, _, rfl, iteD (fun _ => ?_) (fun _ => ⟨1 + d1 % 3, by omega, by omega, rfl, ?_⟩)⟩)⟩
        · refine ⟨_, rfl, _, rfl, _, _, rfl, rfl, .inl ⟨by decide, by decide⟩, _, _, rfl, rfl, getd hd1 (.inl ⟨_, rfl, _, _, rfl, rfl, ⟨by decide, by decide⟩, _, _, rfl, rfl, _, rfl, _, rfl, _, _, rfl, rfl, .inl ⟨by decide, by decide⟩, _, _, rfl, rfl, getd hd2 (.inl ⟨_, rfl, _, _, rfl, rfl, ⟨by decide, by decide⟩, _, _, rfl, rfl, 1 + d1 / 12 + d2 / 15, by omega, by omega, rfl, ?_⟩)⟩)⟩
          rfl
        · rfl
      rintro σ H3 ⟨sz, s0, s1, rfl, rfl⟩
      -- not too many
      refine ⟨fun σ H' => ∃ sz : Nat, 1 ≤ sz ∧ sz ≤ 60 ∧ prodS S * sz ≤ 48 ∧ H' = H3 ∧ σ = [some (.ref a), some (.int (48 : Nat)), some (.ref l), some (.int (prodS S : Nat)), some (.ref g), some (.int (i : Int)), some (.int (sz : Nat)), o7], ?_, ?_⟩
      · have hmul : ((prodS S : Nat) : Int) * ((sz : Nat) : Int) = ((prodS S * sz : Nat) : Int) := by rw [Int.natCast_mul]
        refine ⟨_, rfl, _, rfl, _, _, rfl, rfl, .inl ⟨by omega, by omega⟩, _, rfl, _, _, rfl, rfl, _, rfl, ?_⟩
        rw [hmul]
        refine iteD (fun h => ⟨1, by decide, by decide, by omega, rfl, rfl⟩) (fun h => ⟨sz, s0, s1, by omega, rfl, rfl⟩)
      rintro σ H4 ⟨sz, s0, s1, hps, rfl, rfl⟩
      have hmul : ((prodS S : Nat) : Int) * ((sz : Nat) : Int) = ((prodS S * sz : Nat) : Int) := by rw [Int.natCast_mul]
      refine ⟨_, rfl, _, rfl, _, _, rfl, rfl, .inl ⟨by omega, by omega⟩, ?_⟩
      obtain ⟨sh, hsh, hshb⟩ : ∃ sh : Nat, atI ([.int 0, .int 0, .int 1, .int 2, .int 3] : List V) (((d2 : Nat) : Int) % 5) = some (.int (sh : Int)) ∧ sh < 4 := by
        have : ((d2 : Nat) : Int) % 5 = 0 ∨ ((d2 : Nat) : Int) % 5 = 1 ∨ ((d2 : Nat) : Int) % 5 = 2 ∨ ((d2 : Nat) : Int) % 5 = 3 ∨ ((d2 : Nat) : Int) % 5 = 4 := by omega
        rcases this with h | h | h | h | h <;> rw [h]
        · exact ⟨0, rfl, by decide⟩
        · exact ⟨0, rfl, by decide⟩
        · exact ⟨1, rfl, by decide⟩
        · exact ⟨2, rfl, by decide⟩
        · exact ⟨3, rfl, by decide⟩
      refine And.intro (by show 5 ≤ sizeLine; decide) <| fun t5 nt5 => ?_
      have k5 : Keep [] H4 (upd H4 t5 (.tup [.int 0, .int 0, .int 1, .int 2, .int 3])) := Keep.new nt5
      have ht5 : upd H4 t5 (.tup [.int 0, .int 0, .int 1, .int 2, .int 3]) t5 = some (.tup [.int 0, .int 0, .int 1, .int 2, .int 3]) := upd_same
      generalize upd H4 t5 (.tup [.int 0, .int 0, .int 1, .int 2, .int 3]) = H5 at *
      have hg5 := k5 _ _ hg2 (by simp)
      have getd5 : ∀ {j : Int} {z : Nat} {Q' : VK}, atI (ds.map nat) (4 * (i : Int) + j) = some (nat z) → Q' (nat z) H5 → rIxL K (.ref g) (.int (4 * (i : Int) + j)) H5 Q' := fun h q => ⟨_, _, _, _, rfl, rfl, SqL.of hg5, h, q⟩
      refine ⟨_, rfl, _, rfl, _, _, rfl, rfl, .inl ⟨by decide, by decide⟩, _, _, rfl, rfl, getd5 hd2 (.inl ⟨_, rfl, _, _, rfl, rfl, by show (0 : Int) < 5; decide, _, _, _, _, rfl, rfl, SqT.of ht5, hsh, ?_⟩)⟩
      have hvs5 := k5 _ _ hvs (by simp)
      refine ⟨_, rfl, .inl ⟨rfl, _, SqL.of hvs5⟩, _, rfl, _, rfl, _, _, rfl, rfl, .inl ⟨by decide, by decide⟩, _, _, rfl, rfl, getd5 hd3 (.inl ⟨_, rfl, _, _, rfl, rfl, by show (0 : Int) < 3; decide, _, rfl, _, rfl, _, rfl, _, rfl, _, _, rfl, rfl, .inl ⟨by decide, by decide⟩, _, _, rfl, rfl, getd5 hd4 (.inl ⟨_, rfl, _, _, rfl, rfl, by show (0 : Int) < 3; decide, rfl, And.intro (by show 4 ≤ sizeLine; decide) <| fun u nu => ?_⟩)⟩)⟩
      have e3 : ((d3 : Nat) : Int) % 3 = ((d3 % 3 : Nat) : Int) := by omega
      have hrow : ([.int (((d3 : Nat) : Int) % 3), .int (sz : Int), .int (sh : Int), .bl (decide (V.int (((d4 : Nat) : Int) % 3) = V.int 1))] : List V) = Stg.row ⟨d3 % 3, sz, sh, decide (V.int (((d4 : Nat) : Int) % 3) = V.int 1)⟩ := by rw [e3]; rfl
      have k6 : Keep [] H5 (upd H5 u (.tup [.int (((d3 : Nat) : Int) % 3), .int (sz : Int), .int (sh : Int), .bl (decide (V.int (((d4 : Nat) : Int) % 3) = V.int 1))])) := Keep.new nu
      have hvs6 := k6 _ _ hvs5 (by simp)
      have hln := hSL.len
      have tk6 := (k5.trans k6).tk.trans (TK.lst (o := .lst (vs ++ [.ref u])) hvs6)
      have hul : u ≠ l := (ne_of_none hvs5 nu).symm
      refine ⟨_, _, _, rfl, rfl, hvs6, smallL (by omega), S ++ [⟨d3 % 3, sz, sh, decide (V.int (((d4 : Nat) : Int) % 3) = V.int 1)⟩], some (.int (i : Int)), some (.int (sz : Int)), some (.int (sh : Int)), ?_, ⟨vs ++ [.ref u], upd_same, (hSL.tk tk6).snoc (by rw [← hrow, upd_ne hul]; exact upd_same)⟩, fun s hs => ?_, by rw [List.length_append, hSn]; rfl, by rw [prod_app]; exact hps, by rw [upd_ne hgl]; exact k6 _ _ hg5 (by simp), (k2.trans (k5.trans k6)).then_own nl⟩
      · rw [prod_app, Int.natCast_mul]; rfl
      · rcases List.mem_append.mp hs with q | q
        · exact hoks s q
        · rw [List.mem_singleton.mp q]
          exact ⟨by show d3 % 3 < 3; omega, s0, by show sz ≤ 100; omega, hshb⟩
    · rintro σ H2 ⟨S, o5, o6, o7, rfl, hst, hoks, hSn, hpr, hg2, k2⟩
      exact ⟨_, rfl, k l S _ nl hst ⟨hoks, by omega, by omega⟩ hpr k2⟩
end

/-! trees of chances and turns -/
inductive TM where
  | fin
  | lot (ps : List TM)
  | turn (q : Nat) (es : List Ev) (ps : List TM)
mutual
def TM.hgt : TM → Nat
  | .fin => 0
  | .lot ps => hgts ps + 1
  | .turn _ _ ps => hgts ps + 1
def TM.hgts : List TM → Nat
  | [] => 0
  | m :: ms => Nat.max m.hgt (hgts ms)
end
mutual
def TM.nds : TM → Nat
  | .fin => 1
  | .lot ps => ndss ps + 1
  | .turn _ _ ps => ndss ps + 1
def TM.ndss : List TM → Nat
  | [] => 0
  | m :: ms => m.nds + ndss ms
end
theorem hgts_get : ∀ {ps : List TM} {i : Nat} {m : TM}, ps[i]? = some m → m.hgt ≤ TM.hgts ps
  | p :: ps, 0, m, h => by simp at h; subst h; exact Nat.le_max_left ..
  | p :: ps, i + 1, m, h => by simp at h; exact Nat.le_trans (hgts_get h) (Nat.le_max_right ..)
theorem ndss_app : ∀ ps qs : List TM, TM.ndss (ps ++ qs) = TM.ndss ps + TM.ndss qs
  | [], qs => by show _ = 0 + _; rw [Nat.zero_add]; rfl
  | p :: ps, qs => by show p.nds + TM.ndss (ps ++ qs) = p.nds + TM.ndss ps + TM.ndss qs; rw [ndss_app ps qs]; omega
theorem nds_pos : ∀ m : TM, 1 ≤ m.nds
  | .fin => Nat.le_refl _
  | .lot ps => Nat.le_add_left ..
  | .turn _ _ ps => Nat.le_add_left ..
theorem ndss_len : ∀ ps : List TM, ps.length ≤ TM.ndss ps
  | [] => Nat.le_refl _
  | p :: ps => by
    have h1 := nds_pos p
    have h2 := ndss_len ps
    show ps.length + 1 ≤ p.nds + TM.ndss ps
    omega
theorem ndss_take (ps : List TM) {i : Nat} {m : TM} (h : ps[i]? = some m) : TM.ndss (ps.take i) + m.nds ≤ TM.ndss ps := by
  have hi := (List.getElem?_eq_some_iff.mp h)
  obtain ⟨hi, e⟩ := hi
  have e2 : ps = ps.take i ++ (m :: ps.drop (i + 1)) := by
    rw [← e, List.getElem_cons_drop hi, List.take_append_drop]
  rw [e2, ndss_app]
  have e3 : (ps.take i ++ (m :: ps.drop (i + 1))).take i = ps.take i := by rw [← e2]
  rw [e3]
  show TM.ndss (ps.take i) + m.nds ≤ TM.ndss (ps.take i) + (m.nds + TM.ndss (ps.drop (i + 1)))
  omega
section
variable (CE CL CT : Addr)
mutual
def TA (H : Hp) : TM → V → Prop
  | .fin, v => ∃ p dx z, v = .ref p ∧ H p = some (.ins CE dx [("paid", z)])
  | .lot ps, v => ∃ p dx t vs, v = .ref p ∧ H p = some (.ins CL dx [("parts", .ref t)]) ∧ H t = some (.tup vs) ∧ TAs H ps vs
  | .turn q es ps, v => ∃ p dx w t vs, v = .ref p ∧ H p = some (.ins CT dx [("player", .int q), ("view", w), ("parts", .ref t)]) ∧ TD H w (dView es) ∧ H t = some (.tup vs) ∧ TAs H ps vs
def TAs (H : Hp) : List TM → List V → Prop
  | [], vs => vs = []
  | m :: ms, vs => ∃ v r, vs = v :: r ∧ TA H m v ∧ TAs H ms r
end
end
theorem Keep.made {H : Hp} {x d : Addr} {o : HO} (hx : H x = none) (hd : H d = none) : Keep [] H (upd (upd H d (.own x)) x o) := fun b u q _ => by
  rw [upd_ne (ne_of_none q hx), upd_ne (ne_of_none q hd)]; exact q
/-- tuples and instances stand -/
def KI (H H' : Hp) : Prop := (∀ b xs, H b = some (.tup xs) → H' b = some (.tup xs)) ∧ ∀ b C dx fs, H b = some (.ins C dx fs) → H' b = some (.ins C dx fs)
theorem KI.tk {H H' : Hp} (k : KI H H') : TK H H' := k.1
theorem KI.of {H H' : Hp} (k : Keep [] H H') : KI H H' := ⟨fun b xs h => k _ _ h (by simp), fun b C dx fs h => k _ _ h (by simp)⟩
theorem KI.trans {H H1 H2 : Hp} (a : KI H H1) (b : KI H1 H2) : KI H H2 := ⟨fun c xs h => b.1 _ _ (a.1 _ _ h), fun c C dx fs h => b.2 _ _ _ _ (a.2 _ _ _ _ h)⟩
theorem KI.at_ {H H' : Hp} {d : Addr} {o : HO} (hd : H d = some o) (k : Keep [d] H H') (h1 : ∀ xs, o ≠ .tup xs) (h2 : ∀ C dx fs, o ≠ .ins C dx fs) : KI H H' :=
  ⟨fun b xs h => k _ _ h (by intro z; rw [List.mem_singleton.mp z] at h; exact h1 _ (Option.some.inj (hd.symm.trans h))), fun b C dx fs h => k _ _ h (by intro z; rw [List.mem_singleton.mp z] at h; exact h2 _ _ _ (Option.some.inj (hd.symm.trans h)))⟩
theorem KI.lst {H : Hp} {d : Addr} {o : HO} {xs : List V} (hd : H d = some (.lst xs)) : KI H (upd H d o) := KI.at_ hd (Keep.at_ (by simp)) (fun _ z => nomatch z) (fun _ _ _ z => nomatch z)
mutual
theorem TA.ki {CE CL CT : Addr} {H H' : Hp} (k : KI H H') : ∀ (m : TM) {v : V}, TA CE CL CT H m v → TA CE CL CT H' m v
  | .fin, _, ⟨p, dx, z, e, h⟩ => ⟨p, dx, z, e, k.2 _ _ _ _ h⟩
  | .lot ps, _, ⟨p, dx, t, vs, e, h, ht, hs⟩ => ⟨p, dx, t, vs, e, k.2 _ _ _ _ h, k.1 _ _ ht, TAs.ki k ps hs⟩
  | .turn q es ps, _, ⟨p, dx, w, t, vs, e, h, hw, ht, hs⟩ => ⟨p, dx, w, t, vs, e, k.2 _ _ _ _ h, hw.tk k.1, k.1 _ _ ht, TAs.ki k ps hs⟩
theorem TAs.ki {CE CL CT : Addr} {H H' : Hp} (k : KI H H') : ∀ (ms : List TM) {vs : List V}, TAs CE CL CT H ms vs → TAs CE CL CT H' ms vs
  | [], _, h => h
  | m :: ms, _, ⟨v, r, e, h, hs⟩ => ⟨v, r, e, TA.ki k m h, TAs.ki k ms hs⟩
end
theorem TAs.get {CE CL CT : Addr} {H : Hp} : ∀ {ms : List TM} {vs : List V} {i : Nat} {v : V}, TAs CE CL CT H ms vs → vs[i]? = some v → ∃ m, ms[i]? = some m ∧ TA CE CL CT H m v
  | [], vs, i, v, h, e => by rw [show vs = [] from h] at e; simp at e
  | m :: ms, vs, 0, v, ⟨u, r, e1, h, hs⟩, e => by subst e1; simp at e; subst e; exact ⟨m, rfl, h⟩
  | m :: ms, vs, i + 1, v, ⟨u, r, e1, h, hs⟩, e => by subst e1; simp at e; obtain ⟨n, a, b⟩ := TAs.get hs e; exact ⟨n, by simpa using a, b⟩
theorem TAs.len {CE CL CT : Addr} {H : Hp} : ∀ {ms : List TM} {vs : List V}, TAs CE CL CT H ms vs → vs.length = ms.length
  | [], vs, h => by rw [show vs = [] from h]; rfl
  | m :: ms, vs, ⟨u, r, e1, h, hs⟩ => by rw [e1, List.length_cons, List.length_cons, TAs.len hs]
theorem TAs.app {CE CL CT : Addr} {H : Hp} : ∀ {ms ns : List TM} {vs ws : List V}, TAs CE CL CT H ms vs → TAs CE CL CT H ns ws → TAs CE CL CT H (ms ++ ns) (vs ++ ws)
  | [], ns, vs, ws, h, g => by rw [show vs = [] from h]; exact g
  | m :: ms, ns, vs, ws, ⟨u, r, e1, h, hs⟩, g => ⟨u, r ++ ws, by rw [e1]; rfl, h, TAs.app hs g⟩
theorem TAs.snoc {CE CL CT : Addr} {H : Hp} {ms : List TM} {vs : List V} {m : TM} {v : V} (h : TAs CE CL CT H ms vs) (g : TA CE CL CT H m v) : TAs CE CL CT H (ms ++ [m]) (vs ++ [v]) := h.app ⟨v, [], rfl, g, rfl⟩
theorem TAs.rev {CE CL CT : Addr} {H : Hp} : ∀ {ms : List TM} {vs : List V}, TAs CE CL CT H ms vs → TAs CE CL CT H ms.reverse vs.reverse
  | [], vs, h => by rw [show vs = [] from h]; rfl
  | m :: ms, vs, ⟨u, r, e1, h, hs⟩ => by rw [e1, List.reverse_cons, List.reverse_cons]; exact (TAs.rev hs).snoc h
/-! the views that one player meets, in order -/
def insV (f : List Row) (r : Row) : List Row := if f.any (fun x => decide (x.1 = r.1)) = true then f else f ++ [r]
mutual
def coll (pl : Nat) : TM → List Row → List Row
  | .fin, f => f
  | .lot ps, f => colls pl ps f
  | .turn q es ps, f => colls pl ps (if q = pl then insV f (es, (ps.length : Int)) else f)
def colls (pl : Nat) : List TM → List Row → List Row
  | [], f => f
  | m :: ms, f => colls pl ms (coll pl m f)
end
theorem colls_app (pl : Nat) : ∀ (ps qs : List TM) (f : List Row), colls pl (ps ++ qs) f = colls pl qs (colls pl ps f)
  | [], _, _ => rfl
  | _ :: ps, qs, f => colls_app pl ps qs _
theorem insV_len (f : List Row) (r : Row) : (insV f r).length ≤ f.length + 1 := by
  unfold insV
  split
  · omega
  · simp
mutual
theorem coll_len (pl : Nat) : ∀ (m : TM) (f : List Row), (coll pl m f).length ≤ f.length + m.nds
  | .fin, f => Nat.le_add_right ..
  | .lot ps, f => by
    have := colls_len pl ps f
    show (colls pl ps f).length ≤ f.length + (TM.ndss ps + 1)
    omega
  | .turn q es ps, f => by
    have := colls_len pl ps (if q = pl then insV f (es, (ps.length : Int)) else f)
    have h2 : (if q = pl then insV f (es, (ps.length : Int)) else f).length ≤ f.length + 1 := by
      split
      · exact insV_len ..
      · omega
    show (colls pl ps _).length ≤ f.length + (TM.ndss ps + 1)
    omega
theorem colls_len (pl : Nat) : ∀ (ms : List TM) (f : List Row), (colls pl ms f).length ≤ f.length + TM.ndss ms
  | [], f => Nat.le_add_right ..
  | m :: ms, f => by
    have h1 := coll_len pl m f
    have h2 := colls_len pl ms (coll pl m f)
    show (colls pl ms (coll pl m f)).length ≤ f.length + (m.nds + TM.ndss ms)
    omega
end
/-! a tree whose players remember: their last rows at each turn are the given ones -/
mutual
def keepsM : TM → Option Row → Option Row → Bool
  | .fin, _, _ => true
  | .lot ps, a, b => keepsL ps a b
  | .turn q es ps, a, b => decide (lastRow es = if q = 1 then a else b) && keepsT q es 0 ps a b
def keepsL : List TM → Option Row → Option Row → Bool
  | [], _, _ => true
  | m :: ms, a, b => keepsM m a b && keepsL ms a b
def keepsT (q : Nat) (es : List Ev) : Nat → List TM → Option Row → Option Row → Bool
  | _, [], _, _ => true
  | k, m :: ms, a, b => (if q = 1 then keepsM m (some (es, (k : Int))) b else keepsM m a (some (es, (k : Int)))) && keepsT q es (k + 1) ms a b
end
/-! keys -/
def keyE (e : Ev) : NestedKey := .tup (.text e.1 :: e.2.map .num)
def keyV (L : List Ev) : NestedKey := .tup (L.map keyE)
theorem nk_ints {H : Hp} : ∀ l : List Int, NKs H (l.map NestedKey.num) (l.map V.int)
  | [] => .nil
  | a :: r => .cons (.num a) (nk_ints r)
theorem tds_ints {H : Hp} : ∀ {l : List Int} {vs : List V}, TDs H vs (l.map PyData.int) → vs = l.map V.int
  | [], _, h => by cases h; rfl
  | a :: r, _, h => by
    cases h with
    | cons h1 h2 => cases h1; rw [tds_ints h2]; rfl
theorem nk_ev {H : Hp} {v : V} {e : Ev} (h : TD H v (dEv e)) : NK H (keyE e) v := by
  unfold dEv at h
  cases h with
  | tup h1 h2 =>
    cases h2 with
    | cons h3 h4 =>
      cases h3
      rw [tds_ints h4] at h1
      exact .tup h1 (.cons (.text _) (nk_ints _))
theorem nk_evs {H : Hp} : ∀ {L : List Ev} {vs : List V}, TDs H vs (L.map dEv) → NKs H (L.map keyE) vs
  | [], _, h => by cases h; exact .nil
  | e :: L, _, h => by
    cases h with
    | cons h1 h2 => exact .cons (nk_ev h1) (nk_evs h2)
theorem nk_view {H : Hp} {v : V} {L : List Ev} (h : TD H v (dView L)) : NK H (keyV L) v := by
  unfold dView at h
  cases h with
  | tup h1 h2 => exact .tup h1 (nk_evs h2)
theorem keyI_inj : ∀ {l m : List Int}, l.map NestedKey.num = m.map NestedKey.num → l = m
  | [], [], _ => rfl
  | [], _ :: _, h => by simp at h
  | _ :: _, [], h => by simp at h
  | a :: l, b :: m, h => by
    simp only [List.map_cons, List.cons.injEq, NestedKey.num.injEq] at h
    rw [h.1, keyI_inj h.2]
theorem keyE_inj {e f : Ev} (h : keyE e = keyE f) : e = f := by
  unfold keyE at h
  simp only [NestedKey.tup.injEq, List.cons.injEq, NestedKey.text.injEq] at h
  exact Prod.ext h.1 (keyI_inj h.2)
theorem keyEs_inj : ∀ {l m : List Ev}, l.map keyE = m.map keyE → l = m
  | [], [], _ => rfl
  | [], _ :: _, h => by simp at h
  | _ :: _, [], h => by simp at h
  | a :: l, b :: m, h => by
    simp only [List.map_cons, List.cons.injEq] at h
    rw [keyE_inj h.1, keyEs_inj h.2]
theorem keyV_inj {l m : List Ev} (h : keyV l = keyV m) : l = m := keyEs_inj (NestedKey.tup.inj h)
theorem depth_ks : ∀ l : List Int, NestedKey.depthAll (l.map NestedKey.num) = 0
  | [] => rfl
  | a :: r => by
    show max 0 (NestedKey.depthAll (r.map NestedKey.num)) = 0
    rw [depth_ks r]; rfl
theorem depth_ke (e : Ev) : (keyE e).depth = 1 := by
  show max 0 (NestedKey.depthAll (e.2.map NestedKey.num)) + 1 = 1
  rw [depth_ks]; rfl
theorem depth_kes : ∀ L : List Ev, NestedKey.depthAll (L.map keyE) ≤ 1
  | [] => Nat.zero_le _
  | e :: L => by
    show max (keyE e).depth (NestedKey.depthAll (L.map keyE)) ≤ 1
    rw [depth_ke]
    exact Nat.max_le.mpr ⟨Nat.le_refl _, depth_kes L⟩
theorem depth_kv (L : List Ev) : (keyV L).depth ≤ 8 := by
  have := depth_kes L
  show NestedKey.depthAll (L.map keyE) + 1 ≤ 8
  omega
/-! the dict of views -/
inductive FE (H : Hp) : List Ent → List Row → Prop
  | nil : FE H [] []
  | cons {b : Addr} {xs : List Ent} {f : List Row} {r : Row} : TD H (.ref b) (dView r.1) → FE H xs f → FE H ((keyV r.1, b, .int r.2) :: xs) (r :: f)
theorem FE.tk {H H' : Hp} (k : TK H H') {xs : List Ent} {f : List Row} (h : FE H xs f) : FE H' xs f := by
  induction h with
  | nil => exact .nil
  | cons h _ ih => exact .cons (h.tk k) ih
theorem FE.len {H : Hp} {xs : List Ent} {f : List Row} (h : FE H xs f) : xs.length = f.length := by
  induction h with
  | nil => rfl
  | cons _ _ ih => rw [List.length_cons, List.length_cons, ih]
theorem FE.snoc {H : Hp} {xs : List Ent} {f : List Row} {b : Addr} {r : Row} (h : FE H xs f) (hb : TD H (.ref b) (dView r.1)) : FE H (xs ++ [(keyV r.1, b, .int r.2)]) (f ++ [r]) := by
  induction h with
  | nil => exact .cons hb .nil
  | cons h _ ih => exact .cons h ih
theorem FE.get {H : Hp} {xs : List Ent} {f : List Row} (h : FE H xs f) : ∀ {i : Nat} {x : Ent}, xs[i]? = some x → ∃ r, f[i]? = some r ∧ x.2.2 = .int r.2 ∧ TD H (.ref x.2.1) (dView r.1) := by
  induction h with
  | nil => intro i x e; simp at e
  | @cons b xs f r h _ ih =>
    intro i x e
    cases i with
    | zero => simp at e; subst e; exact ⟨r, rfl, rfl, h⟩
    | succ j => simp at e; obtain ⟨q, a, b⟩ := ih e; exact ⟨q, by simpa using a, b⟩
theorem FE.val {H : Hp} {xs : List Ent} {f : List Row} (h : FE H xs f) (L : List Ev) : (valN xs (keyV L)).isSome = f.any (fun x => decide (x.1 = L)) := by
  induction h with
  | nil => rfl
  | @cons b xs f r h _ ih =>
    by_cases e : r.1 = L
    · have e1 : keyV r.1 = keyV L := by rw [e]
      rw [valN_pos (p := (keyV r.1, b, .int r.2)) e1]
      simp [e]
    · have e1 : ¬ keyV r.1 = keyV L := fun z => e (keyV_inj z)
      rw [valN_neg (p := (keyV r.1, b, .int r.2)) e1, ih]
      simp [e]
def FD (P : Program) (w : World) (H : Hp) (d : Addr) (f : List Row) : Prop := ∃ xs, H d = some (ndO P w d xs) ∧ FE H xs f
theorem FE.nk {H : Hp} {xs : List Ent} {f : List Row} (h : FE H xs f) : ∀ x ∈ xs, NK H x.1 (.ref x.2.1) ∧ x.1.depth ≤ 8 := by
  induction h with
  | nil => intro x hx; cases hx
  | @cons b xs f r h _ ih =>
    intro x hx
    rcases List.mem_cons.mp hx with e | e
    · subst e; exact ⟨nk_view h, depth_kv _⟩
    · exact ih x e
theorem FD.keep {P : Program} {w : World} {H H' : Hp} {d : Addr} {f : List Row} (h : FD P w H d f) (k : Keep [] H H') : FD P w H' d f := by
  obtain ⟨xs, h1, h2⟩ := h
  exact ⟨xs, k _ _ h1 (by simp), h2.tk k.tk⟩
theorem FD.ki {P : Program} {w : World} {H H' : Hp} {d : Addr} {f : List Row} (h : FD P w H d f) (k : Keep [d] H H') : KI H H' := by
  obtain ⟨xs, h1, h2⟩ := h
  exact KI.at_ h1 k (fun _ z => nomatch z) (fun _ _ _ z => nomatch z)
theorem TA.form {CE CL CT : Addr} {H : Hp} : ∀ {tm : TM} {v : V}, TA CE CL CT H tm v → (tm = .fin ∧ ∃ p dx z, v = .ref p ∧ H p = some (.ins CE dx [("paid", z)])) ∨
    ∃ C p dx t fs vs ps, v = .ref p ∧ H p = some (.ins C dx fs) ∧ fs.lookup ("parts" : Str) = some (.ref t) ∧ H t = some (.tup vs) ∧ TAs CE CL CT H ps vs ∧ TM.hgts ps < tm.hgt ∧ TM.ndss ps < tm.nds ∧
      ((C = CL ∧ tm = .lot ps) ∨ (C = CT ∧ ∃ q es wv, tm = .turn q es ps ∧ fs.lookup ("player" : Str) = some (.int (q : Nat)) ∧ fs.lookup ("view" : Str) = some wv ∧ TD H wv (dView es)))
  | .fin, v, ⟨p, dx, z, e, h⟩ => .inl ⟨rfl, p, dx, z, e, h⟩
  | .lot ps, v, ⟨p, dx, t, vs, e, h, ht, hs⟩ => .inr ⟨CL, p, dx, t, _, vs, ps, e, h, rfl, ht, hs, Nat.lt_succ_self _, Nat.lt_succ_self _, .inl ⟨rfl, rfl⟩⟩
  | .turn q es ps, v, ⟨p, dx, w, t, vs, e, h, hw, ht, hs⟩ => .inr ⟨CT, p, dx, t, _, vs, ps, e, h, rfl, ht, hs, Nat.lt_succ_self _, Nat.lt_succ_self _, .inr ⟨rfl, q, es, w, rfl, rfl, rfl, hw⟩⟩

def sp_ini1 (C : Addr) (f : Str) : Sp := fun vs H Q _ => ∃ x dx v, vs = [.ref x, v] ∧ H x = some (.ins C dx []) ∧ Q .non (upd H x (.ins C dx [(f, v)]))
def sp_ini3 (C : Addr) (f g h : Str) : Sp := fun vs H Q _ => ∃ x dx u v w, vs = [.ref x, u, v, w] ∧ H x = some (.ins C dx []) ∧ Q .non (upd H x (.ins C dx [(f, u), (g, v), (h, w)]))
def sp_collect (P : Program) (w : World) (CE CL CT : Addr) (n : Nat) : Sp := fun vs H Q _ => ∃ (v : V) (tm : TM) (pl : Nat) (d : Addr) (f : List Row), vs = [v, .int pl, .ref d] ∧ TA CE CL CT H tm v ∧ tm.hgt < n ∧ FD P w H d f ∧ f.length + tm.nds ≤ 100000 ∧ ∀ H', FD P w H' d (coll pl tm f) → Keep [d] H H' → Q .non H'
section
variable {P : Program} {w : World} {K : PySem.W.Frag} {mg : Str → Option Value} {base : Heap} {C_End : Addr} {C_Lot : Addr} {C_Turn : Addr}
theorem ok_end {f : Addr} {fd : FuncData} (M : Mk K C_End f) (F : C8.Fun K "__init__" "End.__init__" s_End___init f fd) (b : Binds K fd ["self", "paid"] []) (T : Txt K mg C_End C_Lot C_Turn) : C8.Mak P w K mg base 1 "End" C_End (sp_ini1 C_End "paid") [] := by
  refine mak0 M T.m_End F b .nil sc_End___init (fun vs H Q E h => ?_) (fun cdv A outer s H vs Q E hr h => ?_)
  · obtain ⟨x, dx, v, rfl, _⟩ := h
    rfl
  · obtain ⟨x, dx, v, rfl, hx, k⟩ := h
    refine ⟨_, (pss_one (ps_fld (pv 0) (pv 1) rfl)), ?_⟩
    exact ⟨_, rfl, _, rfl, x, C_End, dx, [], rfl, hx, T.cl_End, T.a_End_paid, by show 0 < 1000; decide, k⟩
theorem ok_lot {f : Addr} {fd : FuncData} (M : Mk K C_Lot f) (F : C8.Fun K "__init__" "Lot.__init__" s_Lot___init f fd) (b : Binds K fd ["self", "parts"] []) (T : Txt K mg C_End C_Lot C_Turn) : C8.Mak P w K mg base 1 "Lot" C_Lot (sp_ini1 C_Lot "parts") [] := by
  refine mak0 M T.m_Lot F b .nil sc_Lot___init (fun vs H Q E h => ?_) (fun cdv A outer s H vs Q E hr h => ?_)
  · obtain ⟨x, dx, v, rfl, _⟩ := h
    rfl
  · obtain ⟨x, dx, v, rfl, hx, k⟩ := h
    refine ⟨_, (pss_one (ps_fld (pv 0) (pv 1) rfl)), ?_⟩
    exact ⟨_, rfl, _, rfl, x, C_Lot, dx, [], rfl, hx, T.cl_Lot, T.a_Lot_parts, by show 0 < 1000; decide, k⟩
theorem ok_turn {f : Addr} {fd : FuncData} (M : Mk K C_Turn f) (F : C8.Fun K "__init__" "Turn.__init__" s_Turn___init f fd) (b : Binds K fd ["self", "player", "view", "parts"] []) (T : Txt K mg C_End C_Lot C_Turn) : C8.Mak P w K mg base 1 "Turn" C_Turn (sp_ini3 C_Turn "player" "view" "parts") [] := by
  refine mak0 M T.m_Turn F b .nil sc_Turn___init (fun vs H Q E h => ?_) (fun cdv A outer s H vs Q E hr h => ?_)
  · obtain ⟨x, dx, u, v, w, rfl, _⟩ := h
    rfl
  · obtain ⟨x, dx, u, v, w, rfl, hx, k⟩ := h
    refine ⟨_, (pss_cons (ps_fld (pv 0) (pv 1) rfl)
(pss_cons (ps_fld (pv 0) (pv 2) rfl)
(pss_one (ps_fld (pv 0) (pv 3) rfl)))), ?_⟩
    refine ⟨_, rfl, _, rfl, x, C_Turn, dx, [], rfl, hx, T.cl_Turn, T.a_Turn_player, by show 0 < 1000; decide, ?_⟩
    refine ⟨_, rfl, _, rfl, x, C_Turn, dx, _, rfl, upd_same, T.cl_Turn, T.a_Turn_view, by show 1 < 1000; decide, ?_⟩
    refine ⟨_, rfl, _, rfl, x, C_Turn, dx, _, rfl, upd_same, T.cl_Turn, T.a_Turn_parts, by show 2 < 1000; decide, ?_⟩
    rw [upd_upd, upd_upd]; exact k
theorem tyI {C : Addr} (i : InsC K C) {H : Hp} {p dx : Addr} {fs : List (Str × V)} (h : H p = some (.ins C dx fs)) : TyX K H (.ref p) (.ref C) := .base (.ins h i.cl i.ha i.hn i.htk i.hm)
theorem ok_collect0 {f : Addr} {fd : FuncData} (D : C8.Def K mg "_collect" s_collect f fd) (b : Binds K fd ["tree", "player", "found"] []) : C8.Cal P w K mg base 1 "_collect" (sp_collect P w C_End C_Lot C_Turn 0) [] :=
  ⟨f, fd, ["tree", "player", "found"], [], ⟨fun vs H Q E h => (by obtain ⟨v, tm, pl, d, f, rfl, _⟩ := h; rfl), fun A outer s H args us vs Q E _ _ _ _ h => (by obtain ⟨v, tm, pl, d, f, _, _, z, _⟩ := h; exact absurd z (Nat.not_lt_zero _))⟩, D.mgf, D.kp, b, .nil⟩
theorem ok_collect {f : Addr} {fd : FuncData} (D : C8.Def K mg "_collect" s_collect f fd) (b : Binds K fd ["tree", "player", "found"] []) (T : Txt K mg C_End C_Lot C_Turn) {m k : Nat} (c_collect : C8.Cal P w K mg base k "_collect" (sp_collect P w C_End C_Lot C_Turn m) []) : C8.Cal P w K mg base (k + 1) "_collect" (sp_collect P w C_End C_Lot C_Turn (m + 1)) [] := by
  refine cal0 D b .nil sc_collect (fun vs H Q E h => ?_) (fun cdv A outer s H vs Q E hr h => ?_)
  · obtain ⟨v, tm, pl, d, f, rfl, _⟩ := h
    rfl
  · obtain ⟨v, tm, pl, d, f, rfl, hT, hh, hf, hn, k⟩ := h
    refine ⟨_, (pss_cons (ps_if (pt_val (pe_callB call_isi (by rfl) T.n_isinstance bo_isinstance (pa_cons (pv 0) (pa_cons (pe_glob (v := .ref _) rfl T.m_End rfl) pa_nil))))
  (pss_one ps_retN)
  pss_nil)
(pss_cut (ps_if (PW.pt (pw_and (pt_val (pe_callB call_isi (by rfl) T.n_isinstance bo_isinstance (pa_cons (pv 0) (pa_cons (pe_glob (v := .ref _) rfl T.m_Turn rfl) pa_nil)))) (pw_and1 (pt_cmpR op_eq (pe_fld (pv 0) rfl) (pv 1) (nomark _)))))
  (pss_one (ps_if (pt_cmp (pc_nnotin (P := P) (w := w) (un65 hr) (pe_fld (pv 0) rfl) (pv 2)))
    (pss_one (ps_nput (P := P) (w := w) (un65 hr) (pv 2) (pe_fld (pv 0) rfl) (pe_callB call_len_seq (by rfl) T.n_len bo_len (pa_cons (pe_fld (pv 0) rfl) pa_nil)) (by rfl)))
    pss_nil))
  pss_nil)
(pss_one (ps_for PassesOwn.never rfl (pi_tup (pe_fld (pv 0) rfl)) (pg_name (i := 3) sc_collect.nd rfl (by first | exact Or.inl rfl | exact Or.inr rfl))
  (pss_one (ps_expr (pe_c c_collect hr (by first | exact Nat.le_refl _ | decide | omega) rfl (pa_cons (pv 3) (pa_cons (pv 1) (pa_cons (pv 2) pa_nil)))))))))), ?_⟩
    rcases hT.form with ⟨rfl, p, dx, z, rfl, hp⟩ | ⟨C, p, dx, t, fs, vs, ps, rfl, hp, hpa, ht, hs, hlt, hnd, hC⟩
    · exact ⟨_, rfl, _, _, _, _, _, rfl, .own _, tyI T.i_End hp, T.i_End.me, _, rfl, iteT (k _ hf (Keep.refl _ _))⟩
    obtain ⟨cl, na, ki, ty⟩ : Cls K C ∧ NoAttr K C "parts" ∧ PySem.W.kitOne K (.ref C) (.ref C_End) = some false ∧ TyX K H (.ref p) (.ref C) := by
      rcases hC with ⟨rfl, _⟩ | ⟨rfl, _⟩
      · exact ⟨T.cl_Lot, T.a_Lot_parts, T.kLE, tyI T.i_Lot hp⟩
      · exact ⟨T.cl_Turn, T.a_Turn_parts, T.kTE, tyI T.i_Turn hp⟩
    refine ⟨_, rfl, _, _, _, _, _, rfl, .own _, ty, ki, _, rfl, iteF ?_⟩
    refine ⟨fun σ H' => ∃ f1, σ = [some (.ref p), some (.int pl), some (.ref d), none] ∧ coll pl tm f = colls pl ps f1 ∧ FD P w H' d f1 ∧ Keep [d] H H' ∧ f1.length + TM.ndss ps ≤ 100000, ?_, ?_⟩
    · rcases hC with ⟨rfl, rfl⟩ | ⟨rfl, q, es, wv, rfl, hq, hvw, htd⟩
      · refine ⟨_, rfl, _, _, _, _, _, rfl, .own _, ty, T.kLT, _, rfl, ?_⟩
        refine iteF ⟨f, rfl, rfl, hf, Keep.refl _ _, by omega⟩
      · refine ⟨_, rfl, _, _, _, _, _, rfl, .own _, ty, T.i_Turn.me, _, rfl, ?_⟩
        refine iteT ⟨_, rfl, p, C, dx, _, _, rfl, hp, T.cl_Turn, T.a_Turn_player, hq, _, rfl, rfl, _, rfl, ?_⟩
        obtain ⟨a, xs, rfl, ha, hxs, hxl⟩ := td_grow htd
        obtain ⟨ens, he, hfe⟩ := id hf
        have hnk : NDat P w H d ens := ⟨.inl he, hfe.nk⟩
        refine iteD (fun e => ?_) (fun e => ?_)
        · have e' : q = pl := by have := V.int.inj e; omega
          refine ⟨_, rfl, p, C, dx, _, _, rfl, hp, T.cl_Turn, T.a_Turn_view, hvw, _, rfl, d, _, rfl, ⟨ens, _, _, hnk, rfl, nk_view htd, depth_kv _, rfl⟩, _, rfl, ?_⟩
          rw [hfe.val]
          have hcoll : coll pl (.turn q es ps) f = colls pl ps (insV f (es, (ps.length : Int))) := by
            show colls pl ps (if q = pl then insV f (es, (ps.length : Int)) else f) = _
            rw [if_pos e']
          cases hany : f.any (fun x => decide (x.1 = es)) with
          | true =>
            refine iteF ⟨f, rfl, ?_, hf, Keep.refl _ _, by omega⟩
            rw [hcoll]; unfold insV; rw [if_pos hany]
          | false =>
            have hnone : valN ens (keyV es) = none := by
              have := hfe.val es
              rw [hany] at this
              cases z : valN ens (keyV es) with
              | none => rfl
              | some v => rw [z] at this; cases this
            have hel := hfe.len
            have hvl := hs.len
            have hnl : ps.length ≤ TM.ndss ps := ndss_len ps
            have kd : Keep [d] H (upd H d (ndO P w d (putN ens (keyV es) a (.int (vs.length : Int))))) := Keep.at_ (by simp)
            refine iteT ⟨_, rfl, p, C, dx, _, _, rfl, hp, T.cl_Turn, T.a_Turn_parts, hpa, t, vs, rfl, .inr (SqT.of ht), _, rfl, _, rfl, p, C, dx, _, _, rfl, hp, T.cl_Turn, T.a_Turn_view, hvw, d, _, rfl, ⟨ens, keyV es, a, hnk, he, rfl, nk_view htd, depth_kv _, smallL (by omega), rfl⟩, ?_⟩
            refine ⟨f ++ [(es, (ps.length : Int))], rfl, ?_, ⟨_, upd_same, ?_⟩, kd, ?_⟩
            · rw [hcoll]; unfold insV; rw [hany]; rfl
            · rw [putN_new hnone, hvl]
              have tk : TK H (upd H d (ndO P w d (putN ens (keyV es) a (.int (vs.length : Int))))) := (hf.ki kd).tk
              rw [putN_new hnone, hvl] at tk
              exact (hfe.tk tk).snoc (r := (es, (ps.length : Int))) (htd.tk tk)
            · rw [List.length_append]; simp only [List.length_cons, List.length_nil]; omega
        · have e' : ¬ q = pl := fun z => e (by rw [z])
          refine ⟨f, rfl, ?_, hf, Keep.refl _ _, by omega⟩
          show colls pl ps (if q = pl then insV f (es, (ps.length : Int)) else f) = _
          rw [if_neg e']
    · rintro σ H1 ⟨f1, rfl, ec, hf1, k1, hn1⟩
      have ki1 := hf.ki k1
      have hp1 := ki1.2 _ _ _ _ hp
      have ht1 := ki1.1 _ _ ht
      refine ⟨_, rfl, p, C, dx, _, _, rfl, hp1, cl, na, hpa, t, rfl, ⟨_, SqT.of ht1⟩, for_tup (K := K) (a := t) (xs := vs) (fun i σ H' => ∃ o4, σ = [some (.ref p), some (.int pl), some (.ref d), o4] ∧ FD P w H' d (colls pl (ps.take i) f1) ∧ Keep [d] H H') ⟨none, rfl, hf1, k1⟩ ?_ ?_ ?_⟩
      · rintro i σ H' _ ⟨o4, rfl, hf2, k2⟩
        exact SqT.of ((hf.ki k2).1 _ _ ht)
      · rintro i x σ H' hx ⟨o4, rfl, hf2, k2⟩
        obtain ⟨m1, hm1, hTA⟩ := hs.get hx
        have h1 := hgts_get hm1
        have h2 := ndss_take ps hm1
        have h3 := colls_len pl (ps.take i) f1
        have him := (List.getElem?_eq_some_iff.mp hm1)
        obtain ⟨hil, hie⟩ := him
        have et : colls pl (ps.take (i + 1)) f1 = coll pl m1 (colls pl (ps.take i) f1) := by
          rw [List.take_succ_eq_append_getElem hil, hie, colls_app]; rfl
        refine ⟨_, rfl, _, rfl, _, rfl, x, m1, pl, d, _, rfl, hTA.ki (hf.ki k2), by omega, hf2, by omega, fun H3 hf3 k3 => ?_⟩
        rw [← et] at hf3
        exact ⟨_, rfl, hf3, k2.trans k3⟩
      · rintro σ H' ⟨o4, rfl, hf2, k2⟩
        rw [hs.len, List.take_length, ← ec] at hf2
        exact k _ hf2 k2
theorem collect_all {f : Addr} {fd : FuncData} (D : C8.Def K mg "_collect" s_collect f fd) (b : Binds K fd ["tree", "player", "found"] []) (T : Txt K mg C_End C_Lot C_Turn) : ∀ m, C8.Cal P w K mg base (m + 1) "_collect" (sp_collect P w C_End C_Lot C_Turn m) []
  | 0 => ok_collect0 D b
  | m + 1 => ok_collect D b T (collect_all D b T m)
end

section
variable {P : Program} {w : World} {K : PySem.W.Frag} {mg : Str → Option Value} {base : Heap} {C_End : Addr} {C_Lot : Addr} {C_Turn : Addr}
def sp_views (CE CL CT : Addr) (n : Nat) : Sp := fun vs H Q _ => ∃ (v : V) (tm : TM) (pl : Nat), vs = [v, .int pl] ∧ TA CE CL CT H tm v ∧ tm.hgt < n ∧ tm.nds ≤ 100000 ∧ ∀ l xs H', H l = none → H' l = some (.lst xs) → TDs H' xs ((coll pl tm []).map dRow) → Keep [] H H' → Q (.ref l) H'
def rowsOf (f : List Row) : List Row := f.flatMap fun r => (List.range r.2.toNat).map fun (k : Nat) => (r.1, (k : Int))
def sp_rows (CE CL CT : Addr) (n : Nat) : Sp := fun vs H Q _ => ∃ (v : V) (tm : TM) (pl : Nat), vs = [v, .int pl] ∧ TA CE CL CT H tm v ∧ tm.hgt < n ∧ tm.nds ≤ 1000 ∧ (∀ r ∈ coll pl tm [], 0 ≤ r.2 ∧ r.2 ≤ 1000) ∧ ∀ l xs H', H l = none → H' l = some (.lst xs) → TDs H' xs ((rowsOf (coll pl tm [])).map dRow) → Keep [] H H' → Q (.ref l) H'
theorem ok_views_of {f : Addr} {fd : FuncData} (D : C8.Def K mg "views_of" s_views_of f fd) (b : Binds K fd ["tree", "player"] []) (T : Txt K mg C_End C_Lot C_Turn) {n k : Nat} (c_collect : C8.Cal P w K mg base k "_collect" (sp_collect P w C_End C_Lot C_Turn n) []) : C8.Cal P w K mg base (k + 1) "views_of" (sp_views C_End C_Lot C_Turn n) [] := by
  refine cal0 D b .nil sc_views_of (fun vs H Q E h => ?_) (fun cdv A outer s H vs Q E hr h => ?_)
  · obtain ⟨v, tm, pl, rfl, _⟩ := h
    rfl
  · obtain ⟨v, tm, pl, rfl, hT, hh, hn, k⟩ := h
    refine ⟨_, (pss_cons (ps_set (i := 2) sc_views_of.nd rfl (by first | exact Or.inl rfl | exact Or.inr rfl) (pe_nnew (P := P) (w := w)))
(pss_cons (ps_expr (pe_c c_collect hr (by first | exact Nat.le_refl _ | decide | omega) rfl (pa_cons (pv 0) (pa_cons (pv 1) (pa_cons (pv 2) pa_nil)))))
(pss_one (ps_ret (pe_lock (pe_lc (own := [("view", 3), ("count", 4)]) (g := (gTup K 2 (gCons (gName 3) (gCons (gName 4) gNil)))) (tt := tYes) rfl sc_views_of.nd (pi_itemsN (P := P) (w := w) (pv 2)) (blkOk_by (N := ["tree", "player", "found", "view", "count"]) (sc := fnScope s_views_of) (by decide +kernel)) (fun _ _ _ _ _ => pg_tupK (K := K) (n := 2) (t := (gCons (gName 3) (gCons (gName 4) gNil))) (pgs_cons (pg_name (i := 3) sc_views_of.nd rfl (Or.inl rfl)) (pgs_cons (pg_name (i := 4) sc_views_of.nd rfl (Or.inl rfl)) pgs_nil))) (fun _ _ _ _ _ => pts_nil) (fun _ _ _ _ _ => (pe_tup (pa_cons (pv 3) (pa_cons (pv 4) pa_nil)))))))))), ?_⟩
    refine fun d nd => ?_
    have k0 : Keep [] H (upd H d (ndO P w d [])) := Keep.new nd
    refine ⟨_, rfl, _, rfl, _, rfl, v, tm, pl, d, [], rfl, hT.ki (KI.of k0), hh, ⟨[], upd_same, .nil⟩, by simp; omega, fun H1 hf1 k1 => ?_⟩
    obtain ⟨xs, hd1, hfe⟩ := id hf1
    generalize hfeq : coll pl tm [] = f at *
    have hfl : f.length ≤ 100000 := by
      have := coll_len pl tm []
      rw [hfeq] at this
      simp only [List.length_nil] at this
      omega
    refine ⟨d, _, hd1, trivial, fun od => ?_⟩
    have kd1 : Keep [d] H1 (upd H1 d (.frz od (ndO P w d xs))) := Keep.at_ (by simp)
    have ki1 := hf1.ki kd1
    have hfe1 := hfe.tk ki1.tk
    generalize hH2 : upd H1 d (.frz od (ndO P w d xs)) = H2 at *
    have hd2 : H2 d = some (.frz od (ndO P w d xs)) := by rw [← hH2]; exact upd_same
    refine ⟨_, rfl, d, od, xs, rfl, hd2, fun D nD => ?_⟩
    have kD : Keep [] H2 (upd H2 D (.lst [])) := Keep.new nD
    refine lc_it walk_itemsN (fun i H' => ∃ zs, H' D = some (.lst zs) ∧ TDs H' zs ((f.take i).map dRow) ∧ Keep [] H2 H') ⟨[], upd_same, .nil, kD⟩ (fun i H' _ ⟨zs, _, _, kk⟩ => kk _ _ hd2 (by simp)) ?_ ?_
    · rintro i x H3 H4 hi ⟨zs, hzs, htd, k3⟩ ⟨T1, y1, y2, rfl, nT, rfl, hy1, hy2⟩
      have hx : xs[i]? = some xs[i] := List.getElem?_eq_getElem hi
      obtain ⟨r, hr, er, hrt⟩ := hfe1.get hx
      replace hy1 : (xs[i]?).map (fun x => V.ref x.2.1) = some y1 := hy1
      replace hy2 : (xs[i]?).map (fun x => x.2.2) = some y2 := hy2
      rw [hx] at hy1 hy2
      have e1 : y1 = .ref xs[i].2.1 := (Option.some.inj hy1).symm
      have e2 : y2 = .int r.2 := by rw [← er]; exact (Option.some.inj hy2).symm
      subst e1 e2
      have k4 : Keep [] H3 (upd H3 T1 (.tup [.ref xs[i].2.1, .int r.2])) := Keep.new nT
      refine ⟨T1, _, rfl, SqT.of upd_same, rfl, _, _, rfl, _, _, rfl, rfl, rfl, yes_then ⟨_, rfl, _, rfl, And.intro (by show 2 ≤ sizeLine; decide) <| fun q nq => ?_⟩⟩
      have k5 := Keep.new (W := []) (o := .tup [.ref xs[i].2.1, .int r.2]) nq
      have hz5 := k5 _ _ (k4 _ _ hzs (by simp)) (by simp)
      have tk5 := (k4.trans k5).tk.trans (TK.lst (o := .lst (zs ++ [.ref q])) hz5)
      have hil := (List.getElem?_eq_some_iff.mp hr)
      obtain ⟨hil, her⟩ := hil
      have hzl := htd.length
      rw [List.length_map, List.length_take] at hzl
      refine ⟨zs, hz5, smallL (by omega), zs ++ [.ref q], upd_same, ?_, ((k3.trans k4).trans k5).then_own nD⟩
      rw [List.take_succ_eq_append_getElem hil, her, List.map_append]
      refine (htd.tk tk5).snoc (.tup ?_ (.cons ((hrt.tk k3.tk).tk tk5) (.cons (.int _) .nil)))
      rw [upd_ne (ne_of_none (k4 _ _ hzs (by simp)) nq).symm]; exact upd_same
    · rintro H3 ⟨zs, hzs, htd, k3⟩
      have hd3 := k3 _ _ hd2 (by simp)
      refine ⟨hd3, ?_⟩
      have hne : D ≠ d := ne_of_none hd2 nD |>.symm
      have kout : Keep [] H (upd H3 d (ndO P w d xs)) := by
        intro b o hb _
        have hbd : b ≠ d := ne_of_none hb nd
        rw [upd_ne hbd]
        refine k3 _ _ ?_ (by simp)
        rw [← hH2, upd_ne hbd]
        exact k1 _ _ (k0 _ _ hb (by simp)) (by simpa using hbd)
      have tkout : TK H3 (upd H3 d (ndO P w d xs)) := fun b ys hb => by
        rw [upd_ne (ne_of hb hd3 (by intro z; cases z))]; exact hb
      rw [hfe.len, List.take_length] at htd
      have nDH : H D = none := by
        cases e : H D with
        | none => rfl
        | some o =>
          have e1 := k1 _ _ (k0 _ _ e (by simp)) (by simpa using hne)
          rw [← hH2, upd_ne hne, e1] at nD
          cases nD
      exact k D zs _ nDH (by rw [upd_ne hne]; exact hzs) (htd.tk tkout) kout
theorem ok_rows_of {f : Addr} {fd : FuncData} (D : C8.Def K mg "rows_of" s_rows_of f fd) (b : Binds K fd ["tree", "player"] []) (T : Txt K mg C_End C_Lot C_Turn) {n k : Nat} (c_views_of : C8.Cal P w K mg base k "views_of" (sp_views C_End C_Lot C_Turn n) []) : C8.Cal P w K mg base (k + 1) "rows_of" (sp_rows C_End C_Lot C_Turn n) [] := by
  refine cal0 D b .nil sc_rows_of (fun vs H Q E h => ?_) (fun cdv A outer s H vs Q E hr h => ?_)
  · obtain ⟨v, tm, pl, rfl, _⟩ := h
    rfl
  · obtain ⟨v, tm, pl, rfl, hT, hh, hn, hk, k⟩ := h
    refine ⟨_, (pss_one (ps_ret (pe_lc2 (own := [("view", 2), ("count", 3), ("k", 4)]) (vs1 := [4]) (g := (gTup K 2 (gCons (gName 2) (gCons (gName 3) gNil)))) (tt := tYes) (g1 := gName 4) (tt1 := tYes) rfl sc_rows_of.nd (pi_list (pe_c c_views_of hr (by first | exact Nat.le_refl _ | decide | omega) rfl (pa_cons (pv 0) (pa_cons (pv 1) pa_nil)))) (blkOk_by (N := ["tree", "player", "view", "count", "k"]) (sc := fnScope s_rows_of) (by decide +kernel)) (by decide) (fun _ _ _ _ _ => pg_tupK (K := K) (n := 2) (t := (gCons (gName 2) (gCons (gName 3) gNil))) (pgs_cons (pg_name (i := 2) sc_rows_of.nd rfl (Or.inl rfl)) (pgs_cons (pg_name (i := 3) sc_rows_of.nd rfl (Or.inl rfl)) pgs_nil))) (fun _ _ _ _ _ => pts_nil) (fun _ _ _ _ _ => (pi_range1 (by rfl) T.n_range (pa_cons (pv 3) pa_nil))) (fun _ _ _ _ _ => pg_name (i := 4) sc_rows_of.nd rfl (Or.inl rfl)) (fun _ _ _ _ _ => pts_nil) (fun _ _ _ _ _ => (pe_tup (pa_cons (pv 2) (pa_cons (pv 4) pa_nil))))))), ?_⟩
    generalize hfeq : coll pl tm [] = f at *
    have hfl : f.length ≤ 1000 := by
      have := coll_len pl tm []
      rw [hfeq] at this
      simp only [List.length_nil] at this
      omega
    refine ⟨_, rfl, _, rfl, v, tm, pl, rfl, hT, hh, by omega, fun l xs H1 nl hl htd k1 => ?_⟩
    rw [hfeq] at htd
    have hxl := htd.length
    rw [List.length_map] at hxl
    refine ⟨l, rfl, ⟨_, SqL.of hl⟩, fun D nD => ?_⟩
    have kD : Keep [] H1 (upd H1 D (.lst [])) := Keep.new nD
    have hrl : ∀ i, i ≤ f.length → (rowsOf (f.take i)).length ≤ i * 1000 := by
      intro i
      induction i with
      | zero => intro _; rw [List.take_zero]; exact Nat.le_refl _
      | succ j ih =>
        intro hj
        have h0 := ih (by omega)
        rw [List.take_succ_eq_append_getElem (by omega)]
        unfold rowsOf at *
        rw [List.flatMap_append, List.length_append]
        have h2 := hk f[j] (List.getElem_mem (by omega))
        have : ((List.flatMap (fun (r : Row) => (List.range r.2.toNat).map fun (k : Nat) => (r.1, (k : Int))) [f[j]]).length) = f[j].2.toNat := by simp
        rw [this]
        omega
    refine ⟨fun i m H' => m = xs.length - i ∧ i ≤ xs.length ∧ ∃ acc, H' D = some (.lst acc) ∧ TDs H' acc ((rowsOf (f.take i)).map dRow) ∧ Keep [] H1 H', ⟨xs.length, by simp, Nat.zero_le _, [], upd_same, .nil, kD⟩, ?_⟩
    rintro i m H2 ⟨rfl, hi, acc, hacc, hta, k2⟩
    have hl2 := k2 _ _ hl (by simp)
    rcases Nat.lt_or_ge i xs.length with hlt | hge
    · refine .inr ⟨(walk_list (K := K) (a := l) (xs := xs)).goes i H2 hlt (SqL.of hl2), fun H' => ∃ acc, H' D = some (.lst acc) ∧ TDs H' acc ((rowsOf (f.take (i + 1))).map dRow) ∧ Keep [] H1 H', fun H' p' => ⟨xs.length - (i + 1), by omega, rfl, hlt, p'⟩, fun x H3 y => ?_⟩
      obtain ⟨rfl, hx⟩ := (walk_list (K := K) (a := l) (xs := xs)).yields i H2 x H3 hlt (SqL.of hl2) y
      have hfi : i < f.length := by omega
      obtain ⟨x', hx', hxd⟩ := htd.get (i := i) (d := dRow f[i]) (by rw [List.getElem?_map, List.getElem?_eq_getElem hfi]; rfl)
      rw [hx] at hx'
      cases hx'
      unfold dRow at hxd
      cases hxd with
      | tup h1 h2 =>
        cases h2 with
        | @cons v0 _ _ _ h3 h4 =>
          cases h4 with
          | cons h5 h6 =>
            cases h5
            cases h6
            have hb := hk f[i] (List.getElem_mem hfi)
            refine ⟨_, _, rfl, SqT.of (k2 _ _ h1 (by simp)), rfl, _, _, rfl, _, _, rfl, rfl, rfl, yes_then ⟨_, rfl, _, rfl, by omega, by omega, ?_⟩⟩
            have hai := hrl i (by omega)
            have hal := hta.length
            rw [List.length_map] at hal
            refine ⟨fun j k' H' => k' = f[i].2.toNat - j ∧ j ≤ f[i].2.toNat ∧ ∃ acc, H' D = some (.lst acc) ∧ TDs H' acc ((rowsOf (f.take i) ++ (List.range j).map fun (k : Nat) => (f[i].1, (k : Int))).map dRow) ∧ Keep [] H1 H', ⟨_, rfl, Nat.zero_le _, acc, hacc, by rw [List.range_zero, List.map_nil, List.append_nil]; exact hta, k2⟩, ?_⟩
            rintro j k' H4 ⟨rfl, hj, acc2, hacc2, hta2, k4⟩
            have et : rowsOf (f.take (i + 1)) = rowsOf (f.take i) ++ (List.range f[i].2.toNat).map fun (k : Nat) => (f[i].1, (k : Int)) := by
              rw [List.take_succ_eq_append_getElem hfi]
              unfold rowsOf
              rw [List.flatMap_append]
              simp
            rcases Nat.lt_or_ge j f[i].2.toNat with hjl | hjg
            · refine .inr ⟨hjl, fun H' => ∃ acc, H' D = some (.lst acc) ∧ TDs H' acc ((rowsOf (f.take i) ++ (List.range (j + 1)).map fun (k : Nat) => (f[i].1, (k : Int))).map dRow) ∧ Keep [] H1 H', fun H' p' => ⟨_, Nat.sub_lt_sub_left hjl (Nat.lt_succ_self j), rfl, hjl, p'⟩, fun x H5 y => ?_⟩
              obtain ⟨rfl, rfl⟩ := y
              have hal2 := hta2.length
              rw [List.length_map, List.length_append, List.length_map, List.length_range] at hal2
              refine ⟨rfl, yes_then ⟨_, rfl, _, rfl, And.intro (by show 2 ≤ sizeLine; decide) <| fun q nq => ?_⟩⟩
              have k5 := Keep.new (W := []) (o := .tup [v0, .int (0 + (j : Nat))]) nq
              have hz5 := k5 _ _ hacc2 (by simp)
              have tk5 := k5.tk.trans (TK.lst (o := .lst (acc2 ++ [.ref q])) hz5)
              refine ⟨acc2, hz5, smallL (by omega), acc2 ++ [.ref q], upd_same, ?_, (k4.trans k5).then_own nD⟩
              have er : rowsOf (f.take i) ++ (List.range (j + 1)).map (fun (k : Nat) => (f[i].1, (k : Int))) = (rowsOf (f.take i) ++ (List.range j).map fun (k : Nat) => (f[i].1, (k : Int))) ++ [(f[i].1, (j : Int))] := by
                rw [List.range_succ]; simp
              rw [er, List.map_append]
              refine (hta2.tk tk5).snoc (.tup (xs := [v0, .int (0 + (j : Nat))]) ?_ (.cons ((h3.tk k4.tk).tk tk5) (.cons ?_ .nil)))
              · rw [upd_ne (ne_of_none hacc2 nq).symm]; exact upd_same
              · have : (0 : Int) + (j : Nat) = ((j : Nat) : Int) := by omega
                rw [this]; exact .int _
            · have e : j = f[i].2.toNat := by omega
              subst e
              rw [← et] at hta2
              exact .inl ⟨Nat.le_refl _, acc2, hacc2, hta2, k4⟩
    · have e : i = xs.length := by omega
      subst e
      rw [hxl, List.take_length] at hta
      exact .inl ⟨(walk_list (K := K) (a := l) (xs := xs)).stops H2 (SqL.of hl2), k D acc _ (k1.free nD) hacc hta (k1.trans k2)⟩
end

mutual
def okM : TM → Prop
  | .fin => True
  | .lot ps => okMs ps
  | .turn q es ps => (q = 1 ∨ q = 2) ∧ es.length ≤ 1000 ∧ (∀ e ∈ es, OkE e) ∧ Good es ∧ okMs ps
def okMs : List TM → Prop
  | [] => True
  | m :: ms => okM m ∧ okMs ms
end
theorem okMs_get : ∀ {ps : List TM} {i : Nat} {m : TM}, okMs ps → ps[i]? = some m → okM m
  | [], _, _, _, h => by simp at h
  | p :: ps, 0, m, o, h => by simp at h; subst h; exact o.1
  | p :: ps, i + 1, m, o, h => by simp at h; exact okMs_get o.2 h
theorem keepsL_all (a b : Option Row) : ∀ ps : List TM, keepsL ps a b = (ps.map fun m => keepsM m a b).all id
  | [] => rfl
  | m :: ms => by
    show (keepsM m a b && keepsL ms a b) = _
    rw [keepsL_all a b ms]; rfl
theorem lastRow_ok {L : List Ev} (h : ∀ e ∈ L, OkE e) : ∀ q, lastRow L = some q → ∀ e ∈ q.1, OkE e := fun q hq e he => by
  obtain ⟨M, hM⟩ := lastRow_pre (V := q.1) (k := q.2) hq
  exact h e (by rw [hM]; exact List.mem_append_left _ he)
def OkR (r : Option Row) : Prop := ∀ q, r = some q → ∀ e ∈ q.1, OkE e
section
variable {P : Program} {w : World} {K : PySem.W.Frag} {mg : Str → Option Value} {base : Heap} {C_End : Addr} {C_Lot : Addr} {C_Turn : Addr}
def sp_keeps (CE CL CT : Addr) (n : Nat) : Sp := fun vs H Q _ => ∃ (v r : V) (tm : TM) (a b : Option Row), vs = [v, r] ∧ TA CE CL CT H tm v ∧ tm.hgt < n ∧ tm.nds ≤ 1000 ∧ okM tm ∧ OkR a ∧ OkR b ∧ TD H r (.tuple [dRowO a, dRowO b]) ∧ ∀ H', Keep [] H H' → Q (.bl (keepsM tm a b)) H'
def sp_remembers (CE CL CT : Addr) (n : Nat) : Sp := fun vs H Q _ => ∃ (v : V) (tm : TM), vs = [v] ∧ TA CE CL CT H tm v ∧ tm.hgt < n ∧ tm.nds ≤ 1000 ∧ okM tm ∧ ∀ H', Keep [] H H' → Q (.bl (keepsM tm none none)) H'
theorem ok_keeps0 {f : Addr} {fd : FuncData} (D : C8.Def K mg "_keeps" s_keeps f fd) (b : Binds K fd ["tree", "rows"] []) : C8.Cal P w K mg base 1 "_keeps" (sp_keeps C_End C_Lot C_Turn 0) [] :=
  ⟨f, fd, ["tree", "rows"], [], ⟨fun vs H Q E h => (by obtain ⟨v, r, tm, a, b, rfl, _⟩ := h; rfl), fun A outer s H args us vs Q E _ _ _ _ h => (by obtain ⟨v, r, tm, a, b, _, _, z, _⟩ := h; exact absurd z (Nat.not_lt_zero _))⟩, D.mgf, D.kp, b, .nil⟩
theorem ok_keeps {f : Addr} {fd : FuncData} (D : C8.Def K mg "_keeps" s_keeps f fd) (b : Binds K fd ["tree", "rows"] []) (T : Txt K mg C_End C_Lot C_Turn) {m k : Nat} (c_last_row : C8.Cal P w K mg base 1 "last_row" sp_last_row []) (hk : 1 ≤ k) (c_keeps : C8.Cal P w K mg base k "_keeps" (sp_keeps C_End C_Lot C_Turn m) []) : C8.Cal P w K mg base (k + 1) "_keeps" (sp_keeps C_End C_Lot C_Turn (m + 1)) [] := by
  refine cal0 D b .nil sc_keeps (fun vs H Q E h => ?_) (fun cdv A outer s H vs Q E hr h => ?_)
  · obtain ⟨v, r, tm, a, b, rfl, _⟩ := h
    rfl
  · obtain ⟨v, r, tm, ra, rb, rfl, hT, hh, hn, hok, ha, hb, hrt, k⟩ := h
    refine ⟨_, (pss_cons (ps_if (pt_val (pe_callB call_isi (by rfl) T.n_isinstance bo_isinstance (pa_cons (pv 0) (pa_cons (pe_glob (v := .ref _) rfl T.m_End rfl) pa_nil))))
  (pss_one (ps_ret pe_bl))
  pss_nil)
(pss_cons (ps_if (pt_not (pt_val (pe_callB call_isi (by rfl) T.n_isinstance bo_isinstance (pa_cons (pv 0) (pa_cons (pe_glob (v := .ref _) rfl T.m_Turn rfl) pa_nil)))))
  (pss_one (ps_ret (pe_callB (cr_all rfl) (by rfl) T.n_all bo_all (pa_cons (pe_lc (own := [("part", 3)]) (g := gName 3) (tt := tYes) rfl sc_keeps.nd (pi_tup (pe_fld (pv 0) rfl)) (blkOk_by (N := ["tree", "rows", "k", "part", "after"]) (sc := fnScope s_keeps) (by decide +kernel)) (fun _ _ _ _ _ => pg_name (i := 3) sc_keeps.nd rfl (Or.inl rfl)) (fun _ _ _ _ _ => pts_nil) (fun _ _ _ _ _ => (pe_c c_keeps hr (by first | exact Nat.le_refl _ | decide | omega) rfl (pa_cons (pv 3) (pa_cons (pv 1) pa_nil))))) pa_nil))))
  pss_nil)
(pss_cons (ps_if (pt_cmpR (op_neD hr.units) (pe_c c_last_row hr (by first | exact Nat.le_refl _ | decide | omega) rfl (pa_cons (pe_fld (pv 0) rfl) pa_nil)) (pe_ix ix_tup (pv 1) (pe_op op_sub (pe_fld (pv 0) rfl) pe_int) (fun _ _ => rfl)) (nomark _))
  (pss_one (ps_ret pe_bl))
  pss_nil)
(pss_cons (ps_for PassesOwn.never rfl (ENt.pi_enumT (by rfl) T.n_enumerate (pa_cons (pe_fld (pv 0) rfl) pa_nil)) (pg_tup (by rfl) (pgs_cons (pg_name (i := 2) sc_keeps.nd rfl (by first | exact Or.inl rfl | exact Or.inr rfl)) (pgs_cons (pg_name (i := 3) sc_keeps.nd rfl (by first | exact Or.inl rfl | exact Or.inr rfl)) pgs_nil)))
  (pss_cons (ps_set (i := 4) sc_keeps.nd rfl (by first | exact Or.inl rfl | exact Or.inr rfl) (pe_tup (pa_cons (pe_ix ix_tup (pv 1) pe_int (fun _ _ => rfl)) (pa_cons (pe_tup (pa_cons (pe_fld (pv 0) rfl) (pa_cons (pv 2) pa_nil))) pa_nil))))
  (pss_cut (ps_if (pt_cmpR op_eq (pe_fld (pv 0) rfl) pe_int (nomark _))
    (pss_one (ps_set (i := 4) sc_keeps.nd rfl (by first | exact Or.inl rfl | exact Or.inr rfl) (pe_tup (pa_cons (pe_tup (pa_cons (pe_fld (pv 0) rfl) (pa_cons (pv 2) pa_nil))) (pa_cons (pe_ix ix_tup (pv 1) pe_int (fun _ _ => rfl)) pa_nil)))))
    pss_nil)
  (pss_one (ps_if (pt_not (pt_val (pe_c c_keeps hr (by first | exact Nat.le_refl _ | decide | omega) rfl (pa_cons (pv 3) (pa_cons (pv 4) pa_nil)))))
    (pss_one (ps_ret pe_bl))
    pss_nil)))))
(pss_one (ps_ret pe_bl)))))), ?_⟩
    rcases hT.form with ⟨rfl, p, dx, z, rfl, hp⟩ | ⟨C, p, dx, t, fs, vs, ps, rfl, hp, hpa, ht, hs, hlt, hnd, hC⟩
    · exact ⟨_, rfl, _, _, _, _, _, rfl, .own _, tyI T.i_End hp, T.i_End.me, _, rfl, iteT (k _ (Keep.refl _ _))⟩
    rcases hC with ⟨rfl, rfl⟩ | ⟨rfl, q, es, wv, rfl, hq, hvw, htd⟩
    · have ty := tyI T.i_Lot hp
      refine ⟨_, rfl, _, _, _, _, _, rfl, .own _, ty, T.kLE, _, rfl, iteF ?_⟩
      refine ⟨_, rfl, _, _, _, _, _, rfl, .own _, ty, T.kLT, _, rfl, iteT ?_⟩
      refine ⟨_, rfl, p, C, dx, _, _, rfl, hp, T.cl_Lot, T.a_Lot_parts, hpa, t, rfl, ⟨_, SqT.of ht⟩, fun D nD => ?_⟩
      have kD : Keep [] H (upd H D (.lst [])) := Keep.new nD
      refine lc_tup (K := K) (a := t) (xs := vs) (fun i H' => H' D = some (.lst ((ps.take i).map fun m => V.bl (keepsM m ra rb))) ∧ Keep [] H H') ⟨upd_same, kD⟩ (fun i H' _ ⟨_, kk⟩ => SqT.of (kk _ _ ht (by simp))) ?_ ?_
      · rintro i x H1 hx ⟨hD, k1⟩
        obtain ⟨m1, hm1, hTA⟩ := hs.get hx
        have h1 := hgts_get hm1
        have h2 := ndss_take ps hm1
        obtain ⟨hil, hie⟩ := List.getElem?_eq_some_iff.mp hm1
        have h4 := ndss_len ps
        refine ⟨rfl, yes_then ⟨_, rfl, _, rfl, x, r, m1, ra, rb, rfl, hTA.ki (KI.of k1), by omega, by omega, okMs_get hok hm1, ha, hb, hrt.tk k1.tk, fun H2 k2 => ⟨_, k2 _ _ hD (by simp), smallL (by simp; omega), ?_, (k1.trans k2).then_own nD⟩⟩⟩
        rw [List.take_succ_eq_append_getElem hil, hie, List.map_append]; exact upd_same
      · rintro H1 ⟨hD, k1⟩
        rw [hs.len, List.take_length] at hD
        refine ⟨D, ps.map fun m => keepsM m ra rb, rfl, SqL.of (by rw [List.map_map]; exact hD), ?_⟩
        rw [← keepsL_all]
        exact k _ k1
    · have ty := tyI T.i_Turn hp
      refine ⟨_, rfl, _, _, _, _, _, rfl, .own _, ty, T.kTE, _, rfl, iteF ?_⟩
      refine ⟨_, rfl, _, _, _, _, _, rfl, .own _, ty, T.i_Turn.me, _, rfl, iteF ?_⟩
      obtain ⟨o12, ol, oe, og, ops⟩ := hok
      refine ⟨_, rfl, p, C, dx, _, _, rfl, hp, T.cl_Turn, T.a_Turn_view, hvw, wv, es, rfl, htd, by omega, og, fun v1 H1 k1 hv1 => ?_⟩
      have hp1 := k1 _ _ hp (by simp)
      obtain ⟨rt, rxs, rfl, hrt0, hrts⟩ := td_view hrt
      refine ⟨_, rfl, _, rfl, p, C, dx, _, _, rfl, hp1, T.cl_Turn, T.a_Turn_player, hq, ?_⟩
      generalize hrq : (if q = 1 then ra else rb) = rq
      have hoq : OkR rq := by rw [← hrq]; split <;> assumption
      obtain ⟨v2, hv2, hd2⟩ : ∃ v2, atI rxs ((q : Int) - 1) = some v2 ∧ TD H v2 (dRowO rq) := by
        rcases o12 with rfl | rfl
        · obtain ⟨v2, h1, h2⟩ := hrts.get (i := 0) (d := dRowO ra) rfl
          rw [if_pos rfl] at hrq
          exact ⟨v2, atI_nat (j := 0) h1, hrq ▸ h2⟩
        · obtain ⟨v2, h1, h2⟩ := hrts.get (i := 1) (d := dRowO rb) rfl
          rw [if_neg (by decide)] at hrq
          exact ⟨v2, atI_nat (j := 1) h1, hrq ▸ h2⟩
      have hlo := lastRow_ok oe
      refine ⟨_, _, rfl, rfl, _, _, _, _, rfl, rfl, SqT.of (k1 _ _ hrt0 (by simp)), hv2, _, _, hv1.dp, (hd2.tk k1.tk).dp, shaped_rowO hlo, shaped_rowO hoq, _, rfl, ?_⟩
      rw [eqv_rowO hlo]
      refine iteN (fun hne => ?_) (fun heq => ?_)
      · have e : keepsM (.turn q es ps) ra rb = false := by
          show (decide (lastRow es = if q = 1 then ra else rb) && _) = false
          rw [hrq, decide_eq_false hne]; rfl
        have := k H1 k1
        rw [e] at this
        exact this
      have e : keepsM (.turn q es ps) ra rb = keepsT q es 0 ps ra rb := by
        show (decide (lastRow es = if q = 1 then ra else rb) && _) = _
        rw [hrq, decide_eq_true heq]; rfl
      rw [e] at k
      refine ⟨_, rfl, p, C, dx, _, _, rfl, hp1, T.cl_Turn, T.a_Turn_parts, hpa, ?_⟩
      refine ⟨t, vs, rfl, SqT.of (k1 _ _ ht (by simp)), for_it ENt.walk_enumT (fun i σ H' => ∃ o2 o3 o4, σ = [some (.ref p), some (.ref rt), o2, o3, o4] ∧ Keep [] H H' ∧ keepsT q es 0 ps ra rb = keepsT q es i (ps.drop i) ra rb) ⟨none, none, none, rfl, k1, rfl⟩ (fun i σ H' _ ⟨_, _, _, _, kk, _⟩ => SqT.of (kk _ _ ht (by simp))) ?_ ?_⟩
      · rintro i x σ H2 H3 hi ⟨o2, o3, o4, rfl, k2, e2⟩ ⟨T1, y1, y2, rfl, nT, rfl, hy1, hy2⟩
        obtain ⟨m1, hm1, hTA⟩ := hs.get hy2
        obtain rfl : V.int ((i : Nat) : Int) = y1 := Option.some.inj hy1
        obtain ⟨hil, hie⟩ := List.getElem?_eq_some_iff.mp hm1
        have h1 := hgts_get hm1
        have h2 := ndss_take ps hm1
        have k3 : Keep [] H2 (upd H2 T1 (.tup [.int (i : Nat), y2])) := Keep.new nT
        have k03 := k2.trans k3
        have ed : ps.drop i = m1 :: ps.drop (i + 1) := by rw [← hie, List.getElem_cons_drop hil]
        obtain ⟨v0, hv0, hd0⟩ := hrts.get (i := 0) (d := dRowO ra) rfl
        obtain ⟨v9, hv9, hd9⟩ := hrts.get (i := 1) (d := dRowO rb) rfl
        refine ⟨T1, _, rfl, SqT.of upd_same, rfl, _, _, rfl, _, _, rfl, rfl, ?_⟩
        generalize hH3 : upd H2 T1 (.tup [.int (i : Nat), y2]) = H3 at *
        refine ⟨_, rfl, _, _, _, _, rfl, rfl, SqT.of (k03 _ _ hrt0 (by simp)), atI_nat (j := 0) hv0, _, rfl, p, C, dx, _, _, rfl, k03 _ _ hp (by simp), T.cl_Turn, T.a_Turn_view, hvw, _, rfl, And.intro (by show 2 ≤ sizeLine; decide) <| fun q1 nq1 => And.intro (by show 2 ≤ sizeLine; decide) <| fun q2 nq2 => ?_⟩
        have kq1 := Keep.new (W := []) (o := .tup [wv, .int (i : Nat)]) nq1
        generalize hG1 : upd H3 q1 (.tup [wv, .int (i : Nat)]) = G1 at *
        have hq1 : G1 q1 = some (.tup [wv, .int (i : Nat)]) := by rw [← hG1]; exact upd_same
        have kq2 := Keep.new (W := []) (o := .tup [v0, .ref q1]) nq2
        generalize hG2 : upd G1 q2 (.tup [v0, .ref q1]) = G2 at *
        have hq2 : G2 q2 = some (.tup [v0, .ref q1]) := by rw [← hG2]; exact upd_same
        have kG := (k03.trans kq1).trans kq2
        have hnw : OkR (some (es, ((i : Nat) : Int))) := fun r hr e he => by
          cases hr; exact oe e he
        refine ⟨fun σ H' => ∃ a5 ra' rb', σ = [some (.ref p), some (.ref rt), some (.int (i : Nat)), some y2, some (.ref a5)] ∧ Keep [] H H' ∧ TD H' (.ref a5) (.tuple [dRowO ra', dRowO rb']) ∧ OkR ra' ∧ OkR rb' ∧ (if q = 1 then keepsM m1 (some (es, ((i : Nat) : Int))) rb else keepsM m1 ra (some (es, ((i : Nat) : Int)))) = keepsM m1 ra' rb', ?_, ?_⟩
        · refine ⟨_, rfl, p, C, dx, _, _, rfl, kG _ _ hp (by simp), T.cl_Turn, T.a_Turn_player, hq, rfl, _, rfl, iteD (fun e => ?_) (fun e => ?_)⟩
          · have e1 : q = 1 := by have := V.int.inj e; omega
            refine ⟨_, rfl, p, C, dx, _, _, rfl, kG _ _ hp (by simp), T.cl_Turn, T.a_Turn_view, hvw, _, rfl, And.intro (by show 2 ≤ sizeLine; decide) <| fun q3 nq3 => ?_⟩
            have kq3 := Keep.new (W := []) (o := .tup [wv, .int (i : Nat)]) nq3
            generalize hG3 : upd G2 q3 (.tup [wv, .int (i : Nat)]) = G3 at *
            have hq3 : G3 q3 = some (.tup [wv, .int (i : Nat)]) := by rw [← hG3]; exact upd_same
            refine ⟨_, rfl, _, _, _, _, rfl, rfl, SqT.of ((kG.trans kq3) _ _ hrt0 (by simp)), atI_nat (j := 1) hv9, And.intro (by show 2 ≤ sizeLine; decide) <| fun q4 nq4 => ?_⟩
            have kq4 := Keep.new (W := []) (o := .tup [.ref q3, v9]) nq4
            refine ⟨q4, some (es, ((i : Nat) : Int)), rb, rfl, (kG.trans kq3).trans kq4, .tup upd_same (.cons (.tup (kq4 _ _ hq3 (by simp)) (.cons (htd.tk ((kG.trans kq3).trans kq4).tk) (.cons (.int _) .nil))) (.cons (hd9.tk ((kG.trans kq3).trans kq4).tk) .nil)), hnw, hb, by rw [if_pos e1]⟩
          · have e1 : ¬ q = 1 := fun z => e (by rw [z]; rfl)
            exact ⟨q2, ra, some (es, ((i : Nat) : Int)), rfl, kG, .tup hq2 (.cons (hd0.tk kG.tk) (.cons (.tup (kq2 _ _ hq1 (by simp)) (.cons (htd.tk kG.tk) (.cons (.int _) .nil))) .nil)), ha, hnw, by rw [if_neg e1]⟩
        · rintro σ H4 ⟨a5, ra', rb', rfl, k4, hd5, hoa, hob, ek⟩
          have est : keepsT q es i (ps.drop i) ra rb = (keepsM m1 ra' rb' && keepsT q es (i + 1) (ps.drop (i + 1)) ra rb) := by
            rw [ed, ← ek]; rfl
          refine ⟨_, rfl, _, rfl, y2, .ref a5, m1, ra', rb', rfl, hTA.ki (KI.of k4), by omega, by omega, okMs_get ops hm1, hoa, hob, hd5, fun H5 k5 => ⟨_, rfl, ?_⟩⟩
          cases hz : keepsM m1 ra' rb' with
          | true =>
            refine iteF ⟨_, _, _, rfl, k4.trans k5, ?_⟩
            rw [e2, est, hz]; rfl
          | false =>
            refine iteT ?_
            have := k H5 (k4.trans k5)
            rw [e2, est, hz] at this
            exact this
      · rintro σ H2 ⟨o2, o3, o4, rfl, k2, e2⟩
        rw [hs.len, List.drop_length] at e2
        have := k H2 k2
        rw [e2] at this
        exact this
theorem keeps_all {f : Addr} {fd : FuncData} (D : C8.Def K mg "_keeps" s_keeps f fd) (b : Binds K fd ["tree", "rows"] []) (T : Txt K mg C_End C_Lot C_Turn) (c_last_row : C8.Cal P w K mg base 1 "last_row" sp_last_row []) : ∀ m, C8.Cal P w K mg base (m + 1) "_keeps" (sp_keeps C_End C_Lot C_Turn m) []
  | 0 => ok_keeps0 D b
  | m + 1 => ok_keeps D b T c_last_row (by omega) (keeps_all D b T c_last_row m)
theorem ok_remembers {f : Addr} {fd : FuncData} (D : C8.Def K mg "remembers" s_remembers f fd) (b : Binds K fd ["tree"] []) (T : Txt K mg C_End C_Lot C_Turn) {m k : Nat} (c_keeps : C8.Cal P w K mg base k "_keeps" (sp_keeps C_End C_Lot C_Turn m) []) : C8.Cal P w K mg base (k + 1) "remembers" (sp_remembers C_End C_Lot C_Turn m) [] := by
  refine cal0 D b .nil sc_remembers (fun vs H Q E h => ?_) (fun cdv A outer s H vs Q E hr h => ?_)
  · obtain ⟨v, tm, rfl, _⟩ := h
    rfl
  · obtain ⟨v, tm, rfl, hT, hh, hn, hok, k⟩ := h
    refine ⟨_, (pss_one (ps_ret (pe_c c_keeps hr (by first | exact Nat.le_refl _ | decide | omega) rfl (pa_cons (pv 0) (pa_cons (pe_tup (pa_cons pe_non (pa_cons pe_non pa_nil))) pa_nil))))), ?_⟩
    refine ⟨_, rfl, And.intro (by show 2 ≤ sizeLine; decide) <| fun q nq => ?_⟩
    have kq := Keep.new (W := []) (o := .tup [.non, .non]) nq
    exact ⟨v, .ref q, tm, none, none, rfl, hT.ki (KI.of kq), hh, hn, hok, (fun _ z => by cases z), (fun _ z => by cases z), .tup upd_same (.cons .non (.cons .non .nil)), fun H' k' => k H' (kq.trans k')⟩
end

/-- the tree of the stages, the parts of one stage turned round -/
def treeM (S : List Stg) (rv : Option Nat) : Nat → List Nat → TM
  | 0, _ => .fin
  | n + 1, p =>
    let ps := (List.range (stg S p.length).sz).map fun k => treeM S rv n (p ++ [k])
    let qs := if rv = some p.length then ps.reverse else ps
    if (stg S p.length).pl = 0 then .lot qs else .turn (stg S p.length).pl (asked S p p.length) qs
def VP (S : List Stg) (p : List Nat) : Prop := p.length ≤ S.length ∧ ∀ i, i < p.length → p.getD i 0 < (stg S i).sz
theorem VP.snoc {S : List Stg} {p : List Nat} {k : Nat} (h : VP S p) (hl : p.length < S.length) (hk : k < (stg S p.length).sz) : VP S (p ++ [k]) := by
  refine ⟨by rw [List.length_append]; exact hl, fun i hi => ?_⟩
  rw [List.length_append] at hi
  simp only [List.length_cons, List.length_nil] at hi
  rcases Nat.lt_or_ge i p.length with z | z
  · rw [List.getD_eq_getElem?_getD, List.getElem?_append_left z, ← List.getD_eq_getElem?_getD]; exact h.2 i z
  · have : i = p.length := by omega
    subst this
    rw [List.getD_eq_getElem?_getD, List.getElem?_append_right (Nat.le_refl _)]
    simpa using hk
def ixOf (S : List Stg) (p : List Nat) : Nat → Nat
  | 0 => 0
  | k + 1 => ixOf S p k * (stg S k).sz + p.getD k 0
theorem stg_take {S : List Stg} {k : Nat} (h : k < S.length) : S.take (k + 1) = S.take k ++ [stg S k] := by
  rw [List.take_succ_eq_append_getElem h]
  unfold stg
  rw [List.getD_eq_getElem?_getD, List.getElem?_eq_getElem h]; rfl
theorem ix_lt {S : List Stg} {p : List Nat} (h : VP S p) : ∀ k, k ≤ p.length → ixOf S p k < prodS (S.take k)
  | 0, _ => by rw [List.take_zero]; exact Nat.one_pos
  | k + 1, hk => by
    have ih := ix_lt h k (by omega)
    have hv := h.2 k (by omega)
    rw [stg_take (by have := h.1; omega), prod_app]
    show ixOf S p k * (stg S k).sz + p.getD k 0 < prodS (S.take k) * (stg S k).sz
    have : (ixOf S p k + 1) * (stg S k).sz ≤ prodS (S.take k) * (stg S k).sz := Nat.mul_le_mul_right _ ih
    rw [Nat.add_mul, Nat.one_mul] at this
    omega
theorem path_at {p : List Nat} {i : Nat} (h : i < p.length) : atI (p.map nat) ((i : Nat) : Int) = some (nat (p.getD i 0)) := by
  refine atI_nat ?_
  rw [List.getElem?_map, List.getElem?_eq_getElem h, List.getD_eq_getElem?_getD, List.getElem?_eq_getElem h]; rfl
section
variable {P : Program} {w : World} {K : PySem.W.Frag} {mg : Str → Option Value} {base : Heap} {C_End : Addr} {C_Lot : Addr} {C_Turn : Addr}
def sp_node (CE CL CT : Addr) (n : Nat) : Sp := fun vs H Q _ => ∃ (a pd b : Addr) (S : List Stg) (p : List Nat) (zs : List V), vs = [.ref a, .ref pd, .ref b] ∧ StA H a S ∧ SOk S ∧ PaA H b p ∧ VP S p ∧ S.length < p.length + n ∧ H pd = some (.lst zs) ∧ zs.length = prodS S ∧ ∀ v H', TA CE CL CT H' (treeM S none (S.length - p.length) p) v → Keep [] H H' → Q v H'
theorem ok_node0 {f : Addr} {fd : FuncData} (D : C8.Def K mg "_law_node" s_law_node f fd) (b : Binds K fd ["stages", "paid", "path"] []) : C8.Cal P w K mg base 2 "_law_node" (sp_node C_End C_Lot C_Turn 0) [] :=
  ⟨f, fd, ["stages", "paid", "path"], [], ⟨fun vs H Q E h => (by obtain ⟨a, pd, b, S, p, zs, rfl, _⟩ := h; rfl), fun A outer s H args us vs Q E _ _ _ _ h => (by obtain ⟨a, pd, b, S, p, zs, _, _, _, _, hv, z, _⟩ := h; have := hv.1; omega)⟩, D.mgf, D.kp, b, .nil⟩
theorem ok_node {f : Addr} {fd : FuncData} (D : C8.Def K mg "_law_node" s_law_node f fd) (b : Binds K fd ["stages", "paid", "path"] []) (T : Txt K mg C_End C_Lot C_Turn) (c_End : C8.Mak P w K mg base 1 "End" C_End (sp_ini1 C_End "paid") []) (c_Lot : C8.Mak P w K mg base 1 "Lot" C_Lot (sp_ini1 C_Lot "parts") []) (c_Turn : C8.Mak P w K mg base 1 "Turn" C_Turn (sp_ini3 C_Turn "player" "view" "parts") [])
    (c_law_asked : C8.Cal P w K mg base 2 "_law_asked" sp_asked []) {m k : Nat} (hk : 2 ≤ k) (c_law_node : C8.Cal P w K mg base k "_law_node" (sp_node C_End C_Lot C_Turn m) []) : C8.Cal P w K mg base (k + 1) "_law_node" (sp_node C_End C_Lot C_Turn (m + 1)) [] := by
  refine cal0 D b .nil sc_law_node (fun vs H Q E h => ?_) (fun cdv A outer s H vs Q E hr h => ?_)
  · obtain ⟨a, pd, b, S, p, zs, rfl, _⟩ := h
    rfl
  · obtain ⟨a, pd, b, S, p, zs, rfl, hS, hok, hb, hvp, hf, hpd, hzl, k⟩ := h
    refine ⟨_, (pss_cons (ps_if (pt_cmpR op_eq (pe_callB call_len_seq (by rfl) T.n_len bo_len (pa_cons (pv 2) pa_nil)) (pe_callB call_len_seq (by rfl) T.n_len bo_len (pa_cons (pv 0) pa_nil)) (nomark _))
  (pss_cons (ps_set (i := 3) sc_law_node.nd rfl (by first | exact Or.inl rfl | exact Or.inr rfl) pe_int)
  (pss_cons (ps_for PassesOwn.never rfl (pi_range1 (by rfl) T.n_range (pa_cons (pe_callB call_len_seq (by rfl) T.n_len bo_len (pa_cons (pv 2) pa_nil)) pa_nil)) (pg_name (i := 4) sc_law_node.nd rfl (by first | exact Or.inl rfl | exact Or.inr rfl))
    (pss_one (ps_set (i := 3) sc_law_node.nd rfl (by first | exact Or.inl rfl | exact Or.inr rfl) (pe_op op_add (pe_op op_mul (pv 3) (pe_ix ix_tup (pe_ix ix_list (pv 0) (pv 4) (fun _ _ => rfl)) pe_int (fun _ _ => rfl))) (pe_ix ix_list (pv 2) (pv 4) (fun _ _ => rfl))))))
  (pss_one (ps_ret (pe_mk c_End hr (by first | exact Nat.le_refl _ | decide | omega) rfl (pa_cons (pe_ix ix_list (pv 1) (pv 3) (fun _ _ => rfl)) pa_nil))))))
  pss_nil)
(pss_cons (ps_set (i := 5) sc_law_node.nd rfl (by first | exact Or.inl rfl | exact Or.inr rfl) (pe_ix ix_list (pv 0) (pe_callB call_len_seq (by rfl) T.n_len bo_len (pa_cons (pv 2) pa_nil)) (fun _ _ => rfl)))
(pss_cons (ps_set (i := 6) sc_law_node.nd rfl (by first | exact Or.inl rfl | exact Or.inr rfl) (pe_lst pa_nil))
(pss_cons (ps_for PassesOwn.never rfl (pi_range1 (by rfl) T.n_range (pa_cons (pe_ix ix_tup (pv 5) pe_int (fun _ _ => rfl)) pa_nil)) (pg_name (i := 4) sc_law_node.nd rfl (by first | exact Or.inl rfl | exact Or.inr rfl))
  (pss_one (ps_expr (pe_bm PySem.F.plainAttrs_list PySem.F.slot_list_append PySem.F.type_list_append mt_append (pv 6) (pa_cons (pe_c c_law_node hr (by first | exact Nat.le_refl _ | decide | omega) rfl (pa_cons (pv 0) (pa_cons (pv 1) (pa_cons (pe_op op_cat (pv 2) (pe_lst (pa_cons (pv 4) pa_nil))) pa_nil)))) pa_nil)))))
(pss_cons (ps_if (pt_cmpR op_eq (pe_ix ix_tup (pv 5) pe_int (fun _ _ => rfl)) pe_int (nomark _))
  (pss_one (ps_ret (pe_mk c_Lot hr (by first | exact Nat.le_refl _ | decide | omega) rfl (pa_cons (pe_callTy call_tuple_of (by rfl) T.n_tuple bo_tuple (pa_cons (pv 6) pa_nil)) pa_nil))))
  pss_nil)
(pss_one (ps_ret (pe_mk c_Turn hr (by first | exact Nat.le_refl _ | decide | omega) rfl (pa_cons (pe_ix ix_tup (pv 5) pe_int (fun _ _ => rfl)) (pa_cons (pe_c c_law_asked hr (by first | exact Nat.le_refl _ | decide | omega) rfl (pa_cons (pv 0) (pa_cons (pv 2) pa_nil))) (pa_cons (pe_callTy call_tuple_of (by rfl) T.n_tuple bo_tuple (pa_cons (pv 6) pa_nil)) pa_nil))))))))))), ?_⟩
    obtain ⟨vs, hvs, hSL⟩ := id hS
    have hlS := hSL.len
    have hplen : (p.map nat).length = p.length := List.length_map ..
    refine ⟨_, rfl, _, _, rfl, .inl (SqL.of hb), _, rfl, _, _, rfl, .inl (SqL.of hvs), rfl, _, rfl, iteD (fun e => ?_) (fun e => ?_)⟩
    · have e1 : p.length = S.length := by have := V.int.inj e; rw [hplen, hlS] at this; omega
      have h4 := hok.len
      refine ⟨_, rfl, _, _, rfl, .inl (SqL.of hb), _, rfl, by rw [hplen]; omega, by rw [hplen]; omega, ?_⟩
      rw [hplen]
      refine for_range (lo := 0) (n := p.length) (fun j σ H' => ∃ o4, σ = [some (.ref a), some (.ref pd), some (.ref b), some (.int (ixOf S p j)), o4, none, none] ∧ H' = H) ⟨none, rfl, rfl⟩ ?_ ?_
      · rintro j σ H' hj ⟨o4, rfl, rfl⟩
        have e0 : (0 : Int) + (j : Int) = (j : Int) := by omega
        rw [e0]
        obtain ⟨t, ht1, ht0⟩ := hSL.get (i := j) (by omega)
        have hix := ix_lt hvp j (by omega)
        have hpr : prodS (S.take j) ≤ 100 := Nat.le_trans (prod_take hok.all _) hok.prod
        have hsz := (stg_ok hok j).sz1
        refine ⟨_, rfl, _, rfl, _, rfl, _, _, _, _, rfl, rfl, SqL.of hvs, atI_nat ht1, _, _, _, _, rfl, rfl, SqT.of ht0, rfl, _, _, rfl, rfl, ?_⟩
        refine ⟨.inr ⟨by omega, by omega⟩, _, rfl, _, rfl, _, _, _, _, rfl, rfl, SqL.of hb, path_at (by omega), _, _, rfl, rfl, ?_⟩
        have hpj := hvp.2 j hj
        refine ⟨some (.int (j : Nat)), ?_, rfl⟩
        show _ = ([some (V.ref a), some (V.ref pd), some (V.ref b), some (V.int ((ixOf S p j * (stg S j).sz + p.getD j 0 : Nat) : Int)), some (V.int (j : Nat)), none, none] : List (Option V))
        push_cast
        rfl
      · rintro σ H' ⟨o4, rfl, rfl⟩
        have hix := ix_lt hvp p.length (Nat.le_refl _)
        rw [e1, List.take_length] at hix
        have hzx : atI zs ((ixOf S p p.length : Nat) : Int) = some (zs[ixOf S p p.length]'(by rw [e1]; omega)) := atI_nat (List.getElem?_eq_getElem _)
        have en : S.length - p.length = 0 := by omega
        rw [en] at k
        refine ⟨_, rfl, _, rfl, _, _, _, _, rfl, rfl, SqL.of hpd, hzx, fun q dq nq ndq neq => ⟨q, dq, _, rfl, upd_same, ?_⟩⟩
        rw [upd_upd]
        exact ⟨rfl, k _ _ ⟨q, dq, _, rfl, upd_same⟩ (Keep.made nq ndq)⟩
    · have e1 : p.length < S.length := by
        rcases Nat.lt_or_ge p.length S.length with z | z
        · exact z
        · exact absurd (by rw [hplen, hlS]; have := hvp.1; congr 1; omega) e
      obtain ⟨t, ht1, ht0⟩ := hSL.get e1
      refine ⟨_, rfl, _, rfl, _, _, rfl, .inl (SqL.of hb), _, _, _, _, rfl, rfl, SqL.of hvs, atI_nat (by rw [hplen]; exact ht1), ?_⟩
      have hok1 := stg_ok hok p.length
      obtain ⟨n1, en⟩ : ∃ n1, S.length - p.length = n1 + 1 := ⟨S.length - p.length - 1, by omega⟩
      rw [en] at k
      have hpr := hok.prod
      refine And.intro (by show 0 ≤ sizeLine; decide) <| fun l nl => ?_
      have k0 : Keep [] H (upd H l (.lst [])) := Keep.new nl
      refine ⟨_, rfl, _, _, _, _, rfl, rfl, SqT.of (k0 _ _ ht0 (by simp)), rfl, _, rfl, by omega, by have := hok1.sz1; omega, ?_⟩
      refine for_range (lo := 0) (n := ((stg S p.length).sz : Int).toNat) (fun j σ H' => ∃ xs o5, σ = [some (.ref a), some (.ref pd), some (.ref b), none, o5, some (.ref t), some (.ref l)] ∧ H' l = some (.lst xs) ∧ TAs C_End C_Lot C_Turn H' ((List.range j).map fun k => treeM S none n1 (p ++ [k])) xs ∧ Keep [] H H') ⟨[], none, rfl, upd_same, rfl, k0⟩ ?_ ?_
      · rintro j σ H1 hj ⟨xs, o5, rfl, hl, hxs, k1⟩
        have e0 : (0 : Int) + (j : Int) = (j : Int) := by omega
        rw [e0]
        have hj' : j < (stg S p.length).sz := by omega
        have hxl := hxs.len
        rw [List.length_map, List.length_range] at hxl
        have hsz := hok1.sz1
        refine ⟨_, rfl, .inl ⟨rfl, _, SqL.of hl⟩, _, rfl, _, rfl, _, rfl, _, rfl, And.intro (by show 1 ≤ sizeLine; decide) <| fun g ng => ?_⟩
        have ks : Keep [] H1 (upd H1 g (.lst [.int (j : Int)])) := Keep.new ng
        have hb1 := k1 _ _ hb (by simp)
        have hp4 : p.length ≤ 100 := by have := hok.len; omega
        refine ⟨b, g, _, _, rfl, rfl, ks _ _ hb1 (by simp), upd_same, smallM (by rw [List.length_map]; simp; omega), fun r nr => ?_⟩
        have kr := ks.then_new (o := .lst (p.map nat ++ [.int (j : Int)])) nr
        have k1r := k1.trans kr
        refine ⟨a, pd, r, S, p ++ [j], zs, rfl, hS.keep k1r, hok, ?_, hvp.snoc e1 hj', by rw [List.length_append]; simp; omega, k1r _ _ hpd (by simp), hzl, fun v H2 hv k2 => ?_⟩
        · show upd _ r _ r = _
          rw [upd_same, List.map_append]; rfl
        · have en1 : S.length - (p ++ [j]).length = n1 := by rw [List.length_append]; simp; omega
          rw [en1] at hv
          have hl2 := k2 _ _ (kr _ _ hl (by simp)) (by simp)
          refine ⟨_, _, _, rfl, rfl, hl2, smallL (by omega), xs ++ [v], _, rfl, upd_same, ?_, ((k1r.trans k2).then_own nl)⟩
          rw [List.range_succ, List.map_append]
          exact (TAs.ki ((KI.of (kr.trans k2)).trans (KI.lst hl2)) _ hxs).snoc (TA.ki (KI.lst hl2) _ hv)
      · rintro σ H1 ⟨xs, o5, rfl, hl, hxs, k1⟩
        rw [Int.toNat_natCast] at hxs
        have ht1' := k1 _ _ ht0 (by simp)
        have hlen : xs.length ≤ 1000000 := by
          have := hxs.len
          rw [List.length_map, List.length_range] at this
          have := hok1.sz1
          omega
        refine ⟨_, rfl, _, _, _, _, rfl, rfl, SqT.of ht1', rfl, rfl, _, rfl, iteD (fun e => ?_) (fun e => ?_)⟩
        · have e2 : (stg S p.length).pl = 0 := by have := V.int.inj e; omega
          refine ⟨_, rfl, l, xs, rfl, .inl ⟨SqL.of hl, fun q nq => fun x dx nx ndx ne => ⟨x, dx, _, rfl, upd_same, rfl, ?_⟩⟩⟩
          have kq := Keep.new (W := []) (o := .tup xs) nq
          have km := Keep.made (o := .ins C_Lot dx [("parts", .ref q)]) nx ndx
          rw [upd_upd]
          refine k _ _ ?_ ((k1.trans kq).trans km)
          have ee : treeM S none (n1 + 1) p = .lot ((List.range (stg S p.length).sz).map fun k => treeM S none n1 (p ++ [k])) := by
            show (if (stg S p.length).pl = 0 then _ else _) = _
            rw [if_pos e2]; rfl
          rw [ee]
          exact ⟨x, dx, q, xs, rfl, upd_same, km _ _ upd_same (by simp), TAs.ki (KI.of (kq.trans km)) _ hxs⟩
        · have e2 : ¬ (stg S p.length).pl = 0 := fun z => e (by rw [z]; rfl)
          refine ⟨_, rfl, _, _, _, _, rfl, rfl, SqT.of ht1', rfl, _, rfl, _, rfl, a, b, S, p, rfl, hS.keep k1, hok, k1 _ _ hb (by simp), e1, fun v H2 hv k2 => ?_⟩
          refine ⟨_, rfl, l, xs, rfl, .inl ⟨SqL.of (k2 _ _ hl (by simp)), fun q nq => fun x dx nx ndx ne => ⟨x, dx, _, _, _, rfl, upd_same, rfl, ?_⟩⟩⟩
          have kq := Keep.new (W := []) (o := .tup xs) nq
          have km := Keep.made (o := .ins C_Turn dx [("player", .int ((stg S p.length).pl : Nat)), ("view", v), ("parts", .ref q)]) nx ndx
          rw [upd_upd]
          refine k _ _ ?_ (((k1.trans k2).trans kq).trans km)
          have ee : treeM S none (n1 + 1) p = .turn (stg S p.length).pl (asked S p p.length) ((List.range (stg S p.length).sz).map fun k => treeM S none n1 (p ++ [k])) := by
            show (if (stg S p.length).pl = 0 then _ else _) = _
            rw [if_neg e2]; rfl
          rw [ee]
          exact ⟨x, dx, v, q, xs, rfl, upd_same, hv.tk (kq.trans km).tk, km _ _ upd_same (by simp), TAs.ki (KI.of ((k2.trans kq).trans km)) _ hxs⟩
theorem node_all {f : Addr} {fd : FuncData} (D : C8.Def K mg "_law_node" s_law_node f fd) (b : Binds K fd ["stages", "paid", "path"] []) (T : Txt K mg C_End C_Lot C_Turn) (c_End : C8.Mak P w K mg base 1 "End" C_End (sp_ini1 C_End "paid") []) (c_Lot : C8.Mak P w K mg base 1 "Lot" C_Lot (sp_ini1 C_Lot "parts") []) (c_Turn : C8.Mak P w K mg base 1 "Turn" C_Turn (sp_ini3 C_Turn "player" "view" "parts") [])
    (c_law_asked : C8.Cal P w K mg base 2 "_law_asked" sp_asked []) : ∀ m, C8.Cal P w K mg base (m + 2) "_law_node" (sp_node C_End C_Lot C_Turn m) []
  | 0 => ok_node0 D b
  | m + 1 => ok_node D b T c_End c_Lot c_Turn c_law_asked (by omega) (node_all D b T c_End c_Lot c_Turn c_law_asked m)
end

section
variable {P : Program} {w : World} {K : PySem.W.Frag} {mg : Str → Option Value} {base : Heap} {C_End : Addr} {C_Lot : Addr} {C_Turn : Addr}
def sp_turned (CE CL CT : Addr) (n : Nat) : Sp := fun vs H Q _ => ∃ (a b : Addr) (S : List Stg) (p : List Nat) (at_ : Nat), vs = [.ref a, .ref b, .int at_] ∧ StA H a S ∧ SOk S ∧ PaA H b p ∧ VP S p ∧ S.length < p.length + n ∧ ∀ v H', TA CE CL CT H' (treeM S (some at_) (S.length - p.length) p) v → Keep [] H H' → Q v H'
theorem ok_turned0 {f : Addr} {fd : FuncData} (D : C8.Def K mg "_law_turned" s_law_turned f fd) (b : Binds K fd ["stages", "path", "at"] []) : C8.Cal P w K mg base 2 "_law_turned" (sp_turned C_End C_Lot C_Turn 0) [] :=
  ⟨f, fd, ["stages", "path", "at"], [], ⟨fun vs H Q E h => (by obtain ⟨a, b, S, p, t, rfl, _⟩ := h; rfl), fun A outer s H args us vs Q E _ _ _ _ h => (by obtain ⟨a, b, S, p, t, _, _, _, _, hv, z, _⟩ := h; have := hv.1; omega)⟩, D.mgf, D.kp, b, .nil⟩
theorem ok_turned {f : Addr} {fd : FuncData} (D : C8.Def K mg "_law_turned" s_law_turned f fd) (b : Binds K fd ["stages", "path", "at"] []) (T : Txt K mg C_End C_Lot C_Turn) (c_End : C8.Mak P w K mg base 1 "End" C_End (sp_ini1 C_End "paid") []) (c_Lot : C8.Mak P w K mg base 1 "Lot" C_Lot (sp_ini1 C_Lot "parts") []) (c_Turn : C8.Mak P w K mg base 1 "Turn" C_Turn (sp_ini3 C_Turn "player" "view" "parts") [])
    (c_law_asked : C8.Cal P w K mg base 2 "_law_asked" sp_asked []) {m k : Nat} (hk : 2 ≤ k) (c_law_turned : C8.Cal P w K mg base k "_law_turned" (sp_turned C_End C_Lot C_Turn m) []) : C8.Cal P w K mg base (k + 1) "_law_turned" (sp_turned C_End C_Lot C_Turn (m + 1)) [] := by
  refine cal0 D b .nil sc_law_turned (fun vs H Q E h => ?_) (fun cdv A outer s H vs Q E hr h => ?_)
  · obtain ⟨a, b, S, p, at_, rfl, _⟩ := h
    rfl
  · obtain ⟨a, b, S, p, at_, rfl, hS, hok, hb, hvp, hf, k⟩ := h
    refine ⟨_, (pss_cons (ps_if (pt_cmpR op_eq (pe_callB call_len_seq (by rfl) T.n_len bo_len (pa_cons (pv 1) pa_nil)) (pe_callB call_len_seq (by rfl) T.n_len bo_len (pa_cons (pv 0) pa_nil)) (nomark _))
  (pss_one (ps_ret (pe_mk c_End hr (by first | exact Nat.le_refl _ | decide | omega) rfl (pa_cons pe_int pa_nil))))
  pss_nil)
(pss_cons (ps_set (i := 3) sc_law_turned.nd rfl (by first | exact Or.inl rfl | exact Or.inr rfl) (pe_ix ix_list (pv 0) (pe_callB call_len_seq (by rfl) T.n_len bo_len (pa_cons (pv 1) pa_nil)) (fun _ _ => rfl)))
(pss_cons (ps_setLc (i := 4) (own := [("k", 5)]) (g := gName 5) (tt := tYes) rfl sc_law_turned.nd rfl rfl (sw_true rfl rfl rfl (by decide +kernel)) (pi_range1 (by rfl) T.n_range (pa_cons (pe_ix ix_tup (pv 3) pe_int (fun _ _ => rfl)) pa_nil)) (blkOk_by (N := ["stages", "path", "at", "stage", "parts", "k"]) (sc := fnScope s_law_turned) (by decide +kernel)) (fun _ _ _ _ _ => pg_name (i := 5) sc_law_turned.nd rfl (Or.inl rfl)) (fun _ _ _ _ _ => pts_nil) (fun _ _ _ _ _ => (pe_c c_law_turned hr (by first | exact Nat.le_refl _ | decide | omega) rfl (pa_cons (pv 0) (pa_cons (pe_op op_cat (pv 1) (pe_lst (pa_cons (pv 5) pa_nil))) (pa_cons (pv 2) pa_nil))))))
(pss_cut (ps_if (pt_cmpR op_eq (pe_callB call_len_seq (by rfl) T.n_len bo_len (pa_cons (pv 1) pa_nil)) (pv 2) (nomark _))
  (pss_one (ps_set (i := 4) sc_law_turned.nd rfl (by first | exact Or.inl rfl | exact Or.inr rfl) (pe_revL (pv 4))))
  pss_nil)
(pss_cons (ps_if (pt_cmpR op_eq (pe_ix ix_tup (pv 3) pe_int (fun _ _ => rfl)) pe_int (nomark _))
  (pss_one (ps_ret (pe_mk c_Lot hr (by first | exact Nat.le_refl _ | decide | omega) rfl (pa_cons (pe_callTy call_tuple_of (by rfl) T.n_tuple bo_tuple (pa_cons (pv 4) pa_nil)) pa_nil))))
  pss_nil)
(pss_one (ps_ret (pe_mk c_Turn hr (by first | exact Nat.le_refl _ | decide | omega) rfl (pa_cons (pe_ix ix_tup (pv 3) pe_int (fun _ _ => rfl)) (pa_cons (pe_c c_law_asked hr (by first | exact Nat.le_refl _ | decide | omega) rfl (pa_cons (pv 0) (pa_cons (pv 1) pa_nil))) (pa_cons (pe_callTy call_tuple_of (by rfl) T.n_tuple bo_tuple (pa_cons (pv 4) pa_nil)) pa_nil))))))))))), ?_⟩
    obtain ⟨vs, hvs, hSL⟩ := id hS
    have hlS := hSL.len
    have hplen : (p.map nat).length = p.length := List.length_map ..
    refine ⟨_, rfl, _, _, rfl, .inl (SqL.of hb), _, rfl, _, _, rfl, .inl (SqL.of hvs), rfl, _, rfl, iteD (fun e => ?_) (fun e => ?_)⟩
    · have e1 : p.length = S.length := by have := V.int.inj e; rw [hplen, hlS] at this; omega
      have en : S.length - p.length = 0 := by omega
      rw [en] at k
      refine fun q dq nq ndq neq => ⟨q, dq, _, rfl, upd_same, rfl, ?_⟩
      rw [upd_upd]
      exact k _ _ ⟨q, dq, _, rfl, upd_same⟩ (Keep.made nq ndq)
    · have e1 : p.length < S.length := by
        rcases Nat.lt_or_ge p.length S.length with z | z
        · exact z
        · exact absurd (by rw [hplen, hlS]; have := hvp.1; congr 1; omega) e
      obtain ⟨t, ht1, ht0⟩ := hSL.get e1
      have hok1 := stg_ok hok p.length
      obtain ⟨n1, en⟩ : ∃ n1, S.length - p.length = n1 + 1 := ⟨S.length - p.length - 1, by omega⟩
      rw [en] at k
      have hpr := hok.prod
      refine ⟨_, rfl, _, rfl, _, _, rfl, .inl (SqL.of hb), _, _, _, _, rfl, rfl, SqL.of hvs, atI_nat (by rw [hplen]; exact ht1), ?_⟩
      refine ⟨_, rfl, _, _, _, _, rfl, rfl, SqT.of ht0, rfl, _, rfl, by omega, by have := hok1.sz1; omega, fun l nl => ?_⟩
      refine lc_range (lo := 0) (n := ((stg S p.length).sz : Int).toNat) (fun j H' => ∃ xs, H' l = some (.lst xs) ∧ TAs C_End C_Lot C_Turn H' ((List.range j).map fun k => treeM S (some at_) n1 (p ++ [k])) xs ∧ Keep [] H H') ⟨[], upd_same, rfl, Keep.new nl⟩ ?_ ?_
      · rintro j H1 hj ⟨xs, hl, hxs, k1⟩
        have e0 : (0 : Int) + (j : Int) = (j : Int) := by omega
        rw [e0]
        have hj' : j < (stg S p.length).sz := by omega
        have hxl := hxs.len
        rw [List.length_map, List.length_range] at hxl
        have hsz := hok1.sz1
        refine ⟨rfl, yes_then ⟨_, rfl, _, rfl, _, rfl, And.intro (by show 1 ≤ sizeLine; decide) <| fun g ng => ?_⟩⟩
        have ks : Keep [] H1 (upd H1 g (.lst [.int (j : Int)])) := Keep.new ng
        have hb1 := k1 _ _ hb (by simp)
        have hp4 : p.length ≤ 100 := by have := hok.len; omega
        refine ⟨b, g, _, _, rfl, rfl, ks _ _ hb1 (by simp), upd_same, smallM (by rw [List.length_map]; simp; omega), fun r nr => ?_⟩
        have kr := ks.then_new (o := .lst (p.map nat ++ [.int (j : Int)])) nr
        have k1r := k1.trans kr
        refine ⟨_, rfl, a, r, S, p ++ [j], at_, rfl, hS.keep k1r, hok, ?_, hvp.snoc e1 hj', by rw [List.length_append]; simp; omega, fun v H2 hv k2 => ?_⟩
        · show upd _ r _ r = _
          rw [upd_same, List.map_append]; rfl
        · have en1 : S.length - (p ++ [j]).length = n1 := by rw [List.length_append]; simp; omega
          rw [en1] at hv
          have hl2 := k2 _ _ (kr _ _ hl (by simp)) (by simp)
          refine ⟨_, hl2, smallL (by omega), xs ++ [v], upd_same, ?_, ((k1r.trans k2).then_own nl)⟩
          rw [List.range_succ, List.map_append]
          exact (TAs.ki ((KI.of (kr.trans k2)).trans (KI.lst hl2)) _ hxs).snoc (TA.ki (KI.lst hl2) _ hv)
      · rintro H1 ⟨xs, hl, hxs, k1⟩
        rw [Int.toNat_natCast] at hxs
        have ht1' := k1 _ _ ht0 (by simp)
        generalize hps : ((List.range (stg S p.length).sz).map fun k => treeM S (some at_) n1 (p ++ [k])) = ps at *
        refine ⟨fun σ H' => ∃ l' xs' o6, σ = [some (.ref a), some (.ref b), some (.int at_), some (.ref t), some (.ref l'), o6] ∧ H' l' = some (.lst xs') ∧ TAs C_End C_Lot C_Turn H' (if some at_ = some p.length then ps.reverse else ps) xs' ∧ Keep [] H1 H', ?_, ?_⟩
        · refine ⟨_, rfl, _, _, rfl, .inl (SqL.of (k1 _ _ hb (by simp))), _, rfl, rfl, _, rfl, iteD (fun e => ?_) (fun e => ?_)⟩
          · have ea : at_ = p.length := by have := V.int.inj e; rw [hplen] at this; omega
            refine ⟨_, rfl, l, xs, rfl, SqL.of hl, fun q nq => ?_⟩
            have kq := Keep.new (W := []) (o := .lst xs.reverse) nq
            exact ⟨q, _, _, rfl, upd_same, by rw [ea, if_pos rfl]; exact (TAs.ki (KI.of kq) _ hxs).rev, kq⟩
          · have ea : ¬ some at_ = some p.length := fun z => e (by rw [hplen, Option.some.inj z])
            exact ⟨l, xs, _, rfl, hl, by rw [if_neg ea]; exact hxs, Keep.refl _ _⟩
        · rintro σ H2 ⟨l', xs', o6, rfl, hl', hxs', k2⟩
          have k12 := k1.trans k2
          have ht2' := k2 _ _ ht1' (by simp)
          refine ⟨_, rfl, _, _, _, _, rfl, rfl, SqT.of ht2', rfl, rfl, _, rfl, iteD (fun e => ?_) (fun e => ?_)⟩
          · have e2 : (stg S p.length).pl = 0 := by have := V.int.inj e; omega
            refine ⟨_, rfl, l', xs', rfl, .inl ⟨SqL.of hl', fun q nq => fun x dx nx ndx ne => ⟨x, dx, _, rfl, upd_same, rfl, ?_⟩⟩⟩
            have kq := Keep.new (W := []) (o := .tup xs') nq
            have km := Keep.made (o := .ins C_Lot dx [("parts", .ref q)]) nx ndx
            rw [upd_upd]
            refine k _ _ ?_ ((k12.trans kq).trans km)
            have ee : treeM S (some at_) (n1 + 1) p = .lot (if some at_ = some p.length then ps.reverse else ps) := by
              show (if (stg S p.length).pl = 0 then _ else _) = _
              rw [if_pos e2, hps]
            rw [ee]
            exact ⟨x, dx, q, xs', rfl, upd_same, km _ _ upd_same (by simp), TAs.ki (KI.of (kq.trans km)) _ hxs'⟩
          · have e2 : ¬ (stg S p.length).pl = 0 := fun z => e (by rw [z]; rfl)
            refine ⟨_, rfl, _, _, _, _, rfl, rfl, SqT.of ht2', rfl, _, rfl, _, rfl, a, b, S, p, rfl, hS.keep k12, hok, k12 _ _ hb (by simp), e1, fun v H3 hv k3 => ?_⟩
            refine ⟨_, rfl, l', xs', rfl, .inl ⟨SqL.of (k3 _ _ hl' (by simp)), fun q nq => fun x dx nx ndx ne => ⟨x, dx, _, _, _, rfl, upd_same, rfl, ?_⟩⟩⟩
            have kq := Keep.new (W := []) (o := .tup xs') nq
            have km := Keep.made (o := .ins C_Turn dx [("player", .int ((stg S p.length).pl : Nat)), ("view", v), ("parts", .ref q)]) nx ndx
            rw [upd_upd]
            refine k _ _ ?_ (((k12.trans k3).trans kq).trans km)
            have ee : treeM S (some at_) (n1 + 1) p = .turn (stg S p.length).pl (asked S p p.length) (if some at_ = some p.length then ps.reverse else ps) := by
              show (if (stg S p.length).pl = 0 then _ else _) = _
              rw [if_neg e2, hps]
            rw [ee]
            exact ⟨x, dx, v, q, xs', rfl, upd_same, hv.tk (kq.trans km).tk, km _ _ upd_same (by simp), TAs.ki (KI.of ((k3.trans kq).trans km)) _ hxs'⟩
theorem turned_all {f : Addr} {fd : FuncData} (D : C8.Def K mg "_law_turned" s_law_turned f fd) (b : Binds K fd ["stages", "path", "at"] []) (T : Txt K mg C_End C_Lot C_Turn) (c_End : C8.Mak P w K mg base 1 "End" C_End (sp_ini1 C_End "paid") []) (c_Lot : C8.Mak P w K mg base 1 "Lot" C_Lot (sp_ini1 C_Lot "parts") []) (c_Turn : C8.Mak P w K mg base 1 "Turn" C_Turn (sp_ini3 C_Turn "player" "view" "parts") [])
    (c_law_asked : C8.Cal P w K mg base 2 "_law_asked" sp_asked []) : ∀ m, C8.Cal P w K mg base (m + 2) "_law_turned" (sp_turned C_End C_Lot C_Turn m) []
  | 0 => ok_turned0 D b
  | m + 1 => ok_turned D b T c_End c_Lot c_Turn c_law_asked (by omega) (turned_all D b T c_End c_Lot c_Turn c_law_asked m)
end

def evT (t : Int) : List Ev := [(("round" : Str), [0]), (("told" : Str), [t]), (("move" : Str), [0, 2])]
def jTold (c : Int) : Int := c / 12 % 60000
def jSecond (c : Int) : Int := if c % 3 = 1 then jTold c + 1 + 255 * (c / 6 % 2) else jTold c
def jLater (pl : Nat) (c : Int) : TM := .turn pl (evT (jTold c) ++ [(("did" : Str), [0]), (("move" : Str), [1, 1])]) [.fin]
def jParts (pl : Nat) (c : Int) : List TM := if c % 3 = 2 then [.fin, jLater pl c] else [jLater pl c, .fin]
def jTurns (pl : Nat) (c : Int) : List TM := [.turn pl (evT (jTold c)) [jLater pl c, .fin], .turn pl (evT (jSecond c)) (jParts pl c)]
def joinM (pl : Nat) (c : Int) : TM := .lot (if c / 3 % 2 = 1 then (jTurns pl c).reverse else jTurns pl c)
theorem evT_new {H : Hp} {t1 t2 t3 t4 : Addr} {c : Int} (n1 : H t1 = none) (n2 : upd H t1 (.tup [.str "round", .int 0]) t2 = none) (n3 : upd (upd H t1 (.tup [.str "round", .int 0])) t2 (.tup [.str "told", .int c]) t3 = none)
    (n4 : upd (upd (upd H t1 (.tup [.str "round", .int 0])) t2 (.tup [.str "told", .int c])) t3 (.tup [.str "move", .int 0, .int 2]) t4 = none) :
    TD (upd (upd (upd (upd H t1 (.tup [.str "round", .int 0])) t2 (.tup [.str "told", .int c])) t3 (.tup [.str "move", .int 0, .int 2])) t4 (.tup [.ref t1, .ref t2, .ref t3])) (.ref t4) (dView (evT c)) ∧
    Keep [] H (upd (upd (upd (upd H t1 (.tup [.str "round", .int 0])) t2 (.tup [.str "told", .int c])) t3 (.tup [.str "move", .int 0, .int 2])) t4 (.tup [.ref t1, .ref t2, .ref t3])) := by
  have k1 := Keep.new (W := []) (o := .tup [.str "round", .int 0]) n1
  have k2 := Keep.new (W := []) (o := .tup [.str "told", .int c]) n2
  have k3 := Keep.new (W := []) (o := .tup [.str "move", .int 0, .int 2]) n3
  have k4 := Keep.new (W := []) (o := .tup [.ref t1, .ref t2, .ref t3]) n4
  refine ⟨.tup upd_same (.cons (.tup (((k2.trans k3).trans k4) _ _ upd_same (by simp)) (.cons (.str _) (td_ints [0]))) (.cons (.tup ((k3.trans k4) _ _ upd_same (by simp)) (.cons (.str _) (td_ints [c]))) (.cons (.tup (k4 _ _ upd_same (by simp)) (.cons (.str _) (td_ints [0, 2]))) .nil))), ((k1.trans k2).trans k3).trans k4⟩
theorem evL_new {H : Hp} {t1 t2 t3 : Addr} (n1 : H t1 = none) (n2 : upd H t1 (.tup [.str "did", .int 0]) t2 = none) (n3 : upd (upd H t1 (.tup [.str "did", .int 0])) t2 (.tup [.str "move", .int 1, .int 1]) t3 = none) :
    TDs (upd (upd (upd H t1 (.tup [.str "did", .int 0])) t2 (.tup [.str "move", .int 1, .int 1])) t3 (.tup [.ref t1, .ref t2])) [.ref t1, .ref t2] (([(("did" : Str), [0]), (("move" : Str), [1, 1])] : List Ev).map dEv) ∧
    Keep [] H (upd (upd (upd H t1 (.tup [.str "did", .int 0])) t2 (.tup [.str "move", .int 1, .int 1])) t3 (.tup [.ref t1, .ref t2])) := by
  have k1 := Keep.new (W := []) (o := .tup [.str "did", .int 0]) n1
  have k2 := Keep.new (W := []) (o := .tup [.str "move", .int 1, .int 1]) n2
  have k3 := Keep.new (W := []) (o := .tup [.ref t1, .ref t2]) n3
  exact ⟨.cons (.tup ((k2.trans k3) _ _ upd_same (by simp)) (.cons (.str _) (td_ints [0]))) (.cons (.tup (k3 _ _ upd_same (by simp)) (.cons (.str _) (td_ints [1, 1]))) .nil), (k1.trans k2).trans k3⟩
section
variable {P : Program} {w : World} {K : PySem.W.Frag} {mg : Str → Option Value} {base : Heap} {C_End : Addr} {C_Lot : Addr} {C_Turn : Addr}
def sp_pairs : Sp := fun vs H Q _ => ∃ (a b : Addr) (xs ys : List V) (R : List Row), vs = [.ref a, .ref b] ∧ H a = some (.lst xs) ∧ TDs H xs (R.map dRow) ∧ H b = some (.lst ys) ∧ TDs H ys (R.map dRow) ∧ (∀ r ∈ R, ∀ e ∈ r.1, OkE e) ∧ R.length ≤ 1000000 ∧ ∀ H', Keep [] H H' → Q (.bl true) H'
def sp_is : Sp := fun vs H Q _ => ∃ x : Bool, vs = [.bl x, .bl x] ∧ Q (.bl true) H
def sp_joined (CE CL CT : Addr) : Sp := fun vs H Q _ => ∃ (pl : Nat) (c : Int), vs = [.int pl, .int c] ∧ ∀ v H', TA CE CL CT H' (joinM pl c) v → Keep [] H H' → Q v H'
theorem ok_is {f : Addr} {fd : FuncData} (D : C8.Def K mg "_law_is" s_law_is f fd) (b : Binds K fd ["actual", "due"] []) (T : Txt K mg C_End C_Lot C_Turn) : C8.Cal P w K mg base 1 "_law_is" sp_is [] := by
  refine cal0 D b .nil sc_law_is (fun vs H Q E h => ?_) (fun cdv A outer s H vs Q E hr h => ?_)
  · obtain ⟨x, rfl, _⟩ := h
    rfl
  · obtain ⟨x, rfl, k⟩ := h
    refine ⟨_, (pss_one (ps_ret (pe_and (pe_callB call_isi (by rfl) T.n_isinstance bo_isinstance (pa_cons (pv 0) (pa_cons (pe_bltn (v := .ty "bool") (by rfl) T.n_bool bo_bool rfl) pa_nil))) (pe_one (pe_cmpR op_eq (pv 0) (pv 1) (nomark _)))))), ?_⟩
    have kBB : PySem.W.kitOne K (.type "bool") (.type "bool") = some true := kit_ty (by decide +kernel)
    refine ⟨_, rfl, _, _, _, _, _, rfl, .ty _, .base (.bl x), kBB, _, rfl, iteT ⟨_, rfl, _, rfl, rfl, by simpa using k⟩⟩
theorem ok_pairs {f : Addr} {fd : FuncData} (D : C8.Def K mg "_law_are_pairs" s_law_are_pairs f fd) (b : Binds K fd ["actual", "due"] []) (T : Txt K mg C_End C_Lot C_Turn) (c_law_is_integer : C8.Cal P w K mg base 1 "_law_is_integer" sp_isint []) : C8.Cal P w K mg base 2 "_law_are_pairs" sp_pairs [] := by
  refine cal0 D b .nil sc_law_are_pairs (fun vs H Q E h => ?_) (fun cdv A outer s H vs Q E hr h => ?_)
  · obtain ⟨a, b, xs, ys, R, rfl, _⟩ := h
    rfl
  · obtain ⟨a, b, xs, ys, R, rfl, ha, hxs, hb, hys, hok, hn, k⟩ := h
    refine ⟨_, (pss_cons (ps_if (PW.pt (pw_or (pt_not (pt_val (pe_callB call_isi (by rfl) T.n_isinstance bo_isinstance (pa_cons (pv 0) (pa_cons (pe_bltn (v := .ty "list") (by rfl) T.n_list bo_list rfl) pa_nil))))) (pw_or1 (pt_cmpR op_ne (pe_callB call_len_seq (by rfl) T.n_len bo_len (pa_cons (pv 0) pa_nil)) (pe_callB call_len_seq (by rfl) T.n_len bo_len (pa_cons (pv 1) pa_nil)) (nomark _)))))
  (pss_one (ps_ret pe_bl))
  pss_nil)
(pss_cons (ps_for PassesOwn.never rfl (pi_range1 (by rfl) T.n_range (pa_cons (pe_callB call_len_seq (by rfl) T.n_len bo_len (pa_cons (pv 1) pa_nil)) pa_nil)) (pg_name (i := 2) sc_law_are_pairs.nd rfl (by first | exact Or.inl rfl | exact Or.inr rfl))
  (pss_cons (ps_if (PW.pt (pw_or (pt_not (pt_val (pe_callB call_isi (by rfl) T.n_isinstance bo_isinstance (pa_cons (pe_ix ix_list (pv 0) (pv 2) (fun _ _ => rfl)) (pa_cons (pe_bltn (v := .ty "tuple") (by rfl) T.n_tuple bo_tuple rfl) pa_nil))))) (pw_or (pt_cmpR op_ne (pe_callB call_len_seq (by rfl) T.n_len bo_len (pa_cons (pe_ix ix_list (pv 0) (pv 2) (fun _ _ => rfl)) pa_nil)) pe_int (nomark _)) (pw_or1 (pt_cmpR (op_neD hr.units) (pe_ix ix_list (pv 0) (pv 2) (fun _ _ => rfl)) (pe_ix ix_list (pv 1) (pv 2) (fun _ _ => rfl)) (nomark _))))))
    (pss_one (ps_ret pe_bl))
    pss_nil)
  (pss_one (ps_if (PW.pt (pw_or (pt_not (pt_val (pe_callB call_isi (by rfl) T.n_isinstance bo_isinstance (pa_cons (pe_ix ix_tup (pe_ix ix_list (pv 0) (pv 2) (fun _ _ => rfl)) pe_int (fun _ _ => rfl)) (pa_cons (pe_bltn (v := .ty "tuple") (by rfl) T.n_tuple bo_tuple rfl) pa_nil))))) (pw_or1 (pt_not (pt_val (pe_c c_law_is_integer hr (by first | exact Nat.le_refl _ | decide | omega) rfl (pa_cons (pe_ix ix_tup (pe_ix ix_list (pv 0) (pv 2) (fun _ _ => rfl)) pe_int (fun _ _ => rfl)) pa_nil)))))))
    (pss_one (ps_ret pe_bl))
    pss_nil))))
(pss_one (ps_ret pe_bl)))), ?_⟩
    have hxl := hxs.length
    have hyl := hys.length
    rw [List.length_map] at hxl hyl
    have kLL : PySem.W.kitOne K (.type "list") (.type "list") = some true := kit_ty (by decide +kernel)
    have kTT : PySem.W.kitOne K (.type "tuple") (.type "tuple") = some true := kit_ty (by decide +kernel)
    refine ⟨_, rfl, _, _, _, _, _, rfl, .ty _, .base (.lst ha), kLL, _, rfl, iteF ⟨_, rfl, _, _, rfl, .inl (SqL.of ha), _, rfl, _, _, rfl, .inl (SqL.of hb), rfl, _, rfl, iteNF (by rw [hxl, hyl]) ?_⟩⟩
    refine ⟨_, rfl, _, _, rfl, .inl (SqL.of hb), _, rfl, by omega, by omega, ?_⟩
    rw [hyl]
    refine for_range (lo := 0) (n := R.length) (fun j σ H' => ∃ o3, σ = [some (.ref a), some (.ref b), o3] ∧ Keep [] H H') ⟨none, rfl, Keep.refl _ _⟩ ?_ ?_
    · rintro j σ H1 hj ⟨o3, rfl, k1⟩
      have e0 : (0 : Int) + (j : Int) = (j : Int) := by omega
      rw [e0]
      obtain ⟨x, hx, hdx⟩ := hxs.get (i := j) (d := dRow R[j]) (by rw [List.getElem?_map, List.getElem?_eq_getElem hj]; rfl)
      obtain ⟨y, hy, hdy⟩ := hys.get (i := j) (d := dRow R[j]) (by rw [List.getElem?_map, List.getElem?_eq_getElem hj]; rfl)
      have ha1 := k1 _ _ ha (by simp)
      have hb1 := k1 _ _ hb (by simp)
      have hor := hok R[j] (List.getElem_mem hj)
      have hdx1 := hdx.tk k1.tk
      have hdy1 := hdy.tk k1.tk
      obtain ⟨t, es, rfl, ht, hes⟩ := td_view hdx1
      cases hes with
      | @cons v0 _ _ _ h0 hr =>
        cases hr with
        | cons h1 hr2 =>
          cases hr2
          cases h1
          obtain ⟨t0, es0, rfl, ht0, hes0⟩ := td_view h0
          refine ⟨_, rfl, _, rfl, _, _, _, _, rfl, rfl, SqL.of ha1, atI_nat hx, _, _, _, _, _, rfl, .ty _, .base (.tup ht), kTT, _, rfl, iteF ?_⟩
          refine ⟨_, rfl, _, rfl, _, _, _, _, rfl, rfl, SqL.of ha1, atI_nat hx, _, _, rfl, .inr (SqT.of ht), rfl, _, rfl, iteNF rfl ?_⟩
          refine ⟨_, rfl, _, rfl, _, _, _, _, rfl, rfl, SqL.of ha1, atI_nat hx, _, rfl, _, rfl, _, _, _, _, rfl, rfl, SqL.of hb1, atI_nat hy, _, _, hdx1.dp, hdy1.dp, shaped_row hor, shaped_row hor, _, rfl, ?_⟩
          rw [eqv_row hor]
          refine iteN (fun z => absurd rfl z) (fun _ => ?_)
          refine ⟨_, rfl, _, rfl, _, _, _, _, rfl, rfl, SqL.of ha1, atI_nat hx, _, _, _, _, rfl, rfl, SqT.of ht, rfl, _, _, _, _, _, rfl, .ty _, .base (.tup ht0), kTT, _, rfl, iteF ?_⟩
          exact ⟨_, rfl, _, rfl, _, _, _, _, rfl, rfl, SqL.of ha1, atI_nat hx, _, _, _, _, rfl, rfl, SqT.of ht, rfl, _, rfl, _, rfl, iteF ⟨_, rfl, k1⟩⟩
    · rintro σ H1 ⟨o3, rfl, k1⟩
      exact k _ k1
theorem ok_joined {f : Addr} {fd : FuncData} (D : C8.Def K mg "_law_joined" s_law_joined f fd) (b : Binds K fd ["player", "cell"] []) (T : Txt K mg C_End C_Lot C_Turn) (c_End : C8.Mak P w K mg base 1 "End" C_End (sp_ini1 C_End "paid") []) (c_Lot : C8.Mak P w K mg base 1 "Lot" C_Lot (sp_ini1 C_Lot "parts") []) (c_Turn : C8.Mak P w K mg base 1 "Turn" C_Turn (sp_ini3 C_Turn "player" "view" "parts") []) : C8.Cal P w K mg base 3 "_law_joined" (sp_joined C_End C_Lot C_Turn) [] := by
  refine cal0 D b .nil sc_law_joined (fun vs H Q E h => ?_) (fun cdv A outer s H vs Q E hr h => ?_)
  · obtain ⟨pl, c, rfl, _⟩ := h
    rfl
  · obtain ⟨pl, c, rfl, k⟩ := h
    refine ⟨_, (pss_cons (ps_set (i := 2) sc_law_joined.nd rfl (by first | exact Or.inl rfl | exact Or.inr rfl) (pe_op op_mod (pe_callTy call_int1 (by rfl) T.n_int bo_int (pa_cons (pe_op op_fdiv (pv 1) pe_int) pa_nil)) pe_int))
(pss_cons (ps_set (i := 3) sc_law_joined.nd rfl (by first | exact Or.inl rfl | exact Or.inr rfl) (pe_op op_mod (pe_callTy call_int1 (by rfl) T.n_int bo_int (pa_cons (pv 1) pa_nil)) pe_int))
(pss_cons (ps_set (i := 4) sc_law_joined.nd rfl (by first | exact Or.inl rfl | exact Or.inr rfl) (pe_tup (pa_cons (pe_tup (pa_cons pe_str (pa_cons pe_int pa_nil))) (pa_cons (pe_tup (pa_cons pe_str (pa_cons (pv 2) pa_nil))) (pa_cons (pe_tup (pa_cons pe_str (pa_cons pe_int (pa_cons pe_int pa_nil)))) pa_nil)))))
(pss_cons (ps_set (i := 5) sc_law_joined.nd rfl (by first | exact Or.inl rfl | exact Or.inr rfl) (pv 4))
(pss_cut (ps_if (pt_cmpR op_eq (pv 3) pe_int (nomark _))
  (pss_one (ps_set (i := 5) sc_law_joined.nd rfl (by first | exact Or.inl rfl | exact Or.inr rfl) (pe_tup (pa_cons (pe_tup (pa_cons pe_str (pa_cons pe_int pa_nil))) (pa_cons (pe_tup (pa_cons pe_str (pa_cons (pe_op op_add (pe_op op_add (pv 2) pe_int) (pe_op op_mul pe_int (pe_op op_mod (pe_callTy call_int1 (by rfl) T.n_int bo_int (pa_cons (pe_op op_fdiv (pv 1) pe_int) pa_nil)) pe_int))) pa_nil))) (pa_cons (pe_tup (pa_cons pe_str (pa_cons pe_int (pa_cons pe_int pa_nil)))) pa_nil))))))
  pss_nil)
(pss_cons (ps_set (i := 6) sc_law_joined.nd rfl (by first | exact Or.inl rfl | exact Or.inr rfl) (pe_mk c_Turn hr (by first | exact Nat.le_refl _ | decide | omega) rfl (pa_cons (pv 0) (pa_cons (pe_op op_catA (pv 4) (pe_tup (pa_cons (pe_tup (pa_cons pe_str (pa_cons pe_int pa_nil))) (pa_cons (pe_tup (pa_cons pe_str (pa_cons pe_int (pa_cons pe_int pa_nil)))) pa_nil)))) (pa_cons (pe_tup (pa_cons (pe_mk c_End hr (by first | exact Nat.le_refl _ | decide | omega) rfl (pa_cons pe_int pa_nil)) pa_nil)) pa_nil)))))
(pss_cons (ps_set (i := 7) sc_law_joined.nd rfl (by first | exact Or.inl rfl | exact Or.inr rfl) (pe_lst (pa_cons (pe_tup (pa_cons (pv 6) (pa_cons (pe_mk c_End hr (by first | exact Nat.le_refl _ | decide | omega) rfl (pa_cons pe_int pa_nil)) pa_nil))) (pa_cons (pe_tup (pa_cons (pv 6) (pa_cons (pe_mk c_End hr (by first | exact Nat.le_refl _ | decide | omega) rfl (pa_cons pe_int pa_nil)) pa_nil))) pa_nil))))
(pss_cut (ps_if (pt_cmpR op_eq (pv 3) pe_int (nomark _))
  (pss_one (ps_asg (pe_tup (pa_cons (pe_mk c_End hr (by first | exact Nat.le_refl _ | decide | omega) rfl (pa_cons pe_int pa_nil)) (pa_cons (pv 6) pa_nil))) (pg_sub (pv 7) pe_int set_list)))
  pss_nil)
(pss_cons (ps_set (i := 8) sc_law_joined.nd rfl (by first | exact Or.inl rfl | exact Or.inr rfl) (pe_lst (pa_cons (pe_mk c_Turn hr (by first | exact Nat.le_refl _ | decide | omega) rfl (pa_cons (pv 0) (pa_cons (pv 4) (pa_cons (pe_ix ix_list (pv 7) pe_int (fun _ _ => rfl)) pa_nil)))) (pa_cons (pe_mk c_Turn hr (by first | exact Nat.le_refl _ | decide | omega) rfl (pa_cons (pv 0) (pa_cons (pv 5) (pa_cons (pe_ix ix_list (pv 7) pe_int (fun _ _ => rfl)) pa_nil)))) pa_nil))))
(pss_cut (ps_if (pt_cmpR op_eq (pe_op op_mod (pe_callTy call_int1 (by rfl) T.n_int bo_int (pa_cons (pe_op op_fdiv (pv 1) pe_int) pa_nil)) pe_int) pe_int (nomark _))
  (pss_one (ps_set (i := 8) sc_law_joined.nd rfl (by first | exact Or.inl rfl | exact Or.inr rfl) (pe_revL (pv 8))))
  pss_nil)
(pss_one (ps_ret (pe_mk c_Lot hr (by first | exact Nat.le_refl _ | decide | omega) rfl (pa_cons (pe_callTy call_tuple_of (by rfl) T.n_tuple bo_tuple (pa_cons (pv 8) pa_nil)) pa_nil)))))))))))))), ?_⟩
    refine ⟨_, rfl, _, _, rfl, rfl, ⟨by decide, by decide⟩, .inl ⟨_, rfl, _, _, rfl, rfl, by show (0 : Int) < 60000; decide, ?_⟩⟩
    refine ⟨_, rfl, .inl ⟨_, rfl, _, _, rfl, rfl, by show (0 : Int) < 3; decide, ?_⟩⟩
    refine And.intro (by show 2 ≤ sizeLine; decide) <| fun t1 n1 => ?_
    refine ⟨_, rfl, And.intro (by show 2 ≤ sizeLine; decide) <| fun t2 n2 => And.intro (by show 3 ≤ sizeLine; decide) <| fun t3 n3 => And.intro (by show 3 ≤ sizeLine; decide) <| fun t4 n4 => ?_⟩
    obtain ⟨hf1, kf⟩ := evT_new n1 n2 n3 n4
    generalize upd (upd (upd (upd H t1 (.tup [.str "round", .int 0])) t2 (.tup [.str "told", .int (c / 12 % 60000)])) t3 (.tup [.str "move", .int 0, .int 2])) t4 (.tup [.ref t1, .ref t2, .ref t3]) = H1 at *
    refine ⟨_, rfl, fun σ H' => ∃ b5, σ = [some (.int pl), some (.int c), some (.int (c / 12 % 60000)), some (.int (c % 3)), some (.ref t4), some (.ref b5), none, none, none] ∧ Keep [] H1 H' ∧ TD H' (.ref b5) (dView (evT (jSecond c))), ?_, ?_⟩
    · refine ⟨_, rfl, rfl, _, rfl, iteD (fun e => ?_) (fun e => ?_)⟩
      · have e1 : c % 3 = 1 := V.int.inj e
        refine And.intro (by show 2 ≤ sizeLine; decide) <| fun u1 m1 => ?_
        refine ⟨_, rfl, _, _, rfl, rfl, _, rfl, _, _, rfl, rfl, ⟨by decide, by decide⟩, .inl ⟨_, rfl, _, _, rfl, rfl, by show (0 : Int) < 2; decide, ?_⟩⟩
        refine ⟨_, _, rfl, rfl, .inl ⟨by decide, by decide⟩, _, _, rfl, rfl, And.intro (by show 2 ≤ sizeLine; decide) <| fun u2 m2 => And.intro (by show 3 ≤ sizeLine; decide) <| fun u3 m3 => And.intro (by show 3 ≤ sizeLine; decide) <| fun u4 m4 => ?_⟩
        obtain ⟨hf2, kf2⟩ := evT_new m1 m2 m3 m4
        refine ⟨u4, rfl, kf2, ?_⟩
        unfold jSecond
        rw [if_pos e1]
        exact hf2
      · have e1 : ¬ c % 3 = 1 := fun z => e (by show V.int (c % 3) = _; rw [z])
        refine ⟨t4, rfl, Keep.refl _ _, ?_⟩
        unfold jSecond
        rw [if_neg e1]
        exact hf1
    · rintro σ H2 ⟨b5, rfl, k2, hs2⟩
      have kA := kf.trans k2
      have hf1' := hf1.tk k2.tk
      refine ⟨_, rfl, _, rfl, And.intro (by show 2 ≤ sizeLine; decide) <| fun u1 m1 => And.intro (by show 3 ≤ sizeLine; decide) <| fun u2 m2 => And.intro (by show 2 ≤ sizeLine; decide) <| fun u3 m3 => ?_⟩
      obtain ⟨hL, kL⟩ := evL_new m1 m2 m3
      refine add_evs (M := [(("did" : Str), [0]), (("move" : Str), [1, 1])]) (hf1'.tk kL.tk) upd_same hL (by show 3 + 2 ≤ 100000; decide) fun q3 H3 k3 hq3 => ?_
      have kB := (kA.trans kL).trans k3
      have hf3 := (hf1'.tk kL.tk).tk k3.tk
      have hs3 := (hs2.tk kL.tk).tk k3.tk
      refine fun e1 de1 ne1 nde1 nee1 => ⟨e1, de1, _, rfl, upd_same, rfl, ?_⟩
      rw [upd_upd]
      have kme1 := Keep.made (o := .ins C_End de1 [("paid", .int 0)]) ne1 nde1
      have he1 : upd (upd H3 de1 (.own e1)) e1 (.ins C_End de1 [("paid", .int 0)]) e1 = some (.ins C_End de1 [("paid", .int 0)]) := upd_same
      generalize upd (upd H3 de1 (.own e1)) e1 (.ins C_End de1 [("paid", .int 0)]) = H4 at *
      refine And.intro (by show 1 ≤ sizeLine; decide) <| fun p1 np1 => ?_
      have kp1 := Keep.new (W := []) (o := .tup [.ref e1]) np1
      have hp1 : upd H4 p1 (.tup [.ref e1]) p1 = some (.tup [.ref e1]) := upd_same
      generalize upd H4 p1 (.tup [.ref e1]) = H5 at *
      refine fun x1 dx1 nx1 ndx1 nex1 => ⟨x1, dx1, _, _, _, rfl, upd_same, rfl, ?_⟩
      rw [upd_upd]
      have kmx1 := Keep.made (o := .ins C_Turn dx1 [("player", .int (pl : Nat)), ("view", .ref q3), ("parts", .ref p1)]) nx1 ndx1
      have hx1 : upd (upd H5 dx1 (.own x1)) x1 (.ins C_Turn dx1 [("player", .int (pl : Nat)), ("view", .ref q3), ("parts", .ref p1)]) x1 = some (.ins C_Turn dx1 [("player", .int (pl : Nat)), ("view", .ref q3), ("parts", .ref p1)]) := upd_same
      generalize upd (upd H5 dx1 (.own x1)) x1 (.ins C_Turn dx1 [("player", .int (pl : Nat)), ("view", .ref q3), ("parts", .ref p1)]) = H6 at *
      have hx1T : TA C_End C_Lot C_Turn H6 (jLater pl c) (.ref x1) := ⟨x1, dx1, .ref q3, p1, _, rfl, hx1, hq3.tk ((kme1.trans kp1).trans kmx1).tk, kmx1 _ _ hp1 (by simp), _, _, rfl, ⟨e1, de1, _, rfl, (kp1.trans kmx1) _ _ he1 (by simp)⟩, rfl⟩
      have kC := ((kB.trans kme1).trans kp1).trans kmx1
      have hf6 := hf3.tk ((kme1.trans kp1).trans kmx1).tk
      have hs6 := hs3.tk ((kme1.trans kp1).trans kmx1).tk
      clear hf3 hs3 hq3 hp1 he1 hx1 kme1 kp1 kmx1
      refine ⟨_, rfl, ?_⟩
      refine fun e2 de2 ne2 nde2 nee2 => ⟨e2, de2, _, rfl, upd_same, rfl, ?_⟩
      rw [upd_upd]
      have kme2 := Keep.made (o := .ins C_End de2 [("paid", .int 0)]) ne2 nde2
      have he2 : upd (upd H6 de2 (.own e2)) e2 (.ins C_End de2 [("paid", .int 0)]) e2 = some (.ins C_End de2 [("paid", .int 0)]) := upd_same
      generalize upd (upd H6 de2 (.own e2)) e2 (.ins C_End de2 [("paid", .int 0)]) = H7 at *
      refine And.intro (by show 2 ≤ sizeLine; decide) <| fun p2 np2 => ?_
      have kp2 := Keep.new (W := []) (o := .tup [.ref x1, .ref e2]) np2
      have hp2 : upd H7 p2 (.tup [.ref x1, .ref e2]) p2 = some (.tup [.ref x1, .ref e2]) := upd_same
      generalize upd H7 p2 (.tup [.ref x1, .ref e2]) = H8 at *
      refine ⟨_, rfl, ?_⟩
      refine fun e3 de3 ne3 nde3 nee3 => ⟨e3, de3, _, rfl, upd_same, rfl, ?_⟩
      rw [upd_upd]
      have kme3 := Keep.made (o := .ins C_End de3 [("paid", .int 0)]) ne3 nde3
      have he3 : upd (upd H8 de3 (.own e3)) e3 (.ins C_End de3 [("paid", .int 0)]) e3 = some (.ins C_End de3 [("paid", .int 0)]) := upd_same
      generalize upd (upd H8 de3 (.own e3)) e3 (.ins C_End de3 [("paid", .int 0)]) = H9 at *
      refine And.intro (by show 2 ≤ sizeLine; decide) <| fun p3 np3 => ?_
      have kp3 := Keep.new (W := []) (o := .tup [.ref x1, .ref e3]) np3
      have hp3 : upd H9 p3 (.tup [.ref x1, .ref e3]) p3 = some (.tup [.ref x1, .ref e3]) := upd_same
      generalize upd H9 p3 (.tup [.ref x1, .ref e3]) = H10 at *
      refine And.intro (by show 2 ≤ sizeLine; decide) <| fun l1 nl1 => ?_
      have kl1 := Keep.new (W := []) (o := .lst [.ref p2, .ref p3]) nl1
      have hl1 : upd H10 l1 (.lst [.ref p2, .ref p3]) l1 = some (.lst [.ref p2, .ref p3]) := upd_same
      generalize upd H10 l1 (.lst [.ref p2, .ref p3]) = H11 at *
      have k67 := kme2.trans kp2
      have k89 := (kme3.trans kp3).trans kl1
      have k6T := k67.trans k89
      have hA2 : TAs C_End C_Lot C_Turn H11 [jLater pl c, .fin] [.ref x1, .ref e2] := ⟨_, _, rfl, hx1T.ki (KI.of k6T), _, _, rfl, ⟨e2, de2, _, rfl, (kp2.trans k89) _ _ he2 (by simp)⟩, rfl⟩
      have hA3 : TAs C_End C_Lot C_Turn H11 [jLater pl c, .fin] [.ref x1, .ref e3] := ⟨_, _, rfl, hx1T.ki (KI.of k6T), _, _, rfl, ⟨e3, de3, _, rfl, (kp3.trans kl1) _ _ he3 (by simp)⟩, rfl⟩
      have hp2' := k89 _ _ hp2 (by simp)
      have hp3' := kl1 _ _ hp3 (by simp)
      have kD := kC.trans k6T
      have hf11 := hf6.tk k6T.tk
      have hs11 := hs6.tk k6T.tk
      have hx11 := hx1T.ki (KI.of k6T)
      have nl1 : H l1 = none := (kC.trans (k67.trans (kme3.trans kp3))).free nl1
      refine ⟨fun σ H' => ∃ qb ysb, σ = [some (.int pl), some (.int c), some (.int (c / 12 % 60000)), some (.int (c % 3)), some (.ref t4), some (.ref b5), some (.ref x1), some (.ref l1), none] ∧ H' l1 = some (.lst [.ref p2, .ref qb]) ∧ H' qb = some (.tup ysb) ∧ TAs C_End C_Lot C_Turn H' (jParts pl c) ysb ∧ Keep [l1] H11 H', ?_, ?_⟩
      · refine ⟨_, rfl, rfl, _, rfl, iteD (fun e => ?_) (fun e => ?_)⟩
        · have e1' : c % 3 = 2 := V.int.inj e
          refine fun e4 de4 ne4 nde4 nee4 => ⟨e4, de4, _, rfl, upd_same, rfl, ?_⟩
          rw [upd_upd]
          have kme4 := Keep.made (o := .ins C_End de4 [("paid", .int 0)]) ne4 nde4
          have he4 : upd (upd H11 de4 (.own e4)) e4 (.ins C_End de4 [("paid", .int 0)]) e4 = some (.ins C_End de4 [("paid", .int 0)]) := upd_same
          generalize upd (upd H11 de4 (.own e4)) e4 (.ins C_End de4 [("paid", .int 0)]) = H12 at *
          refine ⟨_, rfl, ?_⟩
          refine And.intro (by show 2 ≤ sizeLine; decide) <| fun p4 np4 => ?_
          have kp4 := Keep.new (W := []) (o := .tup [.ref e4, .ref x1]) np4
          have hp4 : upd H12 p4 (.tup [.ref e4, .ref x1]) p4 = some (.tup [.ref e4, .ref x1]) := upd_same
          generalize upd H12 p4 (.tup [.ref e4, .ref x1]) = H13 at *
          have k13 := kme4.trans kp4
          have hl13 := k13 _ _ hl1 (by simp)
          have np4l : p4 ≠ l1 := (ne_of_none (kme4 _ _ hl1 (by simp)) np4).symm
          refine ⟨_, rfl, l1, [.ref p2, .ref p3], 1, 1, rfl, rfl, hl13, rfl, p4, _, rfl, upd_same, (by rw [upd_ne np4l]; exact hp4), ?_, (k13.mono (by simp)).then_at (by simp)⟩
          unfold jParts
          rw [if_pos e1']
          refine TAs.ki (KI.lst hl13) _ ⟨_, _, rfl, ⟨e4, de4, _, rfl, kp4 _ _ he4 (by simp)⟩, _, _, rfl, hx11.ki (KI.of k13), rfl⟩
        · have e1' : ¬ c % 3 = 2 := fun z => e (by show V.int (c % 3) = _; rw [z])
          refine ⟨p3, _, rfl, hl1, hp3', ?_, Keep.refl _ _⟩
          unfold jParts
          rw [if_neg e1']
          exact hA3
      · rintro σ H12 ⟨qb, ysb, rfl, hl12, hqb, hyb, k12⟩
        have ki12 := KI.at_ hl1 k12 (fun _ z => nomatch z) (fun _ _ _ z => nomatch z)
        have kE : Keep [] H H12 := fun b o h _ => k12 _ _ (kD _ _ h (by simp)) (by have := ne_of_none h nl1; simpa using this)
        have hf12 := hf11.tk ki12.tk
        have hs12 := hs11.tk ki12.tk
        have hp212 := ki12.1 _ _ hp2'
        have hA12 := hA2.ki ki12
        refine ⟨_, rfl, _, rfl, _, rfl, _, _, _, _, rfl, rfl, SqL.of hl12, rfl, ?_⟩
        refine fun y1 dy1 ny1 ndy1 ney1 => ⟨y1, dy1, _, _, _, rfl, upd_same, rfl, ?_⟩
        rw [upd_upd]
        have kmy1 := Keep.made (o := .ins C_Turn dy1 [("player", .int (pl : Nat)), ("view", .ref t4), ("parts", .ref p2)]) ny1 ndy1
        have hy1 : upd (upd H12 dy1 (.own y1)) y1 (.ins C_Turn dy1 [("player", .int (pl : Nat)), ("view", .ref t4), ("parts", .ref p2)]) y1 = some (.ins C_Turn dy1 [("player", .int (pl : Nat)), ("view", .ref t4), ("parts", .ref p2)]) := upd_same
        generalize upd (upd H12 dy1 (.own y1)) y1 (.ins C_Turn dy1 [("player", .int (pl : Nat)), ("view", .ref t4), ("parts", .ref p2)]) = H13 at *
        refine ⟨_, rfl, _, rfl, _, rfl, _, _, _, _, rfl, rfl, SqL.of (kmy1 _ _ hl12 (by simp)), rfl, ?_⟩
        refine fun y2 dy2 ny2 ndy2 ney2 => ⟨y2, dy2, _, _, _, rfl, upd_same, rfl, ?_⟩
        rw [upd_upd]
        have kmy2 := Keep.made (o := .ins C_Turn dy2 [("player", .int (pl : Nat)), ("view", .ref b5), ("parts", .ref qb)]) ny2 ndy2
        have hy2 : upd (upd H13 dy2 (.own y2)) y2 (.ins C_Turn dy2 [("player", .int (pl : Nat)), ("view", .ref b5), ("parts", .ref qb)]) y2 = some (.ins C_Turn dy2 [("player", .int (pl : Nat)), ("view", .ref b5), ("parts", .ref qb)]) := upd_same
        generalize upd (upd H13 dy2 (.own y2)) y2 (.ins C_Turn dy2 [("player", .int (pl : Nat)), ("view", .ref b5), ("parts", .ref qb)]) = H14 at *
        refine And.intro (by show 2 ≤ sizeLine; decide) <| fun l2 nl2 => ?_
        have kl2 := Keep.new (W := []) (o := .lst [.ref y1, .ref y2]) nl2
        have hl2 : upd H14 l2 (.lst [.ref y1, .ref y2]) l2 = some (.lst [.ref y1, .ref y2]) := upd_same
        generalize upd H14 l2 (.lst [.ref y1, .ref y2]) = H15 at *
        have k1215 := (kmy1.trans kmy2).trans kl2
        have hT : TAs C_End C_Lot C_Turn H15 (jTurns pl c) [.ref y1, .ref y2] := ⟨_, _, rfl, ⟨y1, dy1, _, p2, _, rfl, (kmy2.trans kl2) _ _ hy1 (by simp), hf12.tk k1215.tk, k1215 _ _ hp212 (by simp), hA12.ki (KI.of k1215)⟩, _, _, rfl, ⟨y2, dy2, _, qb, _, rfl, kl2 _ _ hy2 (by simp), hs12.tk k1215.tk, k1215 _ _ hqb (by simp), hyb.ki (KI.of k1215)⟩, rfl⟩
        have kF := kE.trans k1215
        refine ⟨fun σ H' => ∃ l3 xs, σ = [some (.int pl), some (.int c), some (.int (c / 12 % 60000)), some (.int (c % 3)), some (.ref t4), some (.ref b5), some (.ref x1), some (.ref l1), some (.ref l3)] ∧ H' l3 = some (.lst xs) ∧ TAs C_End C_Lot C_Turn H' (if c / 3 % 2 = 1 then (jTurns pl c).reverse else jTurns pl c) xs ∧ Keep [] H15 H', ?_, ?_⟩
        · refine ⟨_, rfl, _, _, rfl, rfl, ⟨by decide, by decide⟩, .inl ⟨_, rfl, _, _, rfl, rfl, by show (0 : Int) < 2; decide, rfl, _, rfl, iteD (fun e => ?_) (fun e => ?_)⟩⟩
          · have e2' : c / 3 % 2 = 1 := V.int.inj e
            refine ⟨_, rfl, l2, _, rfl, SqL.of hl2, fun q nq => ?_⟩
            have kq := Keep.new (W := []) (o := .lst ([.ref y1, .ref y2] : List V).reverse) nq
            refine ⟨q, _, rfl, upd_same, ?_, kq⟩
            rw [if_pos e2']
            exact (TAs.ki (KI.of kq) _ hT).rev
          · have e2' : ¬ c / 3 % 2 = 1 := fun z => e (by show V.int (c / 3 % 2) = _; rw [z])
            refine ⟨l2, _, rfl, hl2, ?_, Keep.refl _ _⟩
            rw [if_neg e2']
            exact hT
        · rintro σ H16 ⟨l3, xs, rfl, hl3, hxs, k16⟩
          refine ⟨_, rfl, l3, xs, rfl, .inl ⟨SqL.of hl3, fun q nq => fun x dx nx ndx ne => ⟨x, dx, _, rfl, upd_same, rfl, ?_⟩⟩⟩
          have kq := Keep.new (W := []) (o := .tup xs) nq
          have km := Keep.made (o := .ins C_Lot dx [("parts", .ref q)]) nx ndx
          rw [upd_upd]
          exact k _ _ ⟨x, dx, q, xs, rfl, upd_same, km _ _ upd_same (by simp), TAs.ki (KI.of (kq.trans km)) _ hxs⟩ (((kF.trans k16).trans kq).trans km)
end

/-! plain law: the tree's views are the ones met on the paths -/
def lq (S : List Stg) : Nat → List Nat → List (List Nat)
  | 0, p => [p]
  | n + 1, p => (List.range (stg S p.length).sz).flatMap fun k => lq S n (p ++ [k])
theorem drop_stg {S : List Stg} {j : Nat} (h : j < S.length) : S.drop j = stg S j :: S.drop (j + 1) := by
  rw [List.drop_eq_getElem_cons h]
  congr 1
  unfold stg
  rw [List.getD_eq_getElem?_getD, List.getElem?_eq_getElem h]; rfl
theorem flat_congr {α β : Type} {f g : α → List β} : ∀ {L : List α}, (∀ a ∈ L, f a = g a) → L.flatMap f = L.flatMap g
  | [], _ => rfl
  | a :: L, h => by
    rw [List.flatMap_cons, List.flatMap_cons, h a (List.mem_cons_self ..), flat_congr fun b hb => h b (List.mem_cons_of_mem _ hb)]
theorem paths_lq (S : List Stg) : ∀ (n j : Nat) (ps : List (List Nat)), j + n = S.length → (∀ p ∈ ps, p.length = j) → paths (S.drop j) ps = ps.flatMap (lq S n)
  | 0, j, ps, h, _ => by
    rw [List.drop_eq_nil_of_le (by omega)]
    show ps = ps.flatMap fun p => [p]
    simp
  | n + 1, j, ps, h, hp => by
    rw [drop_stg (by omega)]
    show paths (S.drop (j + 1)) (ps.flatMap (ext1 (stg S j).sz)) = _
    rw [paths_lq S n (j + 1) _ (by omega) (fun q hq => by
      obtain ⟨p, h1, h2⟩ := List.mem_flatMap.mp hq
      obtain ⟨k, _, rfl⟩ := List.mem_map.mp h2
      rw [List.length_append, hp p h1]; rfl)]
    rw [List.flatMap_assoc]
    refine flat_congr fun p h1 => ?_
    show (ext1 (stg S j).sz p).flatMap (lq S n) = (List.range (stg S p.length).sz).flatMap fun k => lq S n (p ++ [k])
    rw [hp p h1]
    unfold ext1
    rw [List.flatMap_map]
theorem paths_all (S : List Stg) : paths S [[]] = lq S S.length [] := by
  have := paths_lq S S.length 0 [[]] (by omega) (fun p h => by rw [List.mem_singleton.mp h]; rfl)
  rw [List.drop_zero] at this
  rw [this]; simp
theorem lq_ne {S : List Stg} (h : ∀ k, 1 ≤ (stg S k).sz) : ∀ (n : Nat) (p : List Nat), lq S n p ≠ []
  | 0, p, e => by cases e
  | n + 1, p, e => by
    have h0 : (0 : Nat) ∈ List.range (stg S p.length).sz := List.mem_range.mpr (h _)
    have h1 := List.flatMap_eq_nil_iff.mp e 0 h0
    exact lq_ne h n _ h1
theorem lq_ext {S : List Stg} : ∀ (n : Nat) (p q : List Nat), q ∈ lq S n p → q.take p.length = p
  | 0, p, q, h => by rw [List.mem_singleton.mp h, List.take_length]
  | n + 1, p, q, h => by
    obtain ⟨k, _, hk⟩ := List.mem_flatMap.mp h
    have e := lq_ext n (p ++ [k]) q hk
    have : (q.take (p ++ [k]).length).take p.length = (p ++ [k]).take p.length := by rw [e]
    rw [List.take_take, List.take_left] at this
    rw [show min p.length (p ++ [k]).length = p.length by rw [List.length_append]; simp] at this
    exact this
def stepM (S : List Stg) (pl : Nat) (q : List Nat) (j : Nat) (f : List Row) : List Row := if (stg S j).pl = pl then insR f (asked S q j, ((stg S j).sz : Int)) else f
def met2 (S : List Stg) (pl : Nat) (q : List Nat) : Nat → Nat → List Row → List Row
  | _, 0, f => f
  | j, n + 1, f => met2 S pl q (j + 1) n (stepM S pl q j f)
theorem met2_snoc (S : List Stg) (pl : Nat) (q : List Nat) : ∀ (n j : Nat) (f : List Row), met2 S pl q j (n + 1) f = stepM S pl q (j + n) (met2 S pl q j n f)
  | 0, j, f => rfl
  | n + 1, j, f => by
    show met2 S pl q (j + 1) (n + 1) (stepM S pl q j f) = stepM S pl q (j + (n + 1)) (met2 S pl q (j + 1) n (stepM S pl q j f))
    rw [met2_snoc S pl q n (j + 1), show j + 1 + n = j + (n + 1) by omega]
theorem metK_two (S : List Stg) (pl : Nat) (q : List Nat) : ∀ (n : Nat) (f : List Row), metK S pl q n f = met2 S pl q 0 n f
  | 0, f => rfl
  | n + 1, f => by
    rw [met2_snoc, ← metK_two S pl q n f, Nat.zero_add]; rfl
/-- f holds rows whose view ends with the move of that many choices -/
def InvR (f : List Row) : Prop := ∀ x ∈ f, ∃ (v : List Ev) (m : Int), x.1 = v ++ [(("move" : Str), [m, x.2])]
theorem asked_row (S : List Stg) (q : List Nat) (j : Nat) : ∃ (v : List Ev) (m : Int), (asked S q j, ((stg S j).sz : Int)).1 = v ++ [(("move" : Str), [m, (asked S q j, ((stg S j).sz : Int)).2])] := ⟨_, _, rfl⟩
theorem insR_sub (f : List Row) (r : Row) : ∀ x ∈ f, x ∈ insR f r := fun x h => by
  unfold insR
  split
  · exact h
  · exact List.mem_append_left _ h
theorem insR_mem (f : List Row) (r : Row) : r ∈ insR f r := by
  unfold insR
  split
  · assumption
  · simp
theorem insR_inv {f : List Row} {r : Row} (h : InvR f) (g : ∃ (v : List Ev) (m : Int), r.1 = v ++ [(("move" : Str), [m, r.2])]) : InvR (insR f r) := fun x hx => by
  unfold insR at hx
  split at hx
  · exact h x hx
  · rcases List.mem_append.mp hx with z | z
    · exact h x z
    · rw [List.mem_singleton.mp z]; exact g
theorem insR_in {f : List Row} {r : Row} (h : r ∈ f) : insR f r = f := by unfold insR; rw [if_pos h]
theorem insV_insR {f : List Row} {r : Row} (h : InvR f) (g : ∃ (v : List Ev) (m : Int), r.1 = v ++ [(("move" : Str), [m, r.2])]) : insV f r = insR f r := by
  unfold insV insR
  by_cases hr : r ∈ f
  · rw [if_pos hr, if_pos (List.any_eq_true.mpr ⟨r, hr, by simp⟩)]
  · rw [if_neg hr, if_neg]
    intro z
    obtain ⟨x, hx, e⟩ := List.any_eq_true.mp z
    have e1 : x.1 = r.1 := of_decide_eq_true e
    obtain ⟨v, m, hv⟩ := h x hx
    obtain ⟨v', m', hv'⟩ := g
    rw [hv, hv'] at e1
    have e2 := (List.append_inj' e1 rfl).2
    have e3 : x.2 = r.2 := by
      have := (List.cons.inj e2).1
      have := (Prod.mk.inj this).2
      have := (List.cons.inj (List.cons.inj this).2).1
      exact this
    have e4 : x = r := Prod.ext (by rw [hv, hv', e1]) e3
    exact hr (by rw [← e4]; exact hx)
theorem stepM_sub (S : List Stg) (pl : Nat) (q : List Nat) (j : Nat) (f : List Row) : ∀ x ∈ f, x ∈ stepM S pl q j f := fun x h => by
  unfold stepM
  split
  · exact insR_sub _ _ x h
  · exact h
theorem met2_sub (S : List Stg) (pl : Nat) (q : List Nat) : ∀ (n j : Nat) (f : List Row), ∀ x ∈ f, x ∈ met2 S pl q j n f
  | 0, _, _, x, h => h
  | n + 1, j, f, x, h => met2_sub S pl q n (j + 1) _ x (stepM_sub S pl q j f x h)
theorem stepM_inv {S : List Stg} {pl : Nat} {q : List Nat} {j : Nat} {f : List Row} (h : InvR f) : InvR (stepM S pl q j f) := by
  unfold stepM
  split
  · exact insR_inv h (asked_row S q j)
  · exact h
theorem met2_inv {S : List Stg} {pl : Nat} {q : List Nat} : ∀ (n j : Nat) {f : List Row}, InvR f → InvR (met2 S pl q j n f)
  | 0, _, _, h => h
  | n + 1, j, f, h => met2_inv n (j + 1) (stepM_inv h)
theorem fold_inv {α : Type} {g : List Row → α → List Row} (hg : ∀ f a, InvR f → InvR (g f a)) : ∀ (L : List α) (f : List Row), InvR f → InvR (L.foldl g f)
  | [], _, h => h
  | a :: L, f, h => fold_inv hg L _ (hg f a h)
theorem fold_sub {α : Type} {g : List Row → α → List Row} (hg : ∀ f a, ∀ x ∈ f, x ∈ g f a) : ∀ (L : List α) (f : List Row), ∀ x ∈ f, x ∈ L.foldl g f
  | [], _, x, h => h
  | a :: L, f, x, h => fold_sub hg L _ x (hg f a x h)
theorem fold_same {α : Type} {g : List Row → α → List Row} {r : Row} (hg : ∀ f a, ∀ x ∈ f, x ∈ g f a) : ∀ (L : List α) (f : List Row), r ∈ f → L.foldl (fun f a => g (insR f r) a) f = L.foldl g f
  | [], _, _ => rfl
  | a :: L, f, h => by
    show L.foldl _ (g (insR f r) a) = L.foldl g (g f a)
    rw [insR_in h]
    exact fold_same hg L _ (hg f a r h)
theorem fold_once {α : Type} {g : List Row → α → List Row} {r : Row} (hg : ∀ f a, ∀ x ∈ f, x ∈ g f a) {L : List α} (hL : L ≠ []) (f : List Row) : L.foldl (fun f a => g (insR f r) a) f = L.foldl g (insR f r) := by
  cases L with
  | nil => exact absurd rfl hL
  | cons a L =>
    show L.foldl _ (g (insR f r) a) = L.foldl g (g (insR f r) a)
    exact fold_same hg L _ (hg _ a r (insR_mem f r))
theorem fold_congr {α β : Type} {g h : β → α → β} : ∀ (L : List α) (f : β), (∀ a ∈ L, ∀ f, g f a = h f a) → L.foldl g f = L.foldl h f
  | [], _, _ => rfl
  | a :: L, f, e => by
    show L.foldl g (g f a) = L.foldl h (h f a)
    rw [e a (List.mem_cons_self ..)]
    exact fold_congr L _ fun b hb => e b (List.mem_cons_of_mem _ hb)
theorem coll_met {S : List Stg} (hs : ∀ k, 1 ≤ (stg S k).sz) (pl : Nat) (h1 : pl ≠ 0) : ∀ (n : Nat) (p : List Nat) (f : List Row), InvR f → coll pl (treeM S none n p) f = (lq S n p).foldl (fun f q => met2 S pl q p.length n f) f
  | 0, p, f, _ => rfl
  | n + 1, p, f, hf => by
    have kids : ∀ (L : List Nat) (f : List Row), InvR f → colls pl (L.map fun k => treeM S none n (p ++ [k])) f = (L.flatMap fun k => lq S n (p ++ [k])).foldl (fun f q => met2 S pl q (p.length + 1) n f) f := by
      intro L
      induction L with
      | nil => intro f _; rfl
      | cons k L ih =>
        intro f hf
        show colls pl (L.map fun k => treeM S none n (p ++ [k])) (coll pl (treeM S none n (p ++ [k])) f) = _
        rw [List.flatMap_cons, List.foldl_append, coll_met hs pl h1 n (p ++ [k]) f hf]
        have e : (p ++ [k]).length = p.length + 1 := by simp
        rw [e]
        exact ih _ (fold_inv (fun f q h => met2_inv n _ h) _ _ hf)
    have hlen : ((List.range (stg S p.length).sz).map fun k => treeM S none n (p ++ [k])).length = (stg S p.length).sz := by rw [List.length_map, List.length_range]
    have rhs : (lq S (n + 1) p).foldl (fun f q => met2 S pl q p.length (n + 1) f) f = (lq S (n + 1) p).foldl (fun f q => met2 S pl q (p.length + 1) n f) (if (stg S p.length).pl = pl then insR f (asked S p p.length, ((stg S p.length).sz : Int)) else f) := by
      have e1 : (lq S (n + 1) p).foldl (fun f q => met2 S pl q p.length (n + 1) f) f = (lq S (n + 1) p).foldl (fun f q => met2 S pl q (p.length + 1) n (if (stg S p.length).pl = pl then insR f (asked S p p.length, ((stg S p.length).sz : Int)) else f)) f := by
        refine fold_congr _ _ fun q hq f => ?_
        show met2 S pl q (p.length + 1) n (stepM S pl q p.length f) = _
        unfold stepM
        rw [show asked S q p.length = asked S p p.length by rw [← asked_take S q, lq_ext _ _ _ hq]]
      rw [e1]
      by_cases hp : (stg S p.length).pl = pl
      · simp only [if_pos hp]
        exact fold_once (g := fun f q => met2 S pl q (p.length + 1) n f) (fun f q x h => met2_sub S pl q n _ f x h) (lq_ne hs _ _) f
      · simp only [if_neg hp]
    rw [rhs]
    show coll pl (if (stg S p.length).pl = 0 then .lot ((List.range (stg S p.length).sz).map fun k => treeM S none n (p ++ [k])) else .turn (stg S p.length).pl (asked S p p.length) ((List.range (stg S p.length).sz).map fun k => treeM S none n (p ++ [k]))) f = _
    by_cases h0 : (stg S p.length).pl = 0
    · rw [if_pos h0, if_neg (by rw [h0]; exact fun z => h1 z.symm)]
      exact kids _ f hf
    · rw [if_neg h0]
      show colls pl _ (if (stg S p.length).pl = pl then insV f (asked S p p.length, (((List.range (stg S p.length).sz).map fun k => treeM S none n (p ++ [k])).length : Int)) else f) = _
      rw [hlen, insV_insR hf (asked_row S p p.length)]
      refine kids _ _ ?_
      split
      · exact insR_inv hf (asked_row S p p.length)
      · exact hf
theorem tree_met {S : List Stg} (hs : ∀ k, 1 ≤ (stg S k).sz) {pl : Nat} (h1 : pl ≠ 0) : coll pl (treeM S none S.length []) [] = met S pl := by
  rw [coll_met hs pl h1 _ _ _ (fun x h => by cases h)]
  unfold met
  rw [paths_all]
  exact fold_congr _ _ fun q _ f => (metK_two S pl q S.length f).symm
theorem met_sz (S : List Stg) (pl : Nat) : ∀ r ∈ met S pl, ∃ j, r.2 = ((stg S j).sz : Int) := by
  have step : ∀ q j f, (∀ r ∈ f, ∃ j, r.2 = ((stg S j).sz : Int)) → ∀ r ∈ metK S pl q j f, ∃ j, r.2 = ((stg S j).sz : Int) := by
    intro q j
    induction j with
    | zero => intro f h; exact h
    | succ j ih =>
      intro f h
      unfold metK insR
      split
      · split
        · exact ih f h
        · intro r hr
          rcases List.mem_append.mp hr with z | z
          · exact ih f h r z
          · rw [List.mem_singleton.mp z]; exact ⟨j, rfl⟩
      · exact ih f h
  have all : ∀ (L : List (List Nat)) (f : List Row), (∀ r ∈ f, ∃ j, r.2 = ((stg S j).sz : Int)) → ∀ r ∈ L.foldl (fun f p => metK S pl p S.length f) f, ∃ j, r.2 = ((stg S j).sz : Int) := by
    intro L
    induction L with
    | nil => intro f h; exact h
    | cons a L ih => intro f h; exact ih _ (step a _ f h)
  exact all _ [] (fun r h => by cases h)
theorem met_ok (S : List Stg) (pl : Nat) : ∀ r ∈ met S pl, ∀ e ∈ r.1, OkE e := by
  have all : ∀ (L : List (List Nat)) (f : List Row), (∀ r ∈ f, ∀ e ∈ r.1, OkE e) → ∀ r ∈ L.foldl (fun f p => metK S pl p S.length f) f, ∀ e ∈ r.1, OkE e := by
    intro L
    induction L with
    | nil => intro f h; exact h
    | cons a L ih => intro f h; exact ih _ (metK_ok S pl a _ f h)
  exact all _ [] (fun r h => by cases h)
theorem met_len (S : List Stg) (pl : Nat) : (met S pl).length ≤ prodS S * S.length := by
  have all : ∀ (L : List (List Nat)) (f : List Row), (L.foldl (fun f p => metK S pl p S.length f) f).length ≤ f.length + L.length * S.length := by
    intro L
    induction L with
    | nil => intro f; show f.length ≤ f.length + 0 * _; omega
    | cons a L ih =>
      intro f
      have h1 := ih (metK S pl a S.length f)
      have h2 := metK_len S pl a S.length f
      show (L.foldl _ (metK S pl a S.length f)).length ≤ f.length + (L.length + 1) * S.length
      rw [Nat.add_mul]
      omega
  have := all (paths S [[]]) []
  rw [paths_len] at this
  unfold met
  simpa using this
/-- a stage of the player is met -/
theorem met_some {S : List Stg} (hs : ∀ k, 1 ≤ (stg S k).sz) {pl j : Nat} (hj : j < S.length) (hp : (stg S j).pl = pl) : met S pl ≠ [] := by
  have one : ∀ q f k, j < k → metK S pl q k f ≠ [] := by
    intro q f k
    induction k with
    | zero => intro h; omega
    | succ k ih =>
      intro h
      by_cases e : j = k
      · subst e
        show (if (stg S j).pl = pl then insR (metK S pl q j f) (asked S q j, ((stg S j).sz : Int)) else metK S pl q j f) ≠ []
        rw [if_pos hp]
        intro z
        have := insR_mem (metK S pl q j f) (asked S q j, ((stg S j).sz : Int))
        rw [z] at this; cases this
      · have h2 := ih (by omega)
        show (if (stg S k).pl = pl then insR (metK S pl q k f) (asked S q k, ((stg S k).sz : Int)) else metK S pl q k f) ≠ []
        split
        · intro z
          cases hm : metK S pl q k f with
          | nil => exact h2 hm
          | cons x r =>
            have := insR_sub (metK S pl q k f) (asked S q k, ((stg S k).sz : Int)) x (by rw [hm]; simp)
            rw [z] at this; cases this
        · exact h2
  intro z
  unfold met at z
  rw [paths_all] at z
  cases hL : lq S S.length [] with
  | nil => exact lq_ne hs _ _ hL
  | cons q L =>
    rw [hL] at z
    have h1 := one q [] S.length hj
    cases hm : metK S pl q S.length [] with
    | nil => exact h1 hm
    | cons x r =>
      have : x ∈ L.foldl (fun f p => metK S pl p S.length f) (metK S pl q S.length []) := fold_sub (fun f a x h => by rw [metK_two]; exact met2_sub S pl a _ _ f x h) L _ x (by rw [hm]; simp)
      have z2 : L.foldl (fun f p => metK S pl p S.length f) (metK S pl q S.length []) = [] := z
      rw [z2] at this; cases this
theorem met_none {S : List Stg} {pl : Nat} (h : ∀ j, j < S.length → (stg S j).pl ≠ pl) : met S pl = [] := by
  have one : ∀ q f k, k ≤ S.length → metK S pl q k f = f := by
    intro q f k
    induction k with
    | zero => intro _; rfl
    | succ k ih =>
      intro hk
      show (if (stg S k).pl = pl then _ else metK S pl q k f) = f
      rw [if_neg (h k (by omega)), ih (by omega)]
  unfold met
  rw [fold_congr (h := fun f _ => f) _ _ (fun q _ f => one q f S.length (Nat.le_refl _))]
  have : ∀ (L : List (List Nat)) (f : List Row), L.foldl (fun f _ => f) f = f := by
    intro L
    induction L with
    | nil => intro f; rfl
    | cons a L ih => intro f; exact ih f
  exact this _ _

/-! plain law: who remembers -/
theorem keepsL_iff {a b : Option Row} : ∀ {ps : List TM}, keepsL ps a b = true ↔ ∀ m ∈ ps, keepsM m a b = true
  | [] => ⟨fun _ m h => (by cases h), fun _ => rfl⟩
  | m :: ms => by
    show (keepsM m a b && keepsL ms a b) = true ↔ _
    rw [Bool.and_eq_true, keepsL_iff (ps := ms)]
    constructor
    · rintro ⟨h1, h2⟩ x hx
      rcases List.mem_cons.mp hx with rfl | hx
      · exact h1
      · exact h2 x hx
    · intro h
      exact ⟨h m (List.mem_cons_self ..), fun x hx => h x (List.mem_cons_of_mem _ hx)⟩
theorem keepsT_iff {q : Nat} {es : List Ev} {a b : Option Row} : ∀ {ps : List TM} {k : Nat}, keepsT q es k ps a b = true ↔ ∀ (i : Nat) (m : TM), ps[i]? = some m → (if q = 1 then keepsM m (some (es, ((k + i : Nat) : Int))) b else keepsM m a (some (es, ((k + i : Nat) : Int)))) = true
  | [], k => ⟨fun _ i m h => (by simp at h), fun _ => rfl⟩
  | m :: ms, k => by
    show ((if q = 1 then keepsM m (some (es, (k : Int))) b else keepsM m a (some (es, (k : Int)))) && keepsT q es (k + 1) ms a b) = true ↔ _
    rw [Bool.and_eq_true, keepsT_iff (ps := ms)]
    constructor
    · rintro ⟨h1, h2⟩ i x hx
      cases i with
      | zero => simp at hx; subst hx; exact h1
      | succ i =>
        have := h2 i x (by simpa using hx)
        rw [show k + 1 + i = k + (i + 1) by omega] at this
        exact this
    · intro h
      refine ⟨h 0 m rfl, fun i x hx => ?_⟩
      have := h (i + 1) x (by simpa using hx)
      rw [show k + (i + 1) = k + 1 + i by omega] at this
      exact this
/-! the last row of a view -/
theorem lastRow_skip {L : List Ev} {e : Ev} (h : isDid e = false) : lastRow (L ++ [e]) = lastRow L := by
  unfold lastRow
  rw [List.reverse_append]
  show (if isDid e = true then _ else lastR L.reverse) = _
  rw [h]; rfl
theorem lastRow_did {L : List Ev} {e : Ev} (h : isDid e = true) : lastRow (L ++ [e]) = some (L, e.2.headD 0) := by
  unfold lastRow
  rw [List.reverse_append]
  show (if isDid e = true then some (L.reverse.reverse, e.2.headD 0) else _) = _
  rw [if_pos h, List.reverse_reverse]
theorem lastRow_rd (S : List Stg) (L : List Ev) (k : Nat) : lastRow (L ++ rdE S k) = lastRow L := by
  unfold rdE
  split
  · exact lastRow_skip (nd_round _)
  · rw [List.append_nil]
theorem lastRow_told {L : List Ev} {p : Prop} [Decidable p] {l : List Int} : lastRow (L ++ (if p then [(("told" : Str), l)] else [])) = lastRow L := by
  split
  · exact lastRow_skip (nd_told _)
  · rw [List.append_nil]
theorem lastRow_asked (S : List Stg) (p : List Nat) (k : Nat) : lastRow (asked S p k) = lastRow (vw S (stg S k).pl p k) := by
  unfold asked
  rw [lastRow_skip (nd_move _), lastRow_rd]
theorem lastRow_other {S : List Stg} {pl : Nat} {p : List Nat} {k : Nat} (h : (stg S k).pl ≠ pl) : lastRow (vw S pl p (k + 1)) = lastRow (vw S pl p k) := by
  show lastRow (((vw S pl p k ++ rdE S k) ++ (if (stg S k).pl = pl then _ else [])) ++ _) = _
  rw [lastRow_told, if_neg h, List.append_nil, lastRow_rd]
theorem lastRow_own {S : List Stg} {p : List Nat} {k : Nat} : lastRow (vw S (stg S k).pl p (k + 1)) = some (asked S p k, ((p.getD k 0 : Nat) : Int)) := by
  show lastRow (((vw S (stg S k).pl p k ++ rdE S k) ++ (if (stg S k).pl = (stg S k).pl then _ else [])) ++ _) = _
  rw [lastRow_told, if_pos rfl]
  have : (vw S (stg S k).pl p k ++ rdE S k) ++ [(("move" : Str), [nm S k, ((stg S k).sz : Int)]), (("did" : Str), [((p.getD k 0 : Nat) : Int)])] = asked S p k ++ [(("did" : Str), [((p.getD k 0 : Nat) : Int)])] := by
    unfold asked; simp
  rw [this, lastRow_did (yd_did _)]; rfl
theorem vw_snoc (S : List Stg) (pl : Nat) (p : List Nat) (k : Nat) : vw S pl (p ++ [k]) p.length = vw S pl p p.length := by
  rw [← vw_take S pl (p ++ [k]) p.length p.length (Nat.le_refl _), List.take_left]
theorem asked_snoc (S : List Stg) (p : List Nat) (k : Nat) : asked S (p ++ [k]) p.length = asked S p p.length := by
  rw [← asked_take S (p ++ [k]), List.take_left]
theorem getD_snoc (p : List Nat) (k : Nat) : (p ++ [k]).getD p.length 0 = k := by
  rw [List.getD_eq_getElem?_getD, List.getElem?_append_right (Nat.le_refl _)]; simp
theorem snoc_len (p : List Nat) (k : Nat) : (p ++ [k]).length = p.length + 1 := by simp
/-- the parts of the tree at a path -/
def kids (S : List Stg) (rv : Option Nat) (n : Nat) (p : List Nat) : List TM :=
  if rv = some p.length then ((List.range (stg S p.length).sz).map fun k => treeM S rv n (p ++ [k])).reverse else (List.range (stg S p.length).sz).map fun k => treeM S rv n (p ++ [k])
theorem treeM_succ (S : List Stg) (rv : Option Nat) (n : Nat) (p : List Nat) : treeM S rv (n + 1) p = if (stg S p.length).pl = 0 then .lot (kids S rv n p) else .turn (stg S p.length).pl (asked S p p.length) (kids S rv n p) := rfl
theorem kids_get {S : List Stg} {rv : Option Nat} {n : Nat} {p : List Nat} {i : Nat} {m : TM} (h : (kids S rv n p)[i]? = some m) : i < (stg S p.length).sz ∧ m = treeM S rv n (p ++ [if rv = some p.length then (stg S p.length).sz - 1 - i else i]) := by
  unfold kids at h
  split at h
  · rename_i e
    have hi : i < (stg S p.length).sz := by
      have := (List.getElem?_eq_some_iff.mp h).1
      simpa using this
    rw [List.getElem?_reverse (by simpa using hi), List.getElem?_map] at h
    simp only [List.length_map, List.length_range] at h
    obtain ⟨k, hk, rfl⟩ := Option.map_eq_some_iff.mp h
    obtain ⟨h1, h2⟩ := List.getElem?_eq_some_iff.mp hk
    have h3 : k = (stg S p.length).sz - 1 - i := by rw [← h2]; simp
    exact ⟨hi, by rw [if_pos e, h3]⟩
  · rename_i e
    rw [List.getElem?_map] at h
    obtain ⟨k, hk, rfl⟩ := Option.map_eq_some_iff.mp h
    obtain ⟨h1, h2⟩ := List.getElem?_eq_some_iff.mp hk
    rw [List.length_range] at h1
    have h3 : k = i := by rw [← h2]; simp
    exact ⟨h1, by rw [if_neg e, h3]⟩
theorem kids_mem {S : List Stg} {rv : Option Nat} {n : Nat} {p : List Nat} {m : TM} (h : m ∈ kids S rv n p) : ∃ k, k < (stg S p.length).sz ∧ m = treeM S rv n (p ++ [k]) := by
  have : m ∈ (List.range (stg S p.length).sz).map fun k => treeM S rv n (p ++ [k]) := by
    unfold kids at h
    split at h
    · exact List.mem_reverse.mp h
    · exact h
  obtain ⟨k, hk, rfl⟩ := List.mem_map.mp this
  exact ⟨k, List.mem_range.mp hk, rfl⟩
theorem kids_len (S : List Stg) (rv : Option Nat) (n : Nat) (p : List Nat) : (kids S rv n p).length = (stg S p.length).sz := by
  unfold kids
  split <;> simp
/-- the first part -/
theorem kids_first {S : List Stg} {rv : Option Nat} {n : Nat} {p : List Nat} (h : 1 ≤ (stg S p.length).sz) : (kids S rv n p)[0]? = some (treeM S rv n (p ++ [if rv = some p.length then (stg S p.length).sz - 1 else 0])) := by
  have hl : 0 < (kids S rv n p).length := by rw [kids_len]; omega
  have e := List.getElem?_eq_getElem hl
  rw [e, (kids_get e).2]
  simp
/-- players of the stages -/
def rowOf (a b : Option Row) (q : Nat) : Option Row := if q = 1 then a else b
/-- later stages of that player -/
def NoneFrom (S : List Stg) (q j : Nat) : Prop := ∀ i, j ≤ i → i < S.length → (stg S i).pl ≠ q
def RowOk (S : List Stg) (p : List Nat) (q : Nat) (r : Option Row) : Prop := r = lastRow (vw S q p p.length) ∨ NoneFrom S q p.length
def TurnOk (S : List Stg) (rv : Option Nat) (j : Nat) : Prop := ∀ at_, rv = some at_ → j ≤ at_ → (stg S at_).pl = 0 ∨ (stg S at_).sz = 1 ∨ NoneFrom S (stg S at_).pl (at_ + 1)
theorem row_other {S : List Stg} {p : List Nat} {q k : Nat} {r : Option Row} (h : RowOk S p q r) (hq : (stg S p.length).pl ≠ q) : RowOk S (p ++ [k]) q r := by
  rcases h with h | h
  · left
    rw [snoc_len, lastRow_other hq, vw_snoc]; exact h
  · right
    intro i hi hl
    rw [snoc_len] at hi
    exact h i (by omega) hl
theorem keeps_true {S : List Stg} (h3 : ∀ k, (stg S k).pl < 3) (rv : Option Nat) : ∀ (n : Nat) (p : List Nat) (a b : Option Row), p.length + n = S.length → RowOk S p 1 a → RowOk S p 2 b → TurnOk S rv p.length → keepsM (treeM S rv n p) a b = true
  | 0, _, _, _, _, _, _, _ => rfl
  | n + 1, p, a, b, hn, ha, hb, ht => by
    rw [treeM_succ]
    have ht' : ∀ k, TurnOk S rv (p ++ [k]).length := fun k at_ e hj => ht at_ e (by rw [snoc_len] at hj; omega)
    by_cases h0 : (stg S p.length).pl = 0
    · rw [if_pos h0]
      show keepsL (kids S rv n p) a b = true
      refine keepsL_iff.mpr fun m hm => ?_
      obtain ⟨k, hk, rfl⟩ := kids_mem hm
      exact keeps_true h3 rv n _ a b (by rw [snoc_len]; omega) (row_other ha (by omega)) (row_other hb (by omega)) (ht' k)
    · rw [if_neg h0]
      have hp3 := h3 p.length
      show (decide (lastRow (asked S p p.length) = if (stg S p.length).pl = 1 then a else b) && keepsT (stg S p.length).pl (asked S p p.length) 0 (kids S rv n p) a b) = true
      rw [Bool.and_eq_true]
      have hno : ∀ q, (stg S p.length).pl = q → ¬ NoneFrom S q p.length := fun q e z => z p.length (Nat.le_refl _) (by omega) e
      constructor
      · rw [decide_eq_true_eq, lastRow_asked]
        by_cases h1 : (stg S p.length).pl = 1
        · rw [if_pos h1, h1]
          rcases ha with z | z
          · exact z.symm
          · exact absurd z (hno 1 h1)
        · rw [if_neg h1]
          have h2 : (stg S p.length).pl = 2 := by omega
          rw [h2]
          rcases hb with z | z
          · exact z.symm
          · exact absurd z (hno 2 h2)
      · refine keepsT_iff.mpr fun i m hm => ?_
        obtain ⟨hi, rfl⟩ := kids_get hm
        rw [Nat.zero_add]
        generalize hk : (if rv = some p.length then (stg S p.length).sz - 1 - i else i) = k
        have own : RowOk S (p ++ [k]) (stg S p.length).pl (some (asked S p p.length, ((i : Nat) : Int))) := by
          by_cases hr : rv = some p.length
          · rw [if_pos hr] at hk
            rcases ht p.length hr (Nat.le_refl _) with z | z | z
            · exact absurd z h0
            · left
              rw [snoc_len, lastRow_own, asked_snoc, getD_snoc, show i = k by omega]
            · right
              rw [snoc_len]; exact z
          · rw [if_neg hr] at hk
            left
            rw [snoc_len, lastRow_own, asked_snoc, getD_snoc, hk]
        by_cases h1 : (stg S p.length).pl = 1
        · rw [if_pos h1]
          rw [h1] at own
          exact keeps_true h3 rv n _ _ b (by rw [snoc_len]; omega) own (row_other hb (by omega)) (ht' k)
        · rw [if_neg h1]
          have h2 : (stg S p.length).pl = 2 := by omega
          rw [h2] at own
          exact keeps_true h3 rv n _ a _ (by rw [snoc_len]; omega) (row_other ha (by omega)) own (ht' k)
/-- a wrong row of a player who has a stage to come -/
theorem keeps_false {S : List Stg} (hs : ∀ k, 1 ≤ (stg S k).sz) (h3p : ∀ k, (stg S k).pl < 3) (rv : Option Nat) {q : Nat} (hq : q = 1 ∨ q = 2) : ∀ (n : Nat) (p : List Nat) (a b : Option Row), p.length + n = S.length → rowOf a b q ≠ lastRow (vw S q p p.length) → (∃ j, p.length ≤ j ∧ j < S.length ∧ (stg S j).pl = q) → keepsM (treeM S rv n p) a b = false
  | 0, p, a, b, hn, _, ⟨j, h1, h2, _⟩ => by omega
  | n + 1, p, a, b, hn, hw, ⟨j, h1, h2, hj⟩ => by
    rw [treeM_succ]
    have hfirst := kids_first (rv := rv) (n := n) (hs p.length)
    generalize hk0 : (if rv = some p.length then (stg S p.length).sz - 1 else 0) = k0 at hfirst
    have next : ∀ a' b', (stg S p.length).pl ≠ q → rowOf a' b' q = rowOf a b q → keepsM (treeM S rv n (p ++ [k0])) a' b' = false := fun a' b' hne e => by
      refine keeps_false hs h3p rv hq n _ a' b' (by rw [snoc_len]; omega) ?_ ⟨j, ?_, h2, hj⟩
      · rw [e, snoc_len, lastRow_other hne, vw_snoc]; exact hw
      · rw [snoc_len]
        rcases Nat.lt_or_ge p.length j with z | z
        · exact z
        · have : j = p.length := by omega
          subst this
          exact absurd hj hne
    by_cases h0 : (stg S p.length).pl = 0
    · rw [if_pos h0]
      have := next a b (by rw [h0]; omega) rfl
      cases hz : keepsM (.lot (kids S rv n p)) a b with
      | false => rfl
      | true =>
        have h3 := keepsL_iff.mp (show keepsL (kids S rv n p) a b = true from hz) _ (List.mem_of_getElem? hfirst)
        rw [this] at h3; cases h3
    · rw [if_neg h0]
      cases hz : keepsM (.turn (stg S p.length).pl (asked S p p.length) (kids S rv n p)) a b with
      | false => rfl
      | true =>
        have hz' : (decide (lastRow (asked S p p.length) = if (stg S p.length).pl = 1 then a else b) && keepsT (stg S p.length).pl (asked S p p.length) 0 (kids S rv n p) a b) = true := hz
        obtain ⟨z1, z2⟩ := Bool.and_eq_true_iff.mp hz'
        by_cases he : (stg S p.length).pl = q
        · have := of_decide_eq_true z1
          rw [lastRow_asked, he] at this
          exact absurd this.symm hw
        · have h3 := keepsT_iff.mp z2 0 _ hfirst
          by_cases h1' : (stg S p.length).pl = 1
          · rw [if_pos h1'] at h3
            have hq2 : q = 2 := by omega
            rw [next _ b he (by unfold rowOf; rw [hq2]; rfl)] at h3
            cases h3
          · rw [if_neg h1'] at h3
            by_cases hq1 : q = 1
            · rw [next a _ he (by unfold rowOf; rw [hq1]; rfl)] at h3
              cases h3
            · have := h3p p.length
              exact absurd (show (stg S p.length).pl = q by omega) he
/-- the parts of one turn the wrong way round, its player to move again -/
theorem turned_false {S : List Stg} (hs : ∀ k, 1 ≤ (stg S k).sz) (h3p : ∀ k, (stg S k).pl < 3) {at_ : Nat} (h0 : (stg S at_).pl ≠ 0) (hz : (stg S at_).sz ≠ 1) (hl : ∃ j, at_ + 1 ≤ j ∧ j < S.length ∧ (stg S j).pl = (stg S at_).pl) : ∀ (n : Nat) (p : List Nat) (a b : Option Row), p.length + n = S.length → p.length ≤ at_ → keepsM (treeM S (some at_) n p) a b = false
  | 0, p, a, b, hn, hp => by obtain ⟨j, h1, h2, _⟩ := hl; omega
  | n + 1, p, a, b, hn, hp => by
    rw [treeM_succ]
    have hfirst := kids_first (rv := some at_) (n := n) (hs p.length)
    by_cases he : p.length = at_
    · rw [if_pos (by rw [he])] at hfirst
      rw [he] at hfirst
      have hp1 : (stg S at_).pl < 3 := h3p at_
      rw [he, if_neg h0]
      cases hz2 : keepsM (.turn (stg S at_).pl (asked S p at_) (kids S (some at_) n p)) a b with
      | false => rfl
      | true =>
        have hz' : (decide (lastRow (asked S p at_) = if (stg S at_).pl = 1 then a else b) && keepsT (stg S at_).pl (asked S p at_) 0 (kids S (some at_) n p) a b) = true := hz2
        obtain ⟨z1, z2⟩ := Bool.and_eq_true_iff.mp hz'
        have h3 := keepsT_iff.mp z2 0 _ hfirst
        have hne : some (asked S p at_, ((0 + 0 : Nat) : Int)) ≠ lastRow (vw S (stg S at_).pl (p ++ [(stg S at_).sz - 1]) (p ++ [(stg S at_).sz - 1]).length) := by
          rw [snoc_len, he, lastRow_own, ← he, asked_snoc, getD_snoc, he]
          intro z
          have := (Prod.mk.inj (Option.some.inj z)).2
          have := hs at_
          omega
        have hj : ∃ j, (p ++ [(stg S at_).sz - 1]).length ≤ j ∧ j < S.length ∧ (stg S j).pl = (stg S at_).pl := by rw [snoc_len, he]; exact hl
        by_cases h1' : (stg S at_).pl = 1
        · rw [if_pos h1', keeps_false hs h3p (some at_) (q := (stg S at_).pl) (.inl h1') n _ _ b (by rw [snoc_len]; omega) (by unfold rowOf; rw [if_pos h1']; exact hne) hj] at h3
          cases h3
        · rw [if_neg h1', keeps_false hs h3p (some at_) (q := (stg S at_).pl) (.inr (by omega)) n _ a _ (by rw [snoc_len]; omega) (by unfold rowOf; rw [if_neg h1']; exact hne) hj] at h3
          cases h3
    · rw [if_neg (fun z => he (Option.some.inj z).symm)] at hfirst
      have ih := fun a b => turned_false hs h3p h0 hz hl n (p ++ [0]) a b (by rw [snoc_len]; omega) (by rw [snoc_len]; omega)
      by_cases h0' : (stg S p.length).pl = 0
      · rw [if_pos h0']
        cases hz2 : keepsM (.lot (kids S (some at_) n p)) a b with
        | false => rfl
        | true =>
          have h3 := keepsL_iff.mp (show keepsL (kids S (some at_) n p) a b = true from hz2) _ (List.mem_of_getElem? hfirst)
          rw [ih a b] at h3; cases h3
      · rw [if_neg h0']
        cases hz2 : keepsM (.turn (stg S p.length).pl (asked S p p.length) (kids S (some at_) n p)) a b with
        | false => rfl
        | true =>
          have hz' : (decide (lastRow (asked S p p.length) = if (stg S p.length).pl = 1 then a else b) && keepsT (stg S p.length).pl (asked S p p.length) 0 (kids S (some at_) n p) a b) = true := hz2
          obtain ⟨z1, z2⟩ := Bool.and_eq_true_iff.mp hz'
          have h3 := keepsT_iff.mp z2 0 _ hfirst
          split at h3
          · rw [ih] at h3; cases h3
          · rw [ih] at h3; cases h3
theorem vw0 (S : List Stg) (pl : Nat) : lastRow (vw S pl [] 0) = none := rfl
theorem tree_keeps {S : List Stg} (h3 : ∀ k, (stg S k).pl < 3) : keepsM (treeM S none S.length []) none none = true :=
  keeps_true h3 none S.length [] none none (Nat.zero_add _) (.inl rfl) (.inl rfl) (fun _ z => by cases z)
def laterN (S : List Stg) (at_ : Nat) : Nat := ((S.drop (at_ + 1)).filter fun s => decide (s.pl = (stg S at_).pl)).length
theorem later_zero {S : List Stg} {at_ : Nat} : laterN S at_ = 0 ↔ NoneFrom S (stg S at_).pl (at_ + 1) := by
  unfold laterN
  rw [List.length_eq_zero_iff, List.filter_eq_nil_iff]
  constructor
  · intro h i hi hl e
    have hm : stg S i ∈ S.drop (at_ + 1) := by
      have : (S.drop (at_ + 1))[i - (at_ + 1)]? = some (stg S i) := by
        rw [List.getElem?_drop, show at_ + 1 + (i - (at_ + 1)) = i by omega, List.getElem?_eq_getElem hl]
        unfold stg
        rw [List.getD_eq_getElem?_getD, List.getElem?_eq_getElem hl]; rfl
      exact List.mem_of_getElem? this
    exact h _ hm (by simp [e])
  · intro h s hs
    obtain ⟨i, hi⟩ := List.getElem?_of_mem hs
    rw [List.getElem?_drop] at hi
    obtain ⟨hl, he⟩ := List.getElem?_eq_some_iff.mp hi
    have := h (at_ + 1 + i) (by omega) hl
    unfold stg at this ⊢
    rw [List.getD_eq_getElem?_getD, hi] at this
    simpa using this
theorem tree_turned {S : List Stg} (hs : ∀ k, 1 ≤ (stg S k).sz) (h3 : ∀ k, (stg S k).pl < 3) (at_ : Nat) (hat : at_ < S.length) : keepsM (treeM S (some at_) S.length []) none none = decide ((stg S at_).pl = 0 ∨ (stg S at_).sz = 1 ∨ laterN S at_ = 0) := by
  by_cases h : (stg S at_).pl = 0 ∨ (stg S at_).sz = 1 ∨ laterN S at_ = 0
  · rw [decide_eq_true h]
    refine keeps_true h3 _ S.length [] none none (Nat.zero_add _) (.inl rfl) (.inl rfl) fun a e _ => ?_
    cases e
    exact h.imp id fun z => z.imp id later_zero.mp
  · rw [decide_eq_false h]
    have h0 : (stg S at_).pl ≠ 0 := fun z => h (.inl z)
    have h1 : (stg S at_).sz ≠ 1 := fun z => h (.inr (.inl z))
    have h2 : ¬ NoneFrom S (stg S at_).pl (at_ + 1) := fun z => h (.inr (.inr (later_zero.mpr z)))
    refine turned_false hs h3 h0 h1 ?_ S.length [] none none (Nat.zero_add _) (Nat.zero_le _)
    refine Classical.byContradiction fun z => h2 fun i hi hl e => z ⟨i, hi, hl, e⟩
def firstV : List Ev := [(("round" : Str), [0]), (("move" : Str), [30, 1])]
theorem tree_under {S : List Stg} (hs : ∀ k, 1 ≤ (stg S k).sz) (h3 : ∀ k, (stg S k).pl < 3) {pl : Nat} (hp : pl = 1 ∨ pl = 2) : keepsM (.turn pl firstV [treeM S none S.length []]) none none = decide ((met S pl).length = 0) := by
  have e : keepsM (.turn pl firstV [treeM S none S.length []]) none none = (if pl = 1 then keepsM (treeM S none S.length []) (some (firstV, 0)) none else keepsM (treeM S none S.length []) none (some (firstV, 0))) := by
    show (decide (lastRow firstV = if pl = 1 then none else none) && ((if pl = 1 then keepsM (treeM S none S.length []) (some (firstV, ((0 : Nat) : Int))) none else keepsM (treeM S none S.length []) none (some (firstV, ((0 : Nat) : Int)))) && true)) = _
    rw [show lastRow firstV = none from rfl]
    rcases hp with rfl | rfl <;> simp
  rw [e]
  by_cases h : ∃ j, j < S.length ∧ (stg S j).pl = pl
  · obtain ⟨j, hj, hpl⟩ := h
    have hm := met_some hs hj hpl
    rw [decide_eq_false (fun z => hm (List.length_eq_zero_iff.mp z))]
    rcases hp with rfl | rfl
    · exact keeps_false hs h3 none (q := 1) (.inl rfl) S.length [] _ _ (Nat.zero_add _) (fun z => by cases z) ⟨j, Nat.zero_le _, hj, hpl⟩
    · exact keeps_false hs h3 none (q := 2) (.inr rfl) S.length [] _ _ (Nat.zero_add _) (fun z => by cases z) ⟨j, Nat.zero_le _, hj, hpl⟩
  · have hno : ∀ j, j < S.length → (stg S j).pl ≠ pl := fun j hj z => h ⟨j, hj, z⟩
    rw [met_none hno]
    rcases hp with rfl | rfl
    · exact keeps_true h3 none S.length [] _ _ (Nat.zero_add _) (.inr fun i _ hl => hno i hl) (.inl rfl) (fun _ z => by cases z)
    · exact keeps_true h3 none S.length [] _ _ (Nat.zero_add _) (.inl rfl) (.inr fun i _ hl => hno i hl) (fun _ z => by cases z)

theorem vw_good (S : List Stg) (pl : Nat) (p : List Nat) : ∀ k, Good (vw S pl p k)
  | 0 => fun e he hd => by rw [List.mem_singleton.mp he] at hd; exact absurd hd (by rw [nd_round]; decide)
  | k + 1 => fun e he hd => by
    have he' : e ∈ ((vw S pl p k ++ rdE S k) ++ (if (stg S k).pl = pl then [(("move" : Str), [nm S k, ((stg S k).sz : Int)]), (("did" : Str), [((p.getD k 0 : Nat) : Int)])] else [])) ++ (if (stg S k).sh = pl ∨ (stg S k).sh = 3 then [(("told" : Str), [tl (stg S k).sz (p.getD k 0)])] else []) := he
    rcases List.mem_append.mp he' with he' | he'
    · rcases List.mem_append.mp he' with he' | he'
      · rcases List.mem_append.mp he' with he' | he'
        · exact vw_good S pl p k e he' hd
        · unfold rdE at he'
          split at he'
          · rw [List.mem_singleton.mp he']; simp
          · cases he'
      · split at he'
        · rcases List.mem_cons.mp he' with z | z
          · rw [z]; simp
          · rw [List.mem_singleton.mp z]; simp
        · cases he'
    · split at he'
      · rw [List.mem_singleton.mp he']; simp
      · cases he'
theorem asked_good (S : List Stg) (p : List Nat) (k : Nat) : Good (asked S p k) := fun e he hd => by
  have he' : e ∈ (vw S (stg S k).pl p k ++ rdE S k) ++ [(("move" : Str), [nm S k, ((stg S k).sz : Int)])] := he
  rcases List.mem_append.mp he' with he' | he'
  · rcases List.mem_append.mp he' with he' | he'
    · exact vw_good S _ p k e he' hd
    · unfold rdE at he'
      split at he'
      · rw [List.mem_singleton.mp he']; simp
      · cases he'
  · rw [List.mem_singleton.mp he']; simp
theorem okMs_of : ∀ {ps : List TM}, (∀ m ∈ ps, okM m) → okMs ps
  | [], _ => trivial
  | m :: ms, h => ⟨h m (List.mem_cons_self ..), okMs_of fun x hx => h x (List.mem_cons_of_mem _ hx)⟩
theorem hgts_of {n : Nat} : ∀ {ps : List TM}, (∀ m ∈ ps, m.hgt ≤ n) → TM.hgts ps ≤ n
  | [], _ => Nat.zero_le _
  | m :: ms, h => Nat.max_le.mpr ⟨h m (List.mem_cons_self ..), hgts_of fun x hx => h x (List.mem_cons_of_mem _ hx)⟩
theorem ndss_of {n : Nat} : ∀ {ps : List TM}, (∀ m ∈ ps, m.nds ≤ n) → TM.ndss ps ≤ ps.length * n
  | [], _ => by show 0 ≤ 0 * n; omega
  | m :: ms, h => by
    have h1 := h m (List.mem_cons_self ..)
    have h2 := ndss_of fun x hx => h x (List.mem_cons_of_mem _ hx)
    show m.nds + TM.ndss ms ≤ (ms.length + 1) * n
    rw [Nat.add_mul, Nat.one_mul]
    omega
theorem tree_hgt (S : List Stg) (rv : Option Nat) : ∀ (n : Nat) (p : List Nat), (treeM S rv n p).hgt ≤ n
  | 0, _ => Nat.le_refl _
  | n + 1, p => by
    have h : TM.hgts (kids S rv n p) ≤ n := hgts_of fun m hm => by
      obtain ⟨k, _, rfl⟩ := kids_mem hm
      exact tree_hgt S rv n _
    rw [treeM_succ]
    split
    · show TM.hgts _ + 1 ≤ _; omega
    · show TM.hgts _ + 1 ≤ _; omega
theorem tree_ok {S : List Stg} (hok : SOk S) (rv : Option Nat) : ∀ (n : Nat) (p : List Nat), p.length + n = S.length → okM (treeM S rv n p)
  | 0, _, _ => trivial
  | n + 1, p, hn => by
    have h : okMs (kids S rv n p) := okMs_of fun m hm => by
      obtain ⟨k, _, rfl⟩ := kids_mem hm
      exact tree_ok hok rv n _ (by rw [snoc_len]; omega)
    rw [treeM_succ]
    have hp := (stg_ok hok p.length).pl
    have hl := asked_len S p p.length
    have h4 := hok.len
    split
    · exact h
    · exact ⟨by omega, by omega, asked_ok S p p.length, asked_good S p p.length, h⟩
def prodF (S : List Stg) : Nat → Nat → Nat
  | _, 0 => 1
  | j, n + 1 => (stg S j).sz * prodF S (j + 1) n
theorem prodF_pos {S : List Stg} (hs : ∀ k, 1 ≤ (stg S k).sz) : ∀ n j, 1 ≤ prodF S j n
  | 0, _ => Nat.le_refl _
  | n + 1, j => Nat.mul_pos (hs j) (prodF_pos hs n (j + 1))
theorem prodF_drop (S : List Stg) : ∀ n j, j + n = S.length → prodF S j n = prodS (S.drop j)
  | 0, j, h => by rw [List.drop_eq_nil_of_le (by omega)]; rfl
  | n + 1, j, h => by
    rw [drop_stg (by omega)]
    show (stg S j).sz * prodF S (j + 1) n = (stg S j).sz * prodS (S.drop (j + 1))
    rw [prodF_drop S n (j + 1) (by omega)]
theorem tree_nds {S : List Stg} (hs : ∀ k, 1 ≤ (stg S k).sz) (rv : Option Nat) : ∀ (n : Nat) (p : List Nat), (treeM S rv n p).nds ≤ (n + 1) * prodF S p.length n
  | 0, _ => Nat.le_refl _
  | n + 1, p => by
    have h : TM.ndss (kids S rv n p) ≤ (kids S rv n p).length * ((n + 1) * prodF S (p.length + 1) n) := ndss_of fun m hm => by
      obtain ⟨k, _, rfl⟩ := kids_mem hm
      have := tree_nds hs rv n (p ++ [k])
      rw [snoc_len] at this; exact this
    rw [kids_len] at h
    have h1 := prodF_pos hs (n + 1) p.length
    have e : (stg S p.length).sz * ((n + 1) * prodF S (p.length + 1) n) = (n + 1) * prodF S p.length (n + 1) := by
      show _ = (n + 1) * ((stg S p.length).sz * prodF S (p.length + 1) n)
      rw [← Nat.mul_assoc, Nat.mul_comm (stg S p.length).sz, Nat.mul_assoc]
    rw [e] at h
    have goal : TM.ndss (kids S rv n p) + 1 ≤ (n + 1 + 1) * prodF S p.length (n + 1) := by
      rw [Nat.add_mul (n + 1) 1, Nat.one_mul]; omega
    rw [treeM_succ]
    split <;> exact goal
theorem tree_small {S : List Stg} (hok : SOk S) (rv : Option Nat) : (treeM S rv S.length []).nds ≤ 500 := by
  have h := tree_nds (fun k => (stg_ok hok k).sz0) rv S.length []
  rw [show ([] : List Nat).length = 0 from rfl, prodF_drop S S.length 0 (by omega), List.drop_zero] at h
  have h1 := hok.len
  have h2 := hok.prod
  have : (S.length + 1) * prodS S ≤ 5 * 100 := Nat.mul_le_mul (by omega) h2
  omega
theorem VP_nil (S : List Stg) : VP S [] := ⟨Nat.zero_le _, fun i h => by cases h⟩
/-! the tree where two turns share what is behind them -/
theorem last_evT (t : Int) : lastRow (evT t) = none := by
  show lastRow ([(("round" : Str), [0]), (("told" : Str), [t])] ++ [(("move" : Str), [0, 2])]) = none
  rw [lastRow_skip (nd_move _)]
  show lastRow ([(("round" : Str), [0])] ++ [(("told" : Str), [t])]) = none
  rw [lastRow_skip (nd_told _)]
  show lastRow ([] ++ [(("round" : Str), [0])]) = none
  rw [lastRow_skip (nd_round _)]; rfl
theorem last_later (t : Int) : lastRow (evT t ++ [(("did" : Str), [0]), (("move" : Str), [1, 1])]) = some (evT t, 0) := by
  have e : evT t ++ [(("did" : Str), [0]), (("move" : Str), [1, 1])] = (evT t ++ [(("did" : Str), [0])]) ++ [(("move" : Str), [1, 1])] := by simp
  rw [e, lastRow_skip (nd_move _), lastRow_did (yd_did _)]; rfl
theorem evT_inj {a b : Int} (h : evT a = evT b) : a = b := by
  unfold evT at h
  simpa using h
theorem keeps_later (pl : Nat) (c : Int) (a b : Option Row) : keepsM (jLater pl c) a b = decide (some (evT (jTold c), 0) = if pl = 1 then a else b) := by
  show (decide (lastRow (evT (jTold c) ++ [(("did" : Str), [0]), (("move" : Str), [1, 1])]) = if pl = 1 then a else b) && ((if pl = 1 then true else true) && true)) = _
  rw [last_later]; simp
theorem second_ne {c : Int} (h : c % 3 = 1) : jSecond c ≠ jTold c := by
  unfold jSecond
  rw [if_pos h]
  have := Int.emod_nonneg (c / 6) (show (2 : Int) ≠ 0 by decide)
  omega
theorem keeps_joined {pl : Nat} (hp : pl = 1 ∨ pl = 2) (c : Int) : keepsM (joinM pl c) none none = decide (c % 3 = 0) := by
  have hL : ∀ qs : List TM, keepsL (if c / 3 % 2 = 1 then qs.reverse else qs) none none = keepsL qs none none := by
    intro qs
    split
    · cases hz : keepsL qs none none with
      | true => exact keepsL_iff.mpr fun m hm => keepsL_iff.mp hz m (List.mem_reverse.mp hm)
      | false =>
        cases hy : keepsL qs.reverse none none with
        | false => rfl
        | true =>
          rw [keepsL_iff.mpr fun m hm => keepsL_iff.mp hy m (List.mem_reverse.mpr hm)] at hz
          cases hz
    · rfl
  show keepsL (if c / 3 % 2 = 1 then (jTurns pl c).reverse else jTurns pl c) none none = _
  rw [hL]
  have one : ∀ (t : Int) (qs : List TM), keepsM (.turn pl (evT t) qs) none none = keepsT pl (evT t) 0 qs none none := by
    intro t qs
    show (decide (lastRow (evT t) = if pl = 1 then none else none) && keepsT pl (evT t) 0 qs none none) = _
    rw [last_evT]; simp
  have kT : ∀ (t : Int) (x y : TM), keepsT pl (evT t) 0 [x, y] none none = ((if pl = 1 then keepsM x (some (evT t, 0)) none else keepsM x none (some (evT t, 0))) && ((if pl = 1 then keepsM y (some (evT t, 1)) none else keepsM y none (some (evT t, 1))) && true)) := fun _ _ _ => rfl
  show (keepsM (.turn pl (evT (jTold c)) [jLater pl c, .fin]) none none && (keepsM (.turn pl (evT (jSecond c)) (jParts pl c)) none none && true)) = _
  rw [one, one, kT]
  have fin : ∀ a b, keepsM .fin a b = true := fun _ _ => rfl
  have lat : ∀ (v : List Ev) (k : Int), (if pl = 1 then keepsM (jLater pl c) (some (v, k)) none else keepsM (jLater pl c) none (some (v, k))) = decide (evT (jTold c) = v ∧ (0 : Int) = k) := by
    intro v k
    rcases hp with rfl | rfl
    · rw [if_pos rfl, keeps_later, if_pos rfl]
      congr 1
      simp
    · rw [if_neg (by decide), keeps_later, if_neg (by decide)]
      congr 1
      simp
  rw [lat]
  have h3 : c % 3 = 0 ∨ c % 3 = 1 ∨ c % 3 = 2 := by omega
  rcases h3 with h | h | h
  · have e1 : jParts pl c = [jLater pl c, .fin] := by unfold jParts; rw [if_neg (by omega)]
    have e2 : jSecond c = jTold c := by unfold jSecond; rw [if_neg (by omega)]
    rw [e1, e2, kT, lat]
    simp [h, fin]
  · have e1 : jParts pl c = [jLater pl c, .fin] := by unfold jParts; rw [if_neg (by omega)]
    rw [e1, kT, lat]
    have : ¬ evT (jTold c) = evT (jSecond c) := fun z => second_ne h (evT_inj z).symm
    simp [h, this, fin]
  · have e1 : jParts pl c = [.fin, jLater pl c] := by unfold jParts; rw [if_pos h]
    rw [e1, kT, lat]
    simp [h, fin]
theorem join_hgt (pl : Nat) (c : Int) : (joinM pl c).hgt < 6 := by
  unfold joinM jTurns jParts
  split <;> split <;> exact (show (3 : Nat) < 6 by decide)
theorem join_nds (pl : Nat) (c : Int) : (joinM pl c).nds ≤ 1000 := by
  unfold joinM jTurns jParts
  split <;> split <;> exact (show (9 : Nat) ≤ 1000 by decide)
theorem ok_evT (t : Int) : ∀ e ∈ evT t, OkE e := fun e he => by
  rcases List.mem_cons.mp he with rfl | he
  · exact ok_round _
  rcases List.mem_cons.mp he with rfl | he
  · exact ok_told _
  · rw [List.mem_singleton.mp he]; exact ok_move _
theorem good_evT (t : Int) : Good (evT t) := fun e he hd => by
  rcases List.mem_cons.mp he with rfl | he
  · simp
  rcases List.mem_cons.mp he with rfl | he
  · simp
  · rw [List.mem_singleton.mp he]; simp
theorem join_ok {pl : Nat} (hp : pl = 1 ∨ pl = 2) (c : Int) : okM (joinM pl c) := by
  have lat : okM (jLater pl c) := by
    refine ⟨hp, by show 5 ≤ 1000; decide, fun e he => ?_, fun e he hd => ?_, trivial, trivial⟩
    · rcases List.mem_append.mp he with he | he
      · exact ok_evT _ e he
      · rcases List.mem_cons.mp he with rfl | he
        · exact ok_did _
        · rw [List.mem_singleton.mp he]; exact ok_move _
    · rcases List.mem_append.mp he with he | he
      · exact good_evT _ e he hd
      · rcases List.mem_cons.mp he with rfl | he
        · simp
        · rw [List.mem_singleton.mp he]; simp
  have tur : ∀ (t : Int) (ps : List TM), okMs ps → okM (.turn pl (evT t) ps) := fun t ps h => ⟨hp, by show 3 ≤ 1000; decide, ok_evT t, good_evT t, h⟩
  have prt : okMs (jParts pl c) := by
    unfold jParts
    split
    · exact ⟨trivial, lat, trivial⟩
    · exact ⟨lat, trivial, trivial⟩
  refine okMs_of fun m hm => ?_
  have : m ∈ jTurns pl c := by
    split at hm
    · exact List.mem_reverse.mp hm
    · exact hm
  rcases List.mem_cons.mp this with rfl | h
  · exact tur _ _ ⟨lat, trivial, trivial⟩
  · rw [List.mem_singleton.mp h]; exact tur _ _ prt

theorem op_eqDK {X : Cx} {K : PySem.W.Frag} (hu : X.A.units + 64 < cLine) (hK : X.K = K := by rfl) : OpR X (compareOp .Eq) (rEqD K) := hK ▸ op_eqD hu
theorem atI_last {xs : List V} {v : V} : atI (xs ++ [v]) (-1) = some v := by
  unfold atI ixN
  rw [if_neg (by decide), List.length_append]
  simp only [List.length_cons, List.length_nil]
  rw [if_pos (by omega)]
  show (xs ++ [v])[((-1 : Int) + ((xs.length + (0 + 1) : Nat) : Int)).toNat]? = some v
  rw [show ((-1 : Int) + ((xs.length + (0 + 1) : Nat) : Int)).toNat = xs.length by omega, List.getElem?_append_right (Nat.le_refl _)]
  simp
def dSp : PyData := .tuple [.str "spoilt", .int 0]
theorem sp_shaped : SeqAt.shaped dSp = true := by decide +kernel
theorem sp_eqv : PyData.eqv dSp dSp = true := by decide +kernel
theorem dec_len (n : Nat) : decide (V.int (n : Int) = V.int 0) = decide (n = 0) := by
  by_cases h : n = 0
  · subst h; rfl
  · rw [decide_eq_false h, decide_eq_false (fun z => h (by have := V.int.inj z; omega))]
theorem dec_int (z k : Int) : decide (V.int z = V.int k) = decide (z = k) := by
  by_cases h : z = k
  · subst h; rw [decide_eq_true rfl, decide_eq_true rfl]
  · rw [decide_eq_false h, decide_eq_false (fun q => h (V.int.inj q))]
theorem cut_from {xs : List V} {k : Nat} (h : k ≤ xs.length) : cutV xs (some (k : Int)) none = xs.drop k := by
  show (xs.drop (HT.sIx xs.length 0 (some (k : Int)))).take (HT.sIx xs.length xs.length none - HT.sIx xs.length 0 (some (k : Int))) = xs.drop k
  rw [HT.sIx_none, HT.sIx_nat, Nat.min_eq_left h]
  exact List.take_of_length_le (by rw [List.length_drop]; exact Nat.le_refl _)
theorem rowsOf_len {f : List Row} (hk : ∀ r ∈ f, r.2 ≤ 1000) : ∀ i, i ≤ f.length → (rowsOf (f.take i)).length ≤ i * 1000 := by
  intro i
  induction i with
  | zero => intro _; rw [List.take_zero]; exact Nat.le_refl _
  | succ j ih =>
    intro hj
    have h0 := ih (by omega)
    rw [List.take_succ_eq_append_getElem (by omega)]
    unfold rowsOf at *
    rw [List.flatMap_append, List.length_append]
    have h2 := hk f[j] (List.getElem_mem (by omega))
    have : ((List.flatMap (fun (r : Row) => (List.range r.2.toNat).map fun (k : Nat) => (r.1, (k : Int))) [f[j]]).length) = f[j].2.toNat := by simp
    rw [this]
    omega
theorem rowsOf_ok {f : List Row} (h : ∀ r ∈ f, ∀ e ∈ r.1, OkE e) : ∀ r ∈ rowsOf f, ∀ e ∈ r.1, OkE e := by
  intro r hr
  obtain ⟨q, hq, hm⟩ := List.mem_flatMap.mp hr
  obtain ⟨k, _, rfl⟩ := List.mem_map.mp hm
  exact h q hq
def sp_law (K : PySem.W.Frag) : Sp := fun vs H Q _ => ∃ (a : Addr) (ns : List Int), vs = [.ref a] ∧ SqL K H a (ns.map V.int) ∧ ∀ H', Q (.bl true) H'
section
variable {P : Program} {w : World} {K : PySem.W.Frag} {mg : Str → Option Value} {base : Heap} {C_End : Addr} {C_Lot : Addr} {C_Turn : Addr}
theorem ok_law {f : Addr} {fd : FuncData} (F : C8.Fun K "law" "law" s_law f fd) (T : Txt K mg C_End C_Lot C_Turn) (c_law_stages : C8.Cal P w K mg base 2 "_law_stages" (sp_stages K 48) []) (c_law_paths : C8.Cal P w K mg base 1 "_law_paths" sp_paths []) (c_law_node : C8.Cal P w K mg base 7 "_law_node" (sp_node C_End C_Lot C_Turn 5) []) (c_law_met : C8.Cal P w K mg base 3 "_law_met" sp_met [])
    (c_views_of : C8.Cal P w K mg base 7 "views_of" (sp_views C_End C_Lot C_Turn 5) []) (c_rows_of : C8.Cal P w K mg base 8 "rows_of" (sp_rows C_End C_Lot C_Turn 5) []) (c_law_are_pairs : C8.Cal P w K mg base 2 "_law_are_pairs" sp_pairs []) (c_law_is : C8.Cal P w K mg base 1 "_law_is" sp_is []) (c_remembers : C8.Cal P w K mg base 8 "remembers" (sp_remembers C_End C_Lot C_Turn 6) [])
    (c_Turn : C8.Mak P w K mg base 1 "Turn" C_Turn (sp_ini3 C_Turn "player" "view" "parts") []) (c_law_joined : C8.Cal P w K mg base 3 "_law_joined" (sp_joined C_End C_Lot C_Turn) []) (c_law_cell : C8.Cal P w K mg base 1 "_law_cell" (sp_cell K) []) (c_law_turned : C8.Cal P w K mg base 7 "_law_turned" (sp_turned C_End C_Lot C_Turn 5) []) :
    FnOk P w K mg base C8.CX0 9 f fd ["script"] (sp_law K) := by
  refine fn0 F sc_law (fun vs H Q E h => ?_) (fun cdv A outer s H vs Q E hr h => ?_)
  · obtain ⟨a, ns, rfl, _⟩ := h
    rfl
  · obtain ⟨a, ns, rfl, hS, k⟩ := h
    refine ⟨_, (pss_cons (ps_set (i := 1) sc_law.nd rfl (by first | exact Or.inl rfl | exact Or.inr rfl) (pe_c c_law_stages hr (by first | exact Nat.le_refl _ | decide | omega) rfl (pa_cons (pv 0) (pa_cons pe_int pa_nil))))
(pss_cons (ps_setLc (i := 2) (own := [("path", 16)]) (g := gName 16) (tt := tYes) rfl sc_law.nd rfl rfl (sw_true rfl rfl rfl (by decide +kernel)) (pi_list (pe_c c_law_paths hr (by first | exact Nat.le_refl _ | decide | omega) rfl (pa_cons (pv 1) pa_nil))) (blkOk_by (N := ["script", "stages", "paid", "tree", "first", "player", "due", "rows", "pair", "k", "earlier", "turn", "actual", "told", "at", "later", "path", "row", "stage"]) (sc := fnScope s_law) (by decide +kernel)) (fun _ _ _ _ _ => pg_name (i := 16) sc_law.nd rfl (Or.inl rfl)) (fun _ _ _ _ _ => pts_nil) (fun _ _ _ _ _ => pe_int))
(pss_cons (ps_set (i := 3) sc_law.nd rfl (by first | exact Or.inl rfl | exact Or.inr rfl) (pe_c c_law_node hr (by first | exact Nat.le_refl _ | decide | omega) rfl (pa_cons (pv 1) (pa_cons (pv 2) (pa_cons (pe_lst pa_nil) pa_nil)))))
(pss_cons (ps_set (i := 4) sc_law.nd rfl (by first | exact Or.inl rfl | exact Or.inr rfl) (pe_tup (pa_cons (pe_tup (pa_cons pe_str (pa_cons pe_int pa_nil))) (pa_cons (pe_tup (pa_cons pe_str (pa_cons pe_int (pa_cons pe_int pa_nil)))) pa_nil))))
(pss_cons (ps_for PassesOwn.never rfl (pi_tup (pe_tup (pa_cons pe_int (pa_cons pe_int pa_nil)))) (pg_name (i := 5) sc_law.nd rfl (by first | exact Or.inl rfl | exact Or.inr rfl))
  (pss_cons (ps_set (i := 6) sc_law.nd rfl (by first | exact Or.inl rfl | exact Or.inr rfl) (pe_c c_law_met hr (by first | exact Nat.le_refl _ | decide | omega) rfl (pa_cons (pv 1) (pa_cons (pv 5) pa_nil))))
  (pss_cons (ps_set (i := 7) sc_law.nd rfl (by first | exact Or.inl rfl | exact Or.inr rfl) (pe_lst pa_nil))
  (pss_cons (ps_for PassesOwn.never rfl (pi_list (pv 6)) (pg_name (i := 8) sc_law.nd rfl (by first | exact Or.inl rfl | exact Or.inr rfl))
    (pss_one (ps_for PassesOwn.never rfl (pi_range1 (by rfl) T.n_range (pa_cons (pe_ix ix_tup (pv 8) pe_int (fun _ _ => rfl)) pa_nil)) (pg_name (i := 9) sc_law.nd rfl (by first | exact Or.inl rfl | exact Or.inr rfl))
      (pss_one (ps_expr (pe_bm PySem.F.plainAttrs_list PySem.F.slot_list_append PySem.F.type_list_append mt_append (pv 7) (pa_cons (pe_tup (pa_cons (pe_ix ix_tup (pv 8) pe_int (fun _ _ => rfl)) (pa_cons (pv 9) pa_nil))) pa_nil)))))))
  (pss_cons (ps_set (i := 10) sc_law.nd rfl (by first | exact Or.inl rfl | exact Or.inr rfl) (pe_lst pa_nil))
  (pss_cons (ps_for PassesOwn.never rfl (pi_range1 (by rfl) T.n_range (pa_cons pe_int pa_nil)) (pg_name (i := 11) sc_law.nd rfl (by first | exact Or.inl rfl | exact Or.inr rfl))
    (pss_cons (ps_set (i := 12) sc_law.nd rfl (by first | exact Or.inl rfl | exact Or.inr rfl) (pe_c c_views_of hr (by first | exact Nat.le_refl _ | decide | omega) rfl (pa_cons (pv 3) (pa_cons (pv 5) pa_nil))))
    (pss_cons (ps_set (i := 13) sc_law.nd rfl (by first | exact Or.inl rfl | exact Or.inr rfl) (pe_c c_rows_of hr (by first | exact Nat.le_refl _ | decide | omega) rfl (pa_cons (pv 3) (pa_cons (pv 5) pa_nil))))
    (pss_cons (ps_if (PW.pt (pw_or (pt_not (pt_val (pe_c c_law_are_pairs hr (by first | exact Nat.le_refl _ | decide | omega) rfl (pa_cons (pv 12) (pa_cons (pv 6) pa_nil))))) (pw_or1 (pt_not (pt_val (pe_c c_law_are_pairs hr (by first | exact Nat.le_refl _ | decide | omega) rfl (pa_cons (pv 13) (pa_cons (pv 7) pa_nil))))))))
      (pss_one (ps_ret pe_bl))
      pss_nil)
    (pss_cons (ps_if (pt_cmpR op_in_seq pe_bl (pe_lc (own := [("row", 17)]) (g := gName 17) (tt := tYes) rfl sc_law.nd (pi_list (pv 10)) (blkOk_by (N := ["script", "stages", "paid", "tree", "first", "player", "due", "rows", "pair", "k", "earlier", "turn", "actual", "told", "at", "later", "path", "row", "stage"]) (sc := fnScope s_law) (by decide +kernel)) (fun _ _ _ _ _ => pg_name (i := 17) sc_law.nd rfl (Or.inl rfl)) (fun _ _ _ _ _ => pts_nil) (fun _ _ _ _ _ => (pe_cmpR (op_eqDK (K := K) hr.units) (pe_ix (ix_listK (K := K)) (pv 17) (pe_un un_neg pe_int) (fun _ _ => rfl)) (pe_tup (pa_cons pe_str (pa_cons pe_int pa_nil))) (nomark _)))) (by rfl))
      (pss_one (ps_ret pe_bl))
      pss_nil)
    (pss_cons (ps_expr (pe_bm PySem.F.plainAttrs_list PySem.F.slot_list_append PySem.F.type_list_append mt_append (pv 12) (pa_cons (pe_tup (pa_cons pe_str (pa_cons pe_int pa_nil))) pa_nil)))
    (pss_cons (ps_expr (pe_bm PySem.F.plainAttrs_list PySem.F.slot_list_append PySem.F.type_list_append mt_append (pv 13) (pa_cons (pe_tup (pa_cons pe_str (pa_cons pe_int pa_nil))) pa_nil)))
    (pss_one (ps_set (i := 10) sc_law.nd rfl (by first | exact Or.inl rfl | exact Or.inr rfl) (pe_lst (pa_cons (pv 12) (pa_cons (pv 13) pa_nil))))))))))))
  (pss_cons (ps_if (pt_not (pt_val (pe_c c_law_is hr (by first | exact Nat.le_refl _ | decide | omega) rfl (pa_cons (pe_c c_remembers hr (by first | exact Nat.le_refl _ | decide | omega) rfl (pa_cons (pe_mk c_Turn hr (by first | exact Nat.le_refl _ | decide | omega) rfl (pa_cons (pv 5) (pa_cons (pv 4) (pa_cons (pe_tup (pa_cons (pv 3) pa_nil)) pa_nil)))) pa_nil)) (pa_cons (pe_cmpR op_eq (pe_callB call_len_seq (by rfl) T.n_len bo_len (pa_cons (pv 6) pa_nil)) pe_int (nomark _)) pa_nil)))))
    (pss_one (ps_ret pe_bl))
    pss_nil)
  (pss_one (ps_if (pt_not (pt_val (pe_c c_law_is hr (by first | exact Nat.le_refl _ | decide | omega) rfl (pa_cons (pe_c c_remembers hr (by first | exact Nat.le_refl _ | decide | omega) rfl (pa_cons (pe_c c_law_joined hr (by first | exact Nat.le_refl _ | decide | omega) rfl (pa_cons (pv 5) (pa_cons (pe_c c_law_cell hr (by first | exact Nat.le_refl _ | decide | omega) rfl (pa_cons (pv 0) (pa_cons pe_int pa_nil))) pa_nil))) pa_nil)) (pa_cons (pe_cmpR op_eq (pe_op op_mod (pe_callTy call_int1 (by rfl) T.n_int bo_int (pa_cons (pe_c c_law_cell hr (by first | exact Nat.le_refl _ | decide | omega) rfl (pa_cons (pv 0) (pa_cons pe_int pa_nil))) pa_nil)) pe_int) pe_int (nomark _)) pa_nil)))))
    (pss_one (ps_ret pe_bl))
    pss_nil)))))))))
(pss_cut (ps_if (pt_cmpR op_gt (pe_callB call_len_seq (by rfl) T.n_len bo_len (pa_cons (pv 1) pa_nil)) pe_int (nomark _))
  (pss_cons (ps_set (i := 14) sc_law.nd rfl (by first | exact Or.inl rfl | exact Or.inr rfl) (pe_op op_mod (pe_callTy call_int1 (by rfl) T.n_int bo_int (pa_cons (pe_c c_law_cell hr (by first | exact Nat.le_refl _ | decide | omega) rfl (pa_cons (pv 0) (pa_cons pe_int pa_nil))) pa_nil)) (pe_callB call_len_seq (by rfl) T.n_len bo_len (pa_cons (pv 1) pa_nil))))
  (pss_cons (ps_set (i := 15) sc_law.nd rfl (by first | exact Or.inl rfl | exact Or.inr rfl) (pe_callB call_len_seq (by rfl) T.n_len bo_len (pa_cons (pe_lc (own := [("stage", 18)]) (g := gName 18)  rfl sc_law.nd (pi_list (pe_slice sl_list (pv 1) (po_some (pe_op op_add (pv 14) pe_int)) po_none)) (blkOk_by (N := ["script", "stages", "paid", "tree", "first", "player", "due", "rows", "pair", "k", "earlier", "turn", "actual", "told", "at", "later", "path", "row", "stage"]) (sc := fnScope s_law) (by decide +kernel)) (fun _ _ _ _ _ => pg_name (i := 18) sc_law.nd rfl (Or.inl rfl)) (fun _ _ _ _ _ => pts_one (pt_cmpR op_eq (pe_ix (ix_tupK (K := K)) (pv 18) pe_int (fun _ _ => rfl)) (pe_ix (ix_tupK (K := K)) (pe_ix (ix_listK (K := K)) (pv 1) (pv 14) (fun _ _ => rfl)) pe_int (fun _ _ => rfl)) (nomark _))) (fun _ _ _ _ _ => (pv 18))) pa_nil)))
  (pss_cut (ps_set (i := 6) sc_law.nd rfl (by first | exact Or.inl rfl | exact Or.inr rfl) (pe_or (pe_cmpR op_eq (pe_ix ix_tup (pe_ix ix_list (pv 1) (pv 14) (fun _ _ => rfl)) pe_int (fun _ _ => rfl)) pe_int (nomark _)) (pe_or (pe_cmpR op_eq (pe_ix ix_tup (pe_ix ix_list (pv 1) (pv 14) (fun _ _ => rfl)) pe_int (fun _ _ => rfl)) pe_int (nomark _)) (pe_one (pe_cmpR op_eq (pv 15) pe_int (nomark _))))))
  (pss_one (ps_if (pt_not (pt_val (pe_c c_law_is hr (by first | exact Nat.le_refl _ | decide | omega) rfl (pa_cons (pe_c c_remembers hr (by first | exact Nat.le_refl _ | decide | omega) rfl (pa_cons (pe_c c_law_turned hr (by first | exact Nat.le_refl _ | decide | omega) rfl (pa_cons (pv 1) (pa_cons (pe_lst pa_nil) (pa_cons (pv 14) pa_nil)))) pa_nil)) (pa_cons (pv 6) pa_nil)))))
    (pss_one (ps_ret pe_bl))
    pss_nil)))))
  pss_nil)
(pss_one (ps_ret (pe_c c_law_is hr (by first | exact Nat.le_refl _ | decide | omega) rfl (pa_cons (pe_c c_remembers hr (by first | exact Nat.le_refl _ | decide | omega) rfl (pa_cons (pv 3) pa_nil)) (pa_cons pe_bl pa_nil))))))))))), ?_⟩
    have bl3 : ∀ {H : Hp} {b : Addr} {xs : List V}, H b = some (.lst xs) → SqL K H b xs := fun h => SqL.of h
    refine ⟨_, rfl, a, ns, 48, rfl, rfl, hS, fun l S H1 nl hSt hok hpr K1 => ?_⟩
    have hs : ∀ k, 1 ≤ (stg S k).sz := fun k => (stg_ok hok k).sz0
    have h3 : ∀ k, (stg S k).pl < 3 := fun k => (stg_ok hok k).pl
    have h4 := hok.len
    refine ⟨_, rfl, l, S, rfl, hSt, hok, fun pa ps H2 npa hpa hps fr K2 => ⟨pa, rfl, ⟨_, SqL.of hpa⟩, fun D nD => ?_⟩⟩
    have hpl := hps.len
    rw [paths_len] at hpl
    have hpl' : ps.length = prodS S := by rw [hpl]; show prodS S * 1 = _; omega
    refine lc_list (K := K) (a := pa) (xs := ps) (fun i H' => H' D = some (.lst (List.replicate i (.int 0))) ∧ Keep [] H2 H') ⟨upd_same, Keep.new nD⟩ (fun i H' _ ⟨_, kk⟩ => SqL.of (kk _ _ hpa (by simp))) ?_ ?_
    · rintro i x H' hx ⟨hD, kk⟩
      have hi := (List.getElem?_eq_some_iff.mp hx).1
      refine ⟨rfl, yes_then ⟨_, hD, smallL (by rw [List.length_replicate]; omega), ?_, kk.then_own nD⟩⟩
      rw [← List.replicate_succ']; exact upd_same
    rintro H3 ⟨hD, K3⟩
    have k13 := K2.trans K3
    refine ⟨_, rfl, _, rfl, And.intro (by show 0 ≤ sizeLine; decide) <| fun e0 ne0 => ?_⟩
    have ke0 := Keep.new (W := []) (o := .lst []) ne0
    refine ⟨l, D, e0, S, [], _, rfl, hSt.keep (k13.trans ke0), hok, upd_same, VP_nil S, by show S.length < 0 + 5; omega, ke0 _ _ hD (by simp), by rw [List.length_replicate]; exact hpl', fun tv H4 htv K4 => ?_⟩
    have k14 := (k13.trans ke0).trans K4
    have htv' : TA C_End C_Lot C_Turn H4 (treeM S none S.length []) tv := htv
    have hgt := tree_hgt S none S.length []
    have hnd := tree_small hok none
    have hokM := tree_ok hok none S.length [] (Nat.zero_add _)
    clear htv
    refine And.intro (by show 2 ≤ sizeLine; decide) <| fun t1 n1 => And.intro (by show 3 ≤ sizeLine; decide) <| fun t2 n2 => And.intro (by show 2 ≤ sizeLine; decide) <| fun t3 n3 => ?_
    have kt1 := Keep.new (W := []) (o := .tup [.str "round", .int 0]) n1
    have kt2 := Keep.new (W := []) (o := .tup [.str "move", .int 30, .int 1]) n2
    have kt3 := Keep.new (W := []) (o := .tup [.ref t1, .ref t2]) n3
    have hfv : TD (upd (upd (upd H4 t1 (.tup [.str "round", .int 0])) t2 (.tup [.str "move", .int 30, .int 1])) t3 (.tup [.ref t1, .ref t2])) (.ref t3) (dView firstV) :=
      .tup upd_same (.cons (.tup ((kt2.trans kt3) _ _ upd_same (by simp)) (.cons (.str _) (td_ints [0]))) (.cons (.tup (kt3 _ _ upd_same (by simp)) (.cons (.str _) (td_ints [30, 1]))) .nil))
    have k45 := (kt1.trans kt2).trans kt3
    generalize upd (upd (upd H4 t1 (.tup [.str "round", .int 0])) t2 (.tup [.str "move", .int 30, .int 1])) t3 (.tup [.ref t1, .ref t2]) = H5 at *
    clear kt1 kt2 kt3 n1 n2 n3
    have k15 := k14.trans k45
    have htv5 := htv'.ki (KI.of k45)
    have hS5 := hSt.keep k15
    have hS0 := (K1.trans k15).seqL hS (by simp)
    refine And.intro (by show 2 ≤ sizeLine; decide) <| fun tp ntp => ?_
    have ktp := Keep.new (W := []) (o := .tup [.int 1, .int 2]) ntp
    have htp : upd H5 tp (.tup [.int 1, .int 2]) tp = some (.tup [.int 1, .int 2]) := upd_same
    generalize upd H5 tp (.tup [.int 1, .int 2]) = H6 at *
    refine ⟨tp, rfl, ⟨_, SqT.of htp⟩, for_tup (K := K) (a := tp) (xs := [.int 1, .int 2]) (fun i σ H' => ∃ o5 o6 o7 o8 o9 o10 o11 o12 o13, σ = [some (.ref a), some (.ref l), some (.ref D), some tv, some (.ref t3), o5, o6, o7, o8, o9, o10, o11, o12, o13, none, none, none, none, none] ∧ Keep [] H6 H') ⟨_, _, _, _, _, _, _, _, _, rfl, Keep.refl _ _⟩ (fun i σ H' _ ⟨_, _, _, _, _, _, _, _, _, _, kk⟩ => SqT.of (kk _ _ htp (by simp))) ?_ ?_⟩
    · rintro i x σ H7 hx ⟨o5, o6, o7, o8, o9, o10, o11, o12, o13, rfl, k7⟩
      obtain ⟨pl, rfl, hp⟩ : ∃ pl : Nat, x = .int (pl : Nat) ∧ (pl = 1 ∨ pl = 2) := by
        match i, hx with
        | 0, hx => exact ⟨1, (Option.some.inj hx).symm, .inl rfl⟩
        | 1, hx => exact ⟨2, (Option.some.inj hx).symm, .inr rfl⟩
      have k57 := ktp.trans k7
      have htv7 := htv5.ki (KI.of k57)
      have hS7 := hS5.keep k57
      have hf7 := hfv.tk k57.tk
      refine ⟨_, rfl, _, rfl, l, S, pl, rfl, hS7, hok, fun dl dxs H8 ndl hdl hdt K8 => ?_⟩
      refine And.intro (by show 0 ≤ sizeLine; decide) <| fun rl nrl => ?_
      have hR := met_sz S pl
      have hRl := met_len S pl
      have hRok := met_ok S pl
      have hcm := tree_met hs (pl := pl) (by omega)
      generalize hRR : met S pl = R at *
      have hdl' := hdt.length
      rw [List.length_map] at hdl'
      have hR400 : R.length ≤ 400 := by
        have : prodS S * S.length ≤ 48 * 4 := Nat.mul_le_mul hpr h4
        omega
      have hR1000 : ∀ r ∈ R, r.2 ≤ 1000 := fun r hr => by
        obtain ⟨jj, hjj⟩ := hR r hr
        have := (stg_ok hok jj).sz1
        omega
      have hR0 : ∀ r ∈ R, 0 ≤ r.2 ∧ r.2 ≤ 1000 := fun r hr => ⟨by
        obtain ⟨jj, hjj⟩ := hR r hr
        omega, hR1000 r hr⟩
      refine ⟨_, rfl, dl, rfl, ⟨_, SqL.of (Keep.new (W := []) nrl _ _ hdl (by simp))⟩, for_list (K := K) (a := dl) (xs := dxs) (fun j σ H' => ∃ rxs o8 o9, σ = [some (.ref a), some (.ref l), some (.ref D), some tv, some (.ref t3), some (.int pl), some (.ref dl), some (.ref rl), o8, o9, o10, o11, o12, o13, none, none, none, none, none] ∧ H' rl = some (.lst rxs) ∧ TDs H' rxs ((rowsOf (R.take j)).map dRow) ∧ Keep [] H8 H') ⟨[], _, _, rfl, upd_same, .nil, Keep.new nrl⟩ (fun j σ H' _ ⟨_, _, _, _, _, _, kk⟩ => SqL.of (kk _ _ hdl (by simp))) ?_ ?_⟩
      · rintro j v σ H9 hv ⟨rxs, o8, o9, rfl, hrl, hrt, k9⟩
        have hj := (List.getElem?_eq_some_iff.mp hv).1
        have hjR : j < R.length := by omega
        obtain ⟨v', hv', hvd⟩ := hdt.get (i := j) (d := dRow R[j]) (by rw [List.getElem?_map, List.getElem?_eq_getElem hjR]; rfl)
        rw [hv] at hv'
        cases hv'
        have hvd9 := hvd.tk k9.tk
        obtain ⟨tt, es, rfl, htt, hes⟩ := td_view hvd9
        cases hes with
        | @cons v0 _ _ _ h0 hr =>
          cases hr with
          | cons h1 hr2 =>
            cases hr2
            cases h1
            obtain ⟨jj, hjj⟩ := hR R[j] (List.getElem_mem hjR)
            have hsz1 := (stg_ok hok jj).sz1
            have hrl0 := rowsOf_len hR1000 j (by omega)
            have et : rowsOf (R.take (j + 1)) = rowsOf (R.take j) ++ (List.range R[j].2.toNat).map fun (k : Nat) => (R[j].1, (k : Int)) := by
              rw [List.take_succ_eq_append_getElem hjR]
              unfold rowsOf
              rw [List.flatMap_append]
              simp
            refine ⟨_, rfl, _, _, _, _, rfl, rfl, SqT.of htt, rfl, _, rfl, by omega, by omega, for_range (lo := 0) (n := R[j].2.toNat) (fun m σ H' => ∃ rxs o9, σ = [some (.ref a), some (.ref l), some (.ref D), some tv, some (.ref t3), some (.int pl), some (.ref dl), some (.ref rl), some (.ref tt), o9, o10, o11, o12, o13, none, none, none, none, none] ∧ H' rl = some (.lst rxs) ∧ TDs H' rxs ((rowsOf (R.take j) ++ (List.range m).map fun (k : Nat) => (R[j].1, (k : Int))).map dRow) ∧ Keep [] H8 H' ∧ (∀ b ys, H9 b = some (.tup ys) → H' b = some (.tup ys))) ⟨rxs, _, rfl, hrl, by rw [List.range_zero, List.map_nil, List.append_nil]; exact hrt, k9, fun _ _ h => h⟩ ?_ ?_⟩
            · rintro m σ H10 hm ⟨rxs2, o9', rfl, hrl2, hrt2, k10, kt⟩
              have e0 : (0 : Int) + (m : Int) = (m : Int) := by omega
              rw [e0]
              have hrl3 := hrt2.length
              rw [List.length_map, List.length_append, List.length_map, List.length_range] at hrl3
              refine ⟨_, rfl, .inl ⟨rfl, _, SqL.of hrl2⟩, _, rfl, _, _, _, _, rfl, rfl, SqT.of (kt _ _ htt), rfl, _, rfl, And.intro (by show 2 ≤ sizeLine; decide) <| fun q nq => ?_⟩
              have kq := Keep.new (W := []) (o := .tup [v0, .int (m : Nat)]) nq
              have hrq := kq _ _ hrl2 (by simp)
              have tkq := kq.tk.trans (TK.lst (o := .lst (rxs2 ++ [.ref q])) hrq)
              refine ⟨_, _, _, rfl, rfl, hrq, smallL (by omega), rxs2 ++ [.ref q], _, rfl, upd_same, ?_, (k10.trans kq).then_own nrl, fun b ys hb => tkq _ _ (kt b ys hb)⟩
              have er : rowsOf (R.take j) ++ (List.range (m + 1)).map (fun (k : Nat) => (R[j].1, (k : Int))) = (rowsOf (R.take j) ++ (List.range m).map fun (k : Nat) => (R[j].1, (k : Int))) ++ [(R[j].1, (m : Int))] := by
                rw [List.range_succ]; simp
              rw [er, List.map_append]
              refine (hrt2.tk tkq).snoc (.tup (xs := [v0, .int (m : Nat)]) ?_ (.cons ((h0.tk kt).tk tkq) (.cons (.int _) .nil)))
              rw [upd_ne (ne_of_none hrl2 nq).symm]; exact upd_same
            · rintro σ H10 ⟨rxs2, o9', rfl, hrl2, hrt2, k10, kt⟩
              rw [← et] at hrt2
              exact ⟨rxs2, _, _, rfl, hrl2, hrt2, k10⟩
      · rintro σ H9 ⟨rxs, o8, o9, rfl, hrl, hrt, k9⟩
        rw [hdl', List.take_length] at hrt
        have hrl0 := rowsOf_len hR1000 R.length (Nat.le_refl _)
        rw [List.take_length] at hrl0
        have hrow_ok := rowsOf_ok hRok
        refine And.intro (by show 0 ≤ sizeLine; decide) <| fun el nel => ?_
        have kel := Keep.new (W := []) (o := .lst []) nel
        have hel : upd H9 el (.lst []) el = some (.lst []) := upd_same
        generalize upd H9 el (.lst []) = H10 at *
        have hrl10 := kel _ _ hrl (by simp)
        have hrt10 := hrt.tk kel.tk
        have k710 := (K8.trans k9).trans kel
        have hdl10 := (k9.trans kel) _ _ hdl (by simp)
        have hdt10 := hdt.tk (k9.trans kel).tk
        refine ⟨2, rfl, by decide, by decide, ?_⟩
        refine for_range (lo := 0) (n := 2) (fun j σ H' => ∃ (e1 : Addr) (exs : List V) (o11 o12 o13 : Option V), σ = [some (.ref a), some (.ref l), some (.ref D), some tv, some (.ref t3), some (.int pl), some (.ref dl), some (.ref rl), o8, o9, some (.ref e1), o11, o12, o13, none, none, none, none, none] ∧ H' e1 = some (.lst exs) ∧ exs.length ≤ 2 ∧ (∀ v ∈ exs, ∃ t ys s, v = .ref t ∧ H' t = some (.lst (ys ++ [.ref s])) ∧ H' s = some (.tup [.str "spoilt", .int 0])) ∧ Keep [] H10 H') ⟨el, [], _, _, _, rfl, hel, by simp, (fun v h => by cases h), Keep.refl _ _⟩ ?_ ?_
        · rintro j σ H11 hj ⟨e1, exs, o11, o12', o13', rfl, he1, hex2, hex, k11⟩
          have k711 := k710.trans k11
          refine ⟨_, rfl, _, rfl, tv, _, pl, rfl, htv7.ki (KI.of k711), by omega, by omega, fun al axs H12 nal hal hat K12 => ?_⟩
          rw [hcm] at hat
          have k712 := k711.trans K12
          refine ⟨_, rfl, _, rfl, tv, _, pl, rfl, htv7.ki (KI.of k712), by omega, by omega, by rw [hcm]; exact hR0, fun tl0 txs H13 ntl htl htt K13 => ?_⟩
          rw [hcm] at htt
          have k1013 := (k11.trans K12).trans K13
          have hal13 := K13 _ _ hal (by simp)
          have hat13 := hat.tk K13.tk
          refine ⟨_, rfl, _, rfl, al, dl, axs, dxs, R, rfl, hal13, hat13, k1013 _ _ hdl10 (by simp), hdt10.tk k1013.tk, hRok, by omega, fun H14 K14 => ⟨_, rfl, iteF ?_⟩⟩
          have k1014 := k1013.trans K14
          refine ⟨_, rfl, _, rfl, tl0, rl, txs, rxs, rowsOf R, rfl, K14 _ _ htl (by simp), htt.tk K14.tk, k1014 _ _ hrl10 (by simp), hrt10.tk k1014.tk, hrow_ok, by omega, fun H15 K15 => ⟨_, rfl, iteF ?_⟩⟩
          have k1115 := ((K12.trans K13).trans K14).trans K15
          have he15 := k1115 _ _ he1 (by simp)
          have hL : exs.length = 0 ∨ exs.length = 1 ∨ exs.length = 2 := by omega
          refine ⟨_, rfl, e1, rfl, ⟨_, SqL.of he15⟩, fun D2 nD2 => ?_⟩
          refine lc_list (K := K) (a := e1) (xs := exs) (fun i H' => H' D2 = some (.lst (List.replicate i (.bl true))) ∧ Keep [] H15 H') ⟨upd_same, Keep.new nD2⟩ (fun i H' _ ⟨_, kk⟩ => SqL.of (kk _ _ he15 (by simp))) ?_ ?_
          · rintro i x H16 hx ⟨hD2, kk⟩
            obtain ⟨t, ys, s0, rfl, ht, hs0⟩ := hex x (List.mem_of_getElem? hx)
            have ht16 := (k1115.trans kk) _ _ ht (by simp)
            have hs16 := (k1115.trans kk) _ _ hs0 (by simp)
            refine ⟨rfl, yes_then ⟨_, rfl, _, rfl, _, _, _, _, rfl, rfl, SqL.of ht16, atI_last, And.intro (by show 2 ≤ sizeLine; decide) <| fun q nq => ?_⟩⟩
            have kq := Keep.new (W := []) (o := .tup [.str "spoilt", .int 0]) nq
            have td : ∀ {H : Hp} {u : Addr}, H u = some (.tup [.str "spoilt", .int 0]) → TD H (.ref u) dSp := fun h => .tup h (.cons (.str _) (.cons (.int _) .nil))
            refine ⟨dSp, dSp, (td (kq _ _ hs16 (by simp))).dp, (td upd_same).dp, sp_shaped, sp_shaped, ?_⟩
            rw [sp_eqv]
            have hi := (List.getElem?_eq_some_iff.mp hx).1
            refine ⟨_, kq _ _ hD2 (by simp), smallL (by rw [List.length_replicate]; omega), ?_, (kk.trans kq).then_own nD2⟩
            rw [← List.replicate_succ']; exact upd_same
          · rintro H16 ⟨hD2, k16⟩
            have hin : ∀ n : Nat, (n = 0 ∨ n = 1 ∨ n = 2) → (if false = true then !inV (V.bl false) (List.replicate n (V.bl true)) else inV (V.bl false) (List.replicate n (V.bl true))) = false ∧ (List.replicate n (V.bl true)).all flatV = true := by
              rintro n (rfl | rfl | rfl) <;> exact ⟨rfl, rfl⟩
            obtain ⟨hin1, hin2⟩ := hin exs.length hL
            refine ⟨D2, _, rfl, .inl (SqL.of hD2), rfl, hin2, _, rfl, ?_⟩
            rw [hin1]
            refine iteF ?_
            have k1116 := k1115.trans k16
            have hal16 := (((K13.trans K14).trans K15).trans k16) _ _ hal (by simp)
            have htl16 := ((K14.trans K15).trans k16) _ _ htl (by simp)
            have hatl := hat.length
            have httl := htt.length
            rw [List.length_map] at hatl httl
            have nal_tl : al ≠ tl0 := ne_of_none hal ntl
            have nal11 : H11 al = none := nal
            have ntl11 : H11 tl0 = none := K12.free ntl
            refine ⟨_, rfl, .inl ⟨rfl, _, SqL.of hal16⟩, And.intro (by show 2 ≤ sizeLine; decide) <| fun s1 ns1 => ?_⟩
            have ks1 := Keep.new (W := []) (o := .tup [.str "spoilt", .int 0]) ns1
            have hs1 : upd H16 s1 (.tup [.str "spoilt", .int 0]) s1 = some (.tup [.str "spoilt", .int 0]) := upd_same
            generalize upd H16 s1 (.tup [.str "spoilt", .int 0]) = H17 at *
            refine ⟨_, _, _, rfl, rfl, ks1 _ _ hal16 (by simp), smallL (by omega), ?_⟩
            have k1018 := (((k11.trans k1116).trans ks1).then_own (o := .lst (axs ++ [.ref s1])) (k11.free nal11))
            have hal18 : upd H17 al (.lst (axs ++ [.ref s1])) al = some (.lst (axs ++ [.ref s1])) := upd_same
            have htl18 : upd H17 al (.lst (axs ++ [.ref s1])) tl0 = some (.lst txs) := by rw [upd_ne nal_tl.symm]; exact ks1 _ _ htl16 (by simp)
            have hs18 : upd H17 al (.lst (axs ++ [.ref s1])) s1 = some (.tup [.str "spoilt", .int 0]) := by rw [upd_ne (ne_of_none hal16 ns1).symm]; exact hs1
            have hs1tl : s1 ≠ tl0 := (ne_of_none htl16 ns1).symm
            generalize upd H17 al (.lst (axs ++ [.ref s1])) = H18 at *
            refine ⟨_, rfl, .inl ⟨rfl, _, SqL.of htl18⟩, And.intro (by show 2 ≤ sizeLine; decide) <| fun s2 ns2 => ?_⟩
            have ks2 := Keep.new (W := []) (o := .tup [.str "spoilt", .int 0]) ns2
            have hs2 : upd H18 s2 (.tup [.str "spoilt", .int 0]) s2 = some (.tup [.str "spoilt", .int 0]) := upd_same
            generalize upd H18 s2 (.tup [.str "spoilt", .int 0]) = H19 at *
            have htl19 := ks2 _ _ htl18 (by simp)
            have hal19 := ks2 _ _ hal18 (by simp)
            have hs19 := ks2 _ _ hs18 (by simp)
            have hs2tl : s2 ≠ tl0 := (ne_of_none htl18 ns2).symm
            refine ⟨_, _, _, rfl, rfl, htl19, smallL (by omega), ?_⟩
            have k1020 := (k1018.trans ks2).then_own (o := .lst (txs ++ [.ref s2])) (k11.free ntl11)
            have htl20 : upd H19 tl0 (.lst (txs ++ [.ref s2])) tl0 = some (.lst (txs ++ [.ref s2])) := upd_same
            have hal20 : upd H19 tl0 (.lst (txs ++ [.ref s2])) al = some (.lst (axs ++ [.ref s1])) := by rw [upd_ne nal_tl]; exact hal19
            have hs20 : upd H19 tl0 (.lst (txs ++ [.ref s2])) s1 = some (.tup [.str "spoilt", .int 0]) := by rw [upd_ne hs1tl]; exact hs19
            have hs21 : upd H19 tl0 (.lst (txs ++ [.ref s2])) s2 = some (.tup [.str "spoilt", .int 0]) := by rw [upd_ne hs2tl]; exact hs2
            generalize upd H19 tl0 (.lst (txs ++ [.ref s2])) = H20 at *
            refine ⟨_, rfl, _, rfl, And.intro (by show 2 ≤ sizeLine; decide) <| fun e2 ne2 => ?_⟩
            have ke2 := Keep.new (W := []) (o := .lst [.ref al, .ref tl0]) ne2
            refine ⟨e2, [.ref al, .ref tl0], _, _, _, rfl, upd_same, by simp, fun v hv => ?_, k1020.trans ke2⟩
            rcases List.mem_cons.mp hv with rfl | hv
            · exact ⟨al, axs, s1, rfl, ke2 _ _ hal20 (by simp), ke2 _ _ hs20 (by simp)⟩
            · rw [List.mem_singleton.mp hv]
              exact ⟨tl0, txs, s2, rfl, ke2 _ _ htl20 (by simp), ke2 _ _ hs21 (by simp)⟩
        · rintro σ H11 ⟨e1, exs, o11, o12', o13', rfl, he1, hex2, hex, k11⟩
          have k711 := k710.trans k11
          have htv11 := htv7.ki (KI.of k711)
          refine ⟨_, rfl, _, rfl, _, rfl, And.intro (by show 1 ≤ sizeLine; decide) <| fun p1 np1 => ?_⟩
          have kp1 := Keep.new (W := []) (o := .tup [tv]) np1
          have hp1 : upd H11 p1 (.tup [tv]) p1 = some (.tup [tv]) := upd_same
          generalize upd H11 p1 (.tup [tv]) = H12 at *
          refine fun x dx nx ndx ne => ⟨x, dx, _, _, _, rfl, upd_same, rfl, ?_⟩
          rw [upd_upd]
          have km := Keep.made (o := .ins C_Turn dx [("player", .int (pl : Nat)), ("view", .ref t3), ("parts", .ref p1)]) nx ndx
          have hx : upd (upd H12 dx (.own x)) x (.ins C_Turn dx [("player", .int (pl : Nat)), ("view", .ref t3), ("parts", .ref p1)]) x = some (.ins C_Turn dx [("player", .int (pl : Nat)), ("view", .ref t3), ("parts", .ref p1)]) := upd_same
          generalize upd (upd H12 dx (.own x)) x (.ins C_Turn dx [("player", .int (pl : Nat)), ("view", .ref t3), ("parts", .ref p1)]) = H13 at *
          have k1113 := kp1.trans km
          have k713 := k711.trans k1113
          have hTT : TA C_End C_Lot C_Turn H13 (.turn pl firstV [treeM S none S.length []]) (.ref x) := ⟨x, dx, .ref t3, p1, [tv], rfl, hx, hf7.tk k713.tk, km _ _ hp1 (by simp), tv, [], rfl, htv7.ki (KI.of k713), rfl⟩
          refine ⟨.ref x, .turn pl firstV [treeM S none S.length []], rfl, hTT, ?_, ?_, ?_, fun H14 K14 => ?_⟩
          · show Nat.max (treeM S none S.length []).hgt 0 + 1 < 6
            have : Nat.max (treeM S none S.length []).hgt 0 ≤ 4 := Nat.max_le.mpr ⟨by omega, by omega⟩
            omega
          · show (treeM S none S.length []).nds + 0 + 1 ≤ 1000
            omega
          · refine ⟨hp, by show 2 ≤ 1000; decide, fun e he => ?_, fun e he hd => ?_, hokM, trivial⟩
            · rcases List.mem_cons.mp he with rfl | he
              · exact ok_round _
              · rw [List.mem_singleton.mp he]; exact ok_move _
            · rcases List.mem_cons.mp he with rfl | he
              · simp
              · rw [List.mem_singleton.mp he]; simp
          · rw [tree_under hs h3 hp, hRR]
            have k714 := k713.trans K14
            have hdl14 := (((k11.trans k1113).trans K14)) _ _ hdl10 (by simp)
            refine ⟨_, rfl, dl, dxs, rfl, .inl (SqL.of hdl14), rfl, decide (R.length = 0), ?_, _, rfl, iteF ?_⟩
            · rw [dec_len, hdl']; rfl
            have hS14 := (ktp.trans (k7.trans k714)).seqL hS0 (by simp)
            generalize hcc : ns.getD 2 0 = c2
            refine ⟨_, rfl, _, rfl, a, ns, 2, rfl, hS14, pl, ns.getD 2 0, rfl, fun jv H15 hj K15 => ?_⟩
            refine ⟨jv, joinM pl (ns.getD 2 0), rfl, hj, join_hgt _ _, join_nds _ _, join_ok hp _, fun H16 K16 => ?_⟩
            rw [keeps_joined hp]
            refine ⟨_, rfl, a, ns, 2, rfl, (K15.trans K16).seqL hS14 (by simp), .inl ⟨_, rfl, _, _, rfl, rfl, by show (0 : Int) < 3; decide, rfl, decide (ns.getD 2 0 % 3 = 0), ?_, _, rfl, iteF ?_⟩⟩
            · rw [dec_int]; rfl
            exact ⟨_, _, _, _, _, _, _, _, _, rfl, k7.trans ((k714.trans K15).trans K16)⟩
    · rintro σ H7 ⟨o5, o6, o7, o8, o9, o10, o11, o12, o13, rfl, k7⟩
      have k57 := ktp.trans k7
      have hS7 := hS5.keep k57
      have hS70 := k57.seqL hS0 (by simp)
      obtain ⟨vs, hvs, hSL⟩ := id hS7
      have hlS := hSL.len
      refine ⟨fun σ H' => ∃ o6 o14 o15, σ = [some (.ref a), some (.ref l), some (.ref D), some tv, some (.ref t3), o5, o6, o7, o8, o9, o10, o11, o12, o13, o14, o15, none, none, none] ∧ Keep [] H7 H', ?_, ?_⟩
      · refine ⟨_, rfl, _, _, rfl, .inl (SqL.of hvs), _, _, rfl, rfl, _, rfl, iteD (fun hpos => ?_) (fun hz => ?_)⟩
        · have hpos' : (0 : Int) < (vs.length : Int) := hpos
          obtain ⟨at_, hat, hatl⟩ : ∃ at_ : Nat, ns.getD 1 0 % (vs.length : Int) = (at_ : Nat) ∧ at_ < S.length := by
            have h1 := Int.emod_nonneg (ns.getD 1 0) (show (vs.length : Int) ≠ 0 by omega)
            have h2 := Int.emod_lt_of_pos (ns.getD 1 0) hpos'
            exact ⟨(ns.getD 1 0 % (vs.length : Int)).toNat, by omega, by omega⟩
          obtain ⟨ta, hta1, hta0⟩ := hSL.get hatl
          refine ⟨_, rfl, a, ns, 1, rfl, hS70, .inl ⟨_, rfl, _, rfl, _, _, rfl, .inl (SqL.of hvs), _, _, rfl, rfl, hpos', ?_⟩⟩
          show tSeq _ _ _ ([some (.ref a), some (.ref l), some (.ref D), some tv, some (.ref t3), o5, o6, o7, o8, o9, o10, o11, o12, o13, some (.int (ns.getD 1 0 % (vs.length : Int))), none, none, none, none]) H7
          rw [hat]
          refine ⟨_, rfl, _, rfl, _, _, rfl, rfl, _, rfl, _, _, rfl, SqL.of hvs, fun q nq => ?_⟩
          rw [show ((at_ : Int) + 1) = ((at_ + 1 : Nat) : Int) by omega, cut_from (by omega)]
          have kq := Keep.new (W := []) (o := .lst (vs.drop (at_ + 1))) nq
          have hq : upd H7 q (.lst (vs.drop (at_ + 1))) q = some (.lst (vs.drop (at_ + 1))) := upd_same
          generalize upd H7 q (.lst (vs.drop (at_ + 1))) = H8 at *
          refine ⟨q, rfl, ⟨_, SqL.of hq⟩, fun D3 nD3 => ?_⟩
          refine lc_list (K := K) (a := q) (xs := vs.drop (at_ + 1)) (fun i H' => ∃ acc, H' D3 = some (.lst acc) ∧ acc.length = (((S.drop (at_ + 1)).take i).filter fun s => decide (s.pl = (stg S at_).pl)).length ∧ Keep [] H8 H') ⟨[], upd_same, rfl, Keep.new nD3⟩ (fun i H' _ ⟨_, _, _, kk⟩ => SqL.of (kk _ _ hq (by simp))) ?_ ?_
          · rintro i x H9 hx ⟨acc, hacc, hal, k9⟩
            rw [List.getElem?_drop] at hx
            have hil : at_ + 1 + i < S.length := by
              have := (List.getElem?_eq_some_iff.mp hx).1
              omega
            obtain ⟨tx, htx1, htx0⟩ := hSL.get hil
            rw [htx1] at hx
            cases hx
            have k79 := kq.trans k9
            have et : (S.drop (at_ + 1)).take (i + 1) = (S.drop (at_ + 1)).take i ++ [stg S (at_ + 1 + i)] := by
              rw [List.take_succ_eq_append_getElem (by rw [List.length_drop]; omega), List.getElem_drop]
              congr 2
              unfold stg
              rw [List.getD_eq_getElem?_getD, List.getElem?_eq_getElem hil]; rfl
            rw [et, List.filter_append, List.length_append]
            have hacl : acc.length ≤ 1000000 := by
              have := List.length_filter_le (fun s : Stg => decide (s.pl = (stg S at_).pl)) ((S.drop (at_ + 1)).take i)
              rw [List.length_take, List.length_drop] at this
              omega
            refine ⟨rfl, _, rfl, _, _, _, _, rfl, rfl, SqT.of (k79 _ _ htx0 (by simp)), rfl, _, rfl, _, rfl, _, _, _, _, rfl, rfl, SqL.of (k79 _ _ hvs (by simp)), atI_nat hta1, _, _, _, _, rfl, rfl, SqT.of (k79 _ _ hta0 (by simp)), rfl, rfl, _, rfl, iteD (fun e => ?_) (fun e => ?_)⟩
            · have e1 : (stg S (at_ + 1 + i)).pl = (stg S at_).pl := by have := V.int.inj e; omega
              refine ⟨_, rfl, acc, hacc, smallL hacl, acc ++ [.ref tx], upd_same, ?_, k9.then_own nD3⟩
              rw [List.length_append, hal]
              simp [e1]
            · have e1 : ¬ (stg S (at_ + 1 + i)).pl = (stg S at_).pl := fun z => e (by rw [z])
              refine ⟨acc, hacc, ?_, k9⟩
              rw [hal]
              simp [e1]
          rintro H9 ⟨acc, hacc, hal, k9⟩
          rw [List.length_drop, hlS, show S.length - (at_ + 1) = (S.drop (at_ + 1)).length by rw [List.length_drop], List.take_length] at hal
          have hal' : acc.length = laterN S at_ := hal
          have k79 := kq.trans k9
          refine ⟨_, _, rfl, .inl (SqL.of hacc), ?_⟩
          have hvs9 := k79 _ _ hvs (by simp)
          have hta9 := k79 _ _ hta0 (by simp)
          refine ⟨fun σ H' => σ = [some (.ref a), some (.ref l), some (.ref D), some tv, some (.ref t3), o5, some (.bl (decide ((stg S at_).pl = 0 ∨ (stg S at_).sz = 1 ∨ laterN S at_ = 0))), o7, o8, o9, o10, o11, o12, o13, some (.int (at_ : Nat)), some (.int (acc.length : Nat)), none, none, none] ∧ H' = H9, ?_, ?_⟩
          · refine ⟨_, rfl, _, rfl, _, _, _, _, rfl, rfl, SqL.of hvs9, atI_nat hta1, _, _, _, _, rfl, rfl, SqT.of hta9, rfl, rfl, _, rfl, iteD (fun e => ?_) (fun e => ?_)⟩
            · have e1 : (stg S at_).pl = 0 := by have := V.int.inj e; omega
              rw [decide_eq_true (.inl e1)]
              exact ⟨rfl, rfl⟩
            have n1 : ¬ (stg S at_).pl = 0 := fun z => e (by rw [z]; rfl)
            refine ⟨_, rfl, _, rfl, _, _, _, _, rfl, rfl, SqL.of hvs9, atI_nat hta1, _, _, _, _, rfl, rfl, SqT.of hta9, rfl, rfl, _, rfl, iteD (fun e => ?_) (fun e => ?_)⟩
            · have e1 : (stg S at_).sz = 1 := by have := V.int.inj e; omega
              rw [decide_eq_true (.inr (.inl e1))]
              exact ⟨rfl, rfl⟩
            have n2 : ¬ (stg S at_).sz = 1 := fun z => e (by rw [z]; rfl)
            refine ⟨_, rfl, rfl, ?_⟩
            rw [dec_len, hal']
            have : decide (laterN S at_ = 0) = decide ((stg S at_).pl = 0 ∨ (stg S at_).sz = 1 ∨ laterN S at_ = 0) := by
              congr 1
              simp [n1, n2]
            rw [this]
            exact ⟨by rw [← hal']; rfl, rfl⟩
          · rintro σ H10 ⟨rfl, rfl⟩
            have hnd2 := tree_small hok (some at_)
            have hgt2 := tree_hgt S (some at_) S.length []
            refine ⟨_, rfl, And.intro (by show 0 ≤ sizeLine; decide) <| fun e1 ne1 => ?_⟩
            have ke1 := Keep.new (W := []) (o := .lst []) ne1
            refine ⟨_, rfl, l, e1, S, [], at_, rfl, hS7.keep (k79.trans ke1), hok, upd_same, VP_nil S, by show S.length < 0 + 5; omega, fun v H11 hv K11 => ?_⟩
            refine ⟨v, treeM S (some at_) S.length [], rfl, hv, by omega, by omega, tree_ok hok (some at_) S.length [] (Nat.zero_add _), fun H12 K12 => ?_⟩
            rw [tree_turned hs h3 at_ hatl]
            exact ⟨_, rfl, _, rfl, _, rfl, iteF ⟨_, _, _, rfl, ((k79.trans ke1).trans K11).trans K12⟩⟩
        · exact ⟨_, _, _, rfl, Keep.refl _ _⟩
      · rintro σ H8 ⟨o6', o14, o15, rfl, k8⟩
        refine ⟨_, rfl, tv, treeM S none S.length [], rfl, htv5.ki (KI.of (k57.trans k8)), by omega, by omega, hokM, fun H9 K9 => ?_⟩
        rw [tree_keeps h3]
        exact ⟨true, rfl, k _⟩
end

theorem all_mk {l : PySem.W.OpenLaw} {w : World} {K : PySem.W.Frag} {h : Heap} {mg : Str → Option Value} {fa : Addr} (X : K.In h) (G : h.Ns mainGlobals mg) (hfa : mg "law" = some (.ref fa))
    {f_collect : Addr} {od_collect an_collect : Option Addr} {sl_collect : Array (Option Value)} {oc_collect kV_collect dc_collect pm_collect cd_collect ct_collect : Value}
    {f_views_of : Addr} {od_views_of an_views_of : Option Addr} {sl_views_of : Array (Option Value)} {oc_views_of kV_views_of dc_views_of pm_views_of cd_views_of ct_views_of : Value}
    {f_rows_of : Addr} {od_rows_of an_rows_of : Option Addr} {sl_rows_of : Array (Option Value)} {oc_rows_of kV_rows_of dc_rows_of pm_rows_of cd_rows_of ct_rows_of : Value}
    {f_last_row : Addr} {od_last_row an_last_row : Option Addr} {sl_last_row : Array (Option Value)} {oc_last_row kV_last_row dc_last_row pm_last_row cd_last_row ct_last_row : Value}
    {f_keeps : Addr} {od_keeps an_keeps : Option Addr} {sl_keeps : Array (Option Value)} {oc_keeps kV_keeps dc_keeps pm_keeps cd_keeps ct_keeps : Value}
    {f_remembers : Addr} {od_remembers an_remembers : Option Addr} {sl_remembers : Array (Option Value)} {oc_remembers kV_remembers dc_remembers pm_remembers cd_remembers ct_remembers : Value}
    {f_law_cell : Addr} {od_law_cell an_law_cell : Option Addr} {sl_law_cell : Array (Option Value)} {oc_law_cell kV_law_cell dc_law_cell pm_law_cell cd_law_cell ct_law_cell : Value}
    {f_law_is_integer : Addr} {od_law_is_integer an_law_is_integer : Option Addr} {sl_law_is_integer : Array (Option Value)} {oc_law_is_integer kV_law_is_integer dc_law_is_integer pm_law_is_integer cd_law_is_integer ct_law_is_integer : Value}
    {f_law_row : Addr} {od_law_row an_law_row : Option Addr} {sl_law_row : Array (Option Value)} {oc_law_row kV_law_row dc_law_row pm_law_row cd_law_row ct_law_row : Value}
    {f_law_stages : Addr} {od_law_stages an_law_stages : Option Addr} {sl_law_stages : Array (Option Value)} {oc_law_stages kV_law_stages dc_law_stages pm_law_stages cd_law_stages ct_law_stages : Value}
    {f_law_paths : Addr} {od_law_paths an_law_paths : Option Addr} {sl_law_paths : Array (Option Value)} {oc_law_paths kV_law_paths dc_law_paths pm_law_paths cd_law_paths ct_law_paths : Value}
    {f_law_view : Addr} {od_law_view an_law_view : Option Addr} {sl_law_view : Array (Option Value)} {oc_law_view kV_law_view dc_law_view pm_law_view cd_law_view ct_law_view : Value}
    {f_law_asked : Addr} {od_law_asked an_law_asked : Option Addr} {sl_law_asked : Array (Option Value)} {oc_law_asked kV_law_asked dc_law_asked pm_law_asked cd_law_asked ct_law_asked : Value}
    {f_law_met : Addr} {od_law_met an_law_met : Option Addr} {sl_law_met : Array (Option Value)} {oc_law_met kV_law_met dc_law_met pm_law_met cd_law_met ct_law_met : Value}
    {f_law_node : Addr} {od_law_node an_law_node : Option Addr} {sl_law_node : Array (Option Value)} {oc_law_node kV_law_node dc_law_node pm_law_node cd_law_node ct_law_node : Value}
    {f_law_are_pairs : Addr} {od_law_are_pairs an_law_are_pairs : Option Addr} {sl_law_are_pairs : Array (Option Value)} {oc_law_are_pairs kV_law_are_pairs dc_law_are_pairs pm_law_are_pairs cd_law_are_pairs ct_law_are_pairs : Value}
    {f_law_is : Addr} {od_law_is an_law_is : Option Addr} {sl_law_is : Array (Option Value)} {oc_law_is kV_law_is dc_law_is pm_law_is cd_law_is ct_law_is : Value}
    {f_law_turned : Addr} {od_law_turned an_law_turned : Option Addr} {sl_law_turned : Array (Option Value)} {oc_law_turned kV_law_turned dc_law_turned pm_law_turned cd_law_turned ct_law_turned : Value}
    {f_law_joined : Addr} {od_law_joined an_law_joined : Option Addr} {sl_law_joined : Array (Option Value)} {oc_law_joined kV_law_joined dc_law_joined pm_law_joined cd_law_joined ct_law_joined : Value}
    {f_law : Addr} {od_law an_law : Option Addr} {sl_law : Array (Option Value)} {oc_law kV_law dc_law pm_law cd_law ct_law : Value}
    {C_End : Addr}
    {C_Lot : Addr}
    {C_Turn : Addr}
    {f_End___init : Addr} {od_End___init an_End___init : Option Addr} {sl_End___init : Array (Option Value)} {oc_End___init kV_End___init dc_End___init pm_End___init cd_End___init ct_End___init : Value}
    {f_Lot___init : Addr} {od_Lot___init an_Lot___init : Option Addr} {sl_Lot___init : Array (Option Value)} {oc_Lot___init kV_Lot___init dc_Lot___init pm_Lot___init cd_Lot___init ct_Lot___init : Value}
    {f_Turn___init : Addr} {od_Turn___init an_Turn___init : Option Addr} {sl_Turn___init : Array (Option Value)} {oc_Turn___init kV_Turn___init dc_Turn___init pm_Turn___init cd_Turn___init ct_Turn___init : Value}
    (a_collect : PySem.W.nsIn K mainGlobals "_collect" = some (some (.ref f_collect))) (l_collect : K.lookup f_collect = some ⟨oc_collect, od_collect, .func (PySem.W.fnOf "_collect" "_collect" (fnArgs s_collect) (fnBody s_collect) (fnScope s_collect) .none kV_collect dc_collect pm_collect an_collect cd_collect ct_collect), sl_collect⟩) (c_collect : PySem.W.codeIn K cd_collect "_collect" = true) (k_collect : PySem.W.keepIn K (.ref f_collect) = true)
    (a_views_of : PySem.W.nsIn K mainGlobals "views_of" = some (some (.ref f_views_of))) (l_views_of : K.lookup f_views_of = some ⟨oc_views_of, od_views_of, .func (PySem.W.fnOf "views_of" "views_of" (fnArgs s_views_of) (fnBody s_views_of) (fnScope s_views_of) .none kV_views_of dc_views_of pm_views_of an_views_of cd_views_of ct_views_of), sl_views_of⟩) (c_views_of : PySem.W.codeIn K cd_views_of "views_of" = true) (k_views_of : PySem.W.keepIn K (.ref f_views_of) = true)
    (a_rows_of : PySem.W.nsIn K mainGlobals "rows_of" = some (some (.ref f_rows_of))) (l_rows_of : K.lookup f_rows_of = some ⟨oc_rows_of, od_rows_of, .func (PySem.W.fnOf "rows_of" "rows_of" (fnArgs s_rows_of) (fnBody s_rows_of) (fnScope s_rows_of) .none kV_rows_of dc_rows_of pm_rows_of an_rows_of cd_rows_of ct_rows_of), sl_rows_of⟩) (c_rows_of : PySem.W.codeIn K cd_rows_of "rows_of" = true) (k_rows_of : PySem.W.keepIn K (.ref f_rows_of) = true)
    (a_last_row : PySem.W.nsIn K mainGlobals "last_row" = some (some (.ref f_last_row))) (l_last_row : K.lookup f_last_row = some ⟨oc_last_row, od_last_row, .func (PySem.W.fnOf "last_row" "last_row" (fnArgs s_last_row) (fnBody s_last_row) (fnScope s_last_row) .none kV_last_row dc_last_row pm_last_row an_last_row cd_last_row ct_last_row), sl_last_row⟩) (c_last_row : PySem.W.codeIn K cd_last_row "last_row" = true) (k_last_row : PySem.W.keepIn K (.ref f_last_row) = true)
    (a_keeps : PySem.W.nsIn K mainGlobals "_keeps" = some (some (.ref f_keeps))) (l_keeps : K.lookup f_keeps = some ⟨oc_keeps, od_keeps, .func (PySem.W.fnOf "_keeps" "_keeps" (fnArgs s_keeps) (fnBody s_keeps) (fnScope s_keeps) .none kV_keeps dc_keeps pm_keeps an_keeps cd_keeps ct_keeps), sl_keeps⟩) (c_keeps : PySem.W.codeIn K cd_keeps "_keeps" = true) (k_keeps : PySem.W.keepIn K (.ref f_keeps) = true)
    (a_remembers : PySem.W.nsIn K mainGlobals "remembers" = some (some (.ref f_remembers))) (l_remembers : K.lookup f_remembers = some ⟨oc_remembers, od_remembers, .func (PySem.W.fnOf "remembers" "remembers" (fnArgs s_remembers) (fnBody s_remembers) (fnScope s_remembers) .none kV_remembers dc_remembers pm_remembers an_remembers cd_remembers ct_remembers), sl_remembers⟩) (c_remembers : PySem.W.codeIn K cd_remembers "remembers" = true) (k_remembers : PySem.W.keepIn K (.ref f_remembers) = true)
    (a_law_cell : PySem.W.nsIn K mainGlobals "_law_cell" = some (some (.ref f_law_cell))) (l_law_cell : K.lookup f_law_cell = some ⟨oc_law_cell, od_law_cell, .func (PySem.W.fnOf "_law_cell" "_law_cell" (fnArgs s_law_cell) (fnBody s_law_cell) (fnScope s_law_cell) .none kV_law_cell dc_law_cell pm_law_cell an_law_cell cd_law_cell ct_law_cell), sl_law_cell⟩) (c_law_cell : PySem.W.codeIn K cd_law_cell "_law_cell" = true) (k_law_cell : PySem.W.keepIn K (.ref f_law_cell) = true)
    (a_law_is_integer : PySem.W.nsIn K mainGlobals "_law_is_integer" = some (some (.ref f_law_is_integer))) (l_law_is_integer : K.lookup f_law_is_integer = some ⟨oc_law_is_integer, od_law_is_integer, .func (PySem.W.fnOf "_law_is_integer" "_law_is_integer" (fnArgs s_law_is_integer) (fnBody s_law_is_integer) (fnScope s_law_is_integer) .none kV_law_is_integer dc_law_is_integer pm_law_is_integer an_law_is_integer cd_law_is_integer ct_law_is_integer), sl_law_is_integer⟩) (c_law_is_integer : PySem.W.codeIn K cd_law_is_integer "_law_is_integer" = true) (k_law_is_integer : PySem.W.keepIn K (.ref f_law_is_integer) = true)
    (a_law_row : PySem.W.nsIn K mainGlobals "_law_row" = some (some (.ref f_law_row))) (l_law_row : K.lookup f_law_row = some ⟨oc_law_row, od_law_row, .func (PySem.W.fnOf "_law_row" "_law_row" (fnArgs s_law_row) (fnBody s_law_row) (fnScope s_law_row) .none kV_law_row dc_law_row pm_law_row an_law_row cd_law_row ct_law_row), sl_law_row⟩) (c_law_row : PySem.W.codeIn K cd_law_row "_law_row" = true) (k_law_row : PySem.W.keepIn K (.ref f_law_row) = true)
    (a_law_stages : PySem.W.nsIn K mainGlobals "_law_stages" = some (some (.ref f_law_stages))) (l_law_stages : K.lookup f_law_stages = some ⟨oc_law_stages, od_law_stages, .func (PySem.W.fnOf "_law_stages" "_law_stages" (fnArgs s_law_stages) (fnBody s_law_stages) (fnScope s_law_stages) .none kV_law_stages dc_law_stages pm_law_stages an_law_stages cd_law_stages ct_law_stages), sl_law_stages⟩) (c_law_stages : PySem.W.codeIn K cd_law_stages "_law_stages" = true) (k_law_stages : PySem.W.keepIn K (.ref f_law_stages) = true)
    (a_law_paths : PySem.W.nsIn K mainGlobals "_law_paths" = some (some (.ref f_law_paths))) (l_law_paths : K.lookup f_law_paths = some ⟨oc_law_paths, od_law_paths, .func (PySem.W.fnOf "_law_paths" "_law_paths" (fnArgs s_law_paths) (fnBody s_law_paths) (fnScope s_law_paths) .none kV_law_paths dc_law_paths pm_law_paths an_law_paths cd_law_paths ct_law_paths), sl_law_paths⟩) (c_law_paths : PySem.W.codeIn K cd_law_paths "_law_paths" = true) (k_law_paths : PySem.W.keepIn K (.ref f_law_paths) = true)
    (a_law_view : PySem.W.nsIn K mainGlobals "_law_view" = some (some (.ref f_law_view))) (l_law_view : K.lookup f_law_view = some ⟨oc_law_view, od_law_view, .func (PySem.W.fnOf "_law_view" "_law_view" (fnArgs s_law_view) (fnBody s_law_view) (fnScope s_law_view) .none kV_law_view dc_law_view pm_law_view an_law_view cd_law_view ct_law_view), sl_law_view⟩) (c_law_view : PySem.W.codeIn K cd_law_view "_law_view" = true) (k_law_view : PySem.W.keepIn K (.ref f_law_view) = true)
    (a_law_asked : PySem.W.nsIn K mainGlobals "_law_asked" = some (some (.ref f_law_asked))) (l_law_asked : K.lookup f_law_asked = some ⟨oc_law_asked, od_law_asked, .func (PySem.W.fnOf "_law_asked" "_law_asked" (fnArgs s_law_asked) (fnBody s_law_asked) (fnScope s_law_asked) .none kV_law_asked dc_law_asked pm_law_asked an_law_asked cd_law_asked ct_law_asked), sl_law_asked⟩) (c_law_asked : PySem.W.codeIn K cd_law_asked "_law_asked" = true) (k_law_asked : PySem.W.keepIn K (.ref f_law_asked) = true)
    (a_law_met : PySem.W.nsIn K mainGlobals "_law_met" = some (some (.ref f_law_met))) (l_law_met : K.lookup f_law_met = some ⟨oc_law_met, od_law_met, .func (PySem.W.fnOf "_law_met" "_law_met" (fnArgs s_law_met) (fnBody s_law_met) (fnScope s_law_met) .none kV_law_met dc_law_met pm_law_met an_law_met cd_law_met ct_law_met), sl_law_met⟩) (c_law_met : PySem.W.codeIn K cd_law_met "_law_met" = true) (k_law_met : PySem.W.keepIn K (.ref f_law_met) = true)
    (a_law_node : PySem.W.nsIn K mainGlobals "_law_node" = some (some (.ref f_law_node))) (l_law_node : K.lookup f_law_node = some ⟨oc_law_node, od_law_node, .func (PySem.W.fnOf "_law_node" "_law_node" (fnArgs s_law_node) (fnBody s_law_node) (fnScope s_law_node) .none kV_law_node dc_law_node pm_law_node an_law_node cd_law_node ct_law_node), sl_law_node⟩) (c_law_node : PySem.W.codeIn K cd_law_node "_law_node" = true) (k_law_node : PySem.W.keepIn K (.ref f_law_node) = true)
    (a_law_are_pairs : PySem.W.nsIn K mainGlobals "_law_are_pairs" = some (some (.ref f_law_are_pairs))) (l_law_are_pairs : K.lookup f_law_are_pairs = some ⟨oc_law_are_pairs, od_law_are_pairs, .func (PySem.W.fnOf "_law_are_pairs" "_law_are_pairs" (fnArgs s_law_are_pairs) (fnBody s_law_are_pairs) (fnScope s_law_are_pairs) .none kV_law_are_pairs dc_law_are_pairs pm_law_are_pairs an_law_are_pairs cd_law_are_pairs ct_law_are_pairs), sl_law_are_pairs⟩) (c_law_are_pairs : PySem.W.codeIn K cd_law_are_pairs "_law_are_pairs" = true) (k_law_are_pairs : PySem.W.keepIn K (.ref f_law_are_pairs) = true)
    (a_law_is : PySem.W.nsIn K mainGlobals "_law_is" = some (some (.ref f_law_is))) (l_law_is : K.lookup f_law_is = some ⟨oc_law_is, od_law_is, .func (PySem.W.fnOf "_law_is" "_law_is" (fnArgs s_law_is) (fnBody s_law_is) (fnScope s_law_is) .none kV_law_is dc_law_is pm_law_is an_law_is cd_law_is ct_law_is), sl_law_is⟩) (c_law_is : PySem.W.codeIn K cd_law_is "_law_is" = true) (k_law_is : PySem.W.keepIn K (.ref f_law_is) = true)
    (a_law_turned : PySem.W.nsIn K mainGlobals "_law_turned" = some (some (.ref f_law_turned))) (l_law_turned : K.lookup f_law_turned = some ⟨oc_law_turned, od_law_turned, .func (PySem.W.fnOf "_law_turned" "_law_turned" (fnArgs s_law_turned) (fnBody s_law_turned) (fnScope s_law_turned) .none kV_law_turned dc_law_turned pm_law_turned an_law_turned cd_law_turned ct_law_turned), sl_law_turned⟩) (c_law_turned : PySem.W.codeIn K cd_law_turned "_law_turned" = true) (k_law_turned : PySem.W.keepIn K (.ref f_law_turned) = true)
    (a_law_joined : PySem.W.nsIn K mainGlobals "_law_joined" = some (some (.ref f_law_joined))) (l_law_joined : K.lookup f_law_joined = some ⟨oc_law_joined, od_law_joined, .func (PySem.W.fnOf "_law_joined" "_law_joined" (fnArgs s_law_joined) (fnBody s_law_joined) (fnScope s_law_joined) .none kV_law_joined dc_law_joined pm_law_joined an_law_joined cd_law_joined ct_law_joined), sl_law_joined⟩) (c_law_joined : PySem.W.codeIn K cd_law_joined "_law_joined" = true) (k_law_joined : PySem.W.keepIn K (.ref f_law_joined) = true)
    (a_law : PySem.W.nsIn K mainGlobals "law" = some (some (.ref f_law))) (l_law : K.lookup f_law = some ⟨oc_law, od_law, .func (PySem.W.fnOf "law" "law" (fnArgs s_law) (fnBody s_law) (fnScope s_law) .none kV_law dc_law pm_law an_law cd_law ct_law), sl_law⟩) (c_law : PySem.W.codeIn K cd_law "law" = true) (k_law : PySem.W.keepIn K (.ref f_law) = true)
    (mc_End : PySem.W.nsIn K mainGlobals "End" = some (some (.ref C_End)))
    (pg_End : PySem.W.plainGet K C_End Str.empty = true)
    (hd_End : PySem.W.hasDictIn K C_End = true)
    (po_End : PySem.W.plainOver K C_End = true)
    (sa_End : PySem.W.findIn K (.ref C_End) "__setattr__" = some (some (.builtin "object.__setattr__")))
    (mk_End : PySem.W.makesIn K C_End = true)
    (kc_End : PySem.W.keepIn K (.ref C_End) = true)
    (ha_End : PySem.W.findIn K (.ref C_End) "__class__" = some (some (.builtin "object.__class__")))
    (hn_End : PySem.W.specialIn K (.builtin "object.__class__") "__get__" = some (some (.builtin "getset_descriptor.__get__")))
    (ht_End : PySem.W.takesIn K (.builtin "object.__class__") = some true)
    (hm_End : PySem.W.mroIn K C_End (.type "object") = some true)
    (npaid_End : PySem.W.findIn K (.ref C_End) "paid" = some none)
    (mc_Lot : PySem.W.nsIn K mainGlobals "Lot" = some (some (.ref C_Lot)))
    (pg_Lot : PySem.W.plainGet K C_Lot Str.empty = true)
    (hd_Lot : PySem.W.hasDictIn K C_Lot = true)
    (po_Lot : PySem.W.plainOver K C_Lot = true)
    (sa_Lot : PySem.W.findIn K (.ref C_Lot) "__setattr__" = some (some (.builtin "object.__setattr__")))
    (mk_Lot : PySem.W.makesIn K C_Lot = true)
    (kc_Lot : PySem.W.keepIn K (.ref C_Lot) = true)
    (ha_Lot : PySem.W.findIn K (.ref C_Lot) "__class__" = some (some (.builtin "object.__class__")))
    (hn_Lot : PySem.W.specialIn K (.builtin "object.__class__") "__get__" = some (some (.builtin "getset_descriptor.__get__")))
    (ht_Lot : PySem.W.takesIn K (.builtin "object.__class__") = some true)
    (hm_Lot : PySem.W.mroIn K C_Lot (.type "object") = some true)
    (nparts_Lot : PySem.W.findIn K (.ref C_Lot) "parts" = some none)
    (mc_Turn : PySem.W.nsIn K mainGlobals "Turn" = some (some (.ref C_Turn)))
    (pg_Turn : PySem.W.plainGet K C_Turn Str.empty = true)
    (hd_Turn : PySem.W.hasDictIn K C_Turn = true)
    (po_Turn : PySem.W.plainOver K C_Turn = true)
    (sa_Turn : PySem.W.findIn K (.ref C_Turn) "__setattr__" = some (some (.builtin "object.__setattr__")))
    (mk_Turn : PySem.W.makesIn K C_Turn = true)
    (kc_Turn : PySem.W.keepIn K (.ref C_Turn) = true)
    (ha_Turn : PySem.W.findIn K (.ref C_Turn) "__class__" = some (some (.builtin "object.__class__")))
    (hn_Turn : PySem.W.specialIn K (.builtin "object.__class__") "__get__" = some (some (.builtin "getset_descriptor.__get__")))
    (ht_Turn : PySem.W.takesIn K (.builtin "object.__class__") = some true)
    (hm_Turn : PySem.W.mroIn K C_Turn (.type "object") = some true)
    (nplayer_Turn : PySem.W.findIn K (.ref C_Turn) "player" = some none)
    (nview_Turn : PySem.W.findIn K (.ref C_Turn) "view" = some none)
    (nparts_Turn : PySem.W.findIn K (.ref C_Turn) "parts" = some none)
    (a_End___init : PySem.W.findIn K (.ref C_End) "__init__" = some (some (.ref f_End___init))) (i_End___init : PySem.W.isFn K (.ref f_End___init) = true) (l_End___init : K.lookup f_End___init = some ⟨oc_End___init, od_End___init, .func (PySem.W.fnOf "__init__" "End.__init__" (fnArgs s_End___init) (fnBody s_End___init) (fnScope s_End___init) .none kV_End___init dc_End___init pm_End___init an_End___init cd_End___init ct_End___init), sl_End___init⟩) (c_End___init : PySem.W.codeIn K cd_End___init "End.__init__" = true) (k_End___init : PySem.W.keepIn K (.ref f_End___init) = true)
    (a_Lot___init : PySem.W.findIn K (.ref C_Lot) "__init__" = some (some (.ref f_Lot___init))) (i_Lot___init : PySem.W.isFn K (.ref f_Lot___init) = true) (l_Lot___init : K.lookup f_Lot___init = some ⟨oc_Lot___init, od_Lot___init, .func (PySem.W.fnOf "__init__" "Lot.__init__" (fnArgs s_Lot___init) (fnBody s_Lot___init) (fnScope s_Lot___init) .none kV_Lot___init dc_Lot___init pm_Lot___init an_Lot___init cd_Lot___init ct_Lot___init), sl_Lot___init⟩) (c_Lot___init : PySem.W.codeIn K cd_Lot___init "Lot.__init__" = true) (k_Lot___init : PySem.W.keepIn K (.ref f_Lot___init) = true)
    (a_Turn___init : PySem.W.findIn K (.ref C_Turn) "__init__" = some (some (.ref f_Turn___init))) (i_Turn___init : PySem.W.isFn K (.ref f_Turn___init) = true) (l_Turn___init : K.lookup f_Turn___init = some ⟨oc_Turn___init, od_Turn___init, .func (PySem.W.fnOf "__init__" "Turn.__init__" (fnArgs s_Turn___init) (fnBody s_Turn___init) (fnScope s_Turn___init) .none kV_Turn___init dc_Turn___init pm_Turn___init an_Turn___init cd_Turn___init ct_Turn___init), sl_Turn___init⟩) (c_Turn___init : PySem.W.codeIn K cd_Turn___init "Turn.__init__" = true) (k_Turn___init : PySem.W.keepIn K (.ref f_Turn___init) = true)
    (hkLE : PySem.W.kitOne K (.ref C_Lot) (.ref C_End) = some false)
    (hkTE : PySem.W.kitOne K (.ref C_Turn) (.ref C_End) = some false)
    (hkTL : PySem.W.kitOne K (.ref C_Turn) (.ref C_Lot) = some false)
    (hkLT : PySem.W.kitOne K (.ref C_Lot) (.ref C_Turn) = some false)
    (z_all : PySem.W.nsIn K mainGlobals "all" = some none)
    (z_bool : PySem.W.nsIn K mainGlobals "bool" = some none)
    (z_enumerate : PySem.W.nsIn K mainGlobals "enumerate" = some none)
    (z_int : PySem.W.nsIn K mainGlobals "int" = some none)
    (z_isinstance : PySem.W.nsIn K mainGlobals "isinstance" = some none)
    (z_len : PySem.W.nsIn K mainGlobals "len" = some none)
    (z_list : PySem.W.nsIn K mainGlobals "list" = some none)
    (z_range : PySem.W.nsIn K mainGlobals "range" = some none)
    (z_sum : PySem.W.nsIn K mainGlobals "sum" = some none)
    (z_tuple : PySem.W.nsIn K mainGlobals "tuple" = some none)
    : ∃ fd : FuncData, (∀ (s : Shared) (v : Value), BindsTo s fd ⟨[v], []⟩ [("script", v)]) ∧ ∀ base : Heap, K.In base → base.Ns mainGlobals mg → FnOk l.prog w K mg base C8.CX0 9 fa fd ["script"] (sp_law K) := by
  have e := hfa.symm.trans (PySem.W.mg_of X G a_law)
  cases e
  have T : Txt K mg C_End C_Lot C_Turn := ⟨PySem.W.mg_none_of X G z_all, PySem.W.mg_none_of X G z_bool, PySem.W.mg_none_of X G z_enumerate, PySem.W.mg_none_of X G z_int, PySem.W.mg_none_of X G z_isinstance, PySem.W.mg_none_of X G z_len, PySem.W.mg_none_of X G z_list, PySem.W.mg_none_of X G z_range, PySem.W.mg_none_of X G z_sum, PySem.W.mg_none_of X G z_tuple, ⟨pg_End, hd_End, po_End, sa_End⟩, PySem.W.mg_of X G mc_End, ⟨⟨pg_End, hd_End, po_End, sa_End⟩, ha_End, hn_End, ht_End, hm_End, kitSelf⟩, npaid_End, ⟨pg_Lot, hd_Lot, po_Lot, sa_Lot⟩, PySem.W.mg_of X G mc_Lot, ⟨⟨pg_Lot, hd_Lot, po_Lot, sa_Lot⟩, ha_Lot, hn_Lot, ht_Lot, hm_Lot, kitSelf⟩, nparts_Lot, ⟨pg_Turn, hd_Turn, po_Turn, sa_Turn⟩, PySem.W.mg_of X G mc_Turn, ⟨⟨pg_Turn, hd_Turn, po_Turn, sa_Turn⟩, ha_Turn, hn_Turn, ht_Turn, hm_Turn, kitSelf⟩, nplayer_Turn, nview_Turn, nparts_Turn, hkLE, hkTE, hkTL, hkLT, True.intro⟩
  have F_End___init : C8.Fun K "__init__" "End.__init__" s_End___init _ _ := ⟨⟨_, _, _, _, _, _, _, _, _, _, rfl, l_End___init, c_End___init⟩⟩
  have M_End : Mk K C_End f_End___init := ⟨mk_End, a_End___init, i_End___init, kc_End⟩
  have b_End___init : Binds K _ ["self", "paid"] [] := C8.Fun.binds F_End___init rfl fun _ _ _ _ _ _ us hl => match us, hl with | [_, _], _ => rfl
  have F_Lot___init : C8.Fun K "__init__" "Lot.__init__" s_Lot___init _ _ := ⟨⟨_, _, _, _, _, _, _, _, _, _, rfl, l_Lot___init, c_Lot___init⟩⟩
  have M_Lot : Mk K C_Lot f_Lot___init := ⟨mk_Lot, a_Lot___init, i_Lot___init, kc_Lot⟩
  have b_Lot___init : Binds K _ ["self", "parts"] [] := C8.Fun.binds F_Lot___init rfl fun _ _ _ _ _ _ us hl => match us, hl with | [_, _], _ => rfl
  have F_Turn___init : C8.Fun K "__init__" "Turn.__init__" s_Turn___init _ _ := ⟨⟨_, _, _, _, _, _, _, _, _, _, rfl, l_Turn___init, c_Turn___init⟩⟩
  have M_Turn : Mk K C_Turn f_Turn___init := ⟨mk_Turn, a_Turn___init, i_Turn___init, kc_Turn⟩
  have b_Turn___init : Binds K _ ["self", "player", "view", "parts"] [] := C8.Fun.binds F_Turn___init rfl fun _ _ _ _ _ _ us hl => match us, hl with | [_, _, _, _], _ => rfl
  have D_collect : C8.Def K mg "_collect" s_collect _ _ := ⟨⟨⟨_, _, _, _, _, _, _, _, _, _, rfl, l_collect, c_collect⟩⟩, PySem.W.mg_of X G a_collect, k_collect⟩
  have b_collect : Binds K _ ["tree", "player", "found"] [] := C8.Fun.binds D_collect.fn rfl fun _ _ _ _ _ _ us hl => match us, hl with | [_, _, _], _ => rfl
  have D_views_of : C8.Def K mg "views_of" s_views_of _ _ := ⟨⟨⟨_, _, _, _, _, _, _, _, _, _, rfl, l_views_of, c_views_of⟩⟩, PySem.W.mg_of X G a_views_of, k_views_of⟩
  have b_views_of : Binds K _ ["tree", "player"] [] := C8.Fun.binds D_views_of.fn rfl fun _ _ _ _ _ _ us hl => match us, hl with | [_, _], _ => rfl
  have D_rows_of : C8.Def K mg "rows_of" s_rows_of _ _ := ⟨⟨⟨_, _, _, _, _, _, _, _, _, _, rfl, l_rows_of, c_rows_of⟩⟩, PySem.W.mg_of X G a_rows_of, k_rows_of⟩
  have b_rows_of : Binds K _ ["tree", "player"] [] := C8.Fun.binds D_rows_of.fn rfl fun _ _ _ _ _ _ us hl => match us, hl with | [_, _], _ => rfl
  have D_last_row : C8.Def K mg "last_row" s_last_row _ _ := ⟨⟨⟨_, _, _, _, _, _, _, _, _, _, rfl, l_last_row, c_last_row⟩⟩, PySem.W.mg_of X G a_last_row, k_last_row⟩
  have b_last_row : Binds K _ ["view"] [] := C8.Fun.binds D_last_row.fn rfl fun _ _ _ _ _ _ us hl => match us, hl with | [_], _ => rfl
  have D_keeps : C8.Def K mg "_keeps" s_keeps _ _ := ⟨⟨⟨_, _, _, _, _, _, _, _, _, _, rfl, l_keeps, c_keeps⟩⟩, PySem.W.mg_of X G a_keeps, k_keeps⟩
  have b_keeps : Binds K _ ["tree", "rows"] [] := C8.Fun.binds D_keeps.fn rfl fun _ _ _ _ _ _ us hl => match us, hl with | [_, _], _ => rfl
  have D_remembers : C8.Def K mg "remembers" s_remembers _ _ := ⟨⟨⟨_, _, _, _, _, _, _, _, _, _, rfl, l_remembers, c_remembers⟩⟩, PySem.W.mg_of X G a_remembers, k_remembers⟩
  have b_remembers : Binds K _ ["tree"] [] := C8.Fun.binds D_remembers.fn rfl fun _ _ _ _ _ _ us hl => match us, hl with | [_], _ => rfl
  have D_law_cell : C8.Def K mg "_law_cell" s_law_cell _ _ := ⟨⟨⟨_, _, _, _, _, _, _, _, _, _, rfl, l_law_cell, c_law_cell⟩⟩, PySem.W.mg_of X G a_law_cell, k_law_cell⟩
  have b_law_cell : Binds K _ ["script", "k"] [] := C8.Fun.binds D_law_cell.fn rfl fun _ _ _ _ _ _ us hl => match us, hl with | [_, _], _ => rfl
  have D_law_is_integer : C8.Def K mg "_law_is_integer" s_law_is_integer _ _ := ⟨⟨⟨_, _, _, _, _, _, _, _, _, _, rfl, l_law_is_integer, c_law_is_integer⟩⟩, PySem.W.mg_of X G a_law_is_integer, k_law_is_integer⟩
  have b_law_is_integer : Binds K _ ["actual"] [] := C8.Fun.binds D_law_is_integer.fn rfl fun _ _ _ _ _ _ us hl => match us, hl with | [_], _ => rfl
  have D_law_row : C8.Def K mg "_law_row" s_law_row _ _ := ⟨⟨⟨_, _, _, _, _, _, _, _, _, _, rfl, l_law_row, c_law_row⟩⟩, PySem.W.mg_of X G a_law_row, k_law_row⟩
  have b_law_row : Binds K _ ["cell", "count", "size"] [] := C8.Fun.binds D_law_row.fn rfl fun _ _ _ _ _ _ us hl => match us, hl with | [_, _, _], _ => rfl
  have D_law_stages : C8.Def K mg "_law_stages" s_law_stages _ _ := ⟨⟨⟨_, _, _, _, _, _, _, _, _, _, rfl, l_law_stages, c_law_stages⟩⟩, PySem.W.mg_of X G a_law_stages, k_law_stages⟩
  have b_law_stages : Binds K _ ["script", "most"] [] := C8.Fun.binds D_law_stages.fn rfl fun _ _ _ _ _ _ us hl => match us, hl with | [_, _], _ => rfl
  have D_law_paths : C8.Def K mg "_law_paths" s_law_paths _ _ := ⟨⟨⟨_, _, _, _, _, _, _, _, _, _, rfl, l_law_paths, c_law_paths⟩⟩, PySem.W.mg_of X G a_law_paths, k_law_paths⟩
  have b_law_paths : Binds K _ ["stages"] [] := C8.Fun.binds D_law_paths.fn rfl fun _ _ _ _ _ _ us hl => match us, hl with | [_], _ => rfl
  have D_law_view : C8.Def K mg "_law_view" s_law_view _ _ := ⟨⟨⟨_, _, _, _, _, _, _, _, _, _, rfl, l_law_view, c_law_view⟩⟩, PySem.W.mg_of X G a_law_view, k_law_view⟩
  have b_law_view : Binds K _ ["stages", "path", "player"] [] := C8.Fun.binds D_law_view.fn rfl fun _ _ _ _ _ _ us hl => match us, hl with | [_, _, _], _ => rfl
  have D_law_asked : C8.Def K mg "_law_asked" s_law_asked _ _ := ⟨⟨⟨_, _, _, _, _, _, _, _, _, _, rfl, l_law_asked, c_law_asked⟩⟩, PySem.W.mg_of X G a_law_asked, k_law_asked⟩
  have b_law_asked : Binds K _ ["stages", "path"] [] := C8.Fun.binds D_law_asked.fn rfl fun _ _ _ _ _ _ us hl => match us, hl with | [_, _], _ => rfl
  have D_law_met : C8.Def K mg "_law_met" s_law_met _ _ := ⟨⟨⟨_, _, _, _, _, _, _, _, _, _, rfl, l_law_met, c_law_met⟩⟩, PySem.W.mg_of X G a_law_met, k_law_met⟩
  have b_law_met : Binds K _ ["stages", "player"] [] := C8.Fun.binds D_law_met.fn rfl fun _ _ _ _ _ _ us hl => match us, hl with | [_, _], _ => rfl
  have D_law_node : C8.Def K mg "_law_node" s_law_node _ _ := ⟨⟨⟨_, _, _, _, _, _, _, _, _, _, rfl, l_law_node, c_law_node⟩⟩, PySem.W.mg_of X G a_law_node, k_law_node⟩
  have b_law_node : Binds K _ ["stages", "paid", "path"] [] := C8.Fun.binds D_law_node.fn rfl fun _ _ _ _ _ _ us hl => match us, hl with | [_, _, _], _ => rfl
  have D_law_are_pairs : C8.Def K mg "_law_are_pairs" s_law_are_pairs _ _ := ⟨⟨⟨_, _, _, _, _, _, _, _, _, _, rfl, l_law_are_pairs, c_law_are_pairs⟩⟩, PySem.W.mg_of X G a_law_are_pairs, k_law_are_pairs⟩
  have b_law_are_pairs : Binds K _ ["actual", "due"] [] := C8.Fun.binds D_law_are_pairs.fn rfl fun _ _ _ _ _ _ us hl => match us, hl with | [_, _], _ => rfl
  have D_law_is : C8.Def K mg "_law_is" s_law_is _ _ := ⟨⟨⟨_, _, _, _, _, _, _, _, _, _, rfl, l_law_is, c_law_is⟩⟩, PySem.W.mg_of X G a_law_is, k_law_is⟩
  have b_law_is : Binds K _ ["actual", "due"] [] := C8.Fun.binds D_law_is.fn rfl fun _ _ _ _ _ _ us hl => match us, hl with | [_, _], _ => rfl
  have D_law_turned : C8.Def K mg "_law_turned" s_law_turned _ _ := ⟨⟨⟨_, _, _, _, _, _, _, _, _, _, rfl, l_law_turned, c_law_turned⟩⟩, PySem.W.mg_of X G a_law_turned, k_law_turned⟩
  have b_law_turned : Binds K _ ["stages", "path", "at"] [] := C8.Fun.binds D_law_turned.fn rfl fun _ _ _ _ _ _ us hl => match us, hl with | [_, _, _], _ => rfl
  have D_law_joined : C8.Def K mg "_law_joined" s_law_joined _ _ := ⟨⟨⟨_, _, _, _, _, _, _, _, _, _, rfl, l_law_joined, c_law_joined⟩⟩, PySem.W.mg_of X G a_law_joined, k_law_joined⟩
  have b_law_joined : Binds K _ ["player", "cell"] [] := C8.Fun.binds D_law_joined.fn rfl fun _ _ _ _ _ _ us hl => match us, hl with | [_, _], _ => rfl
  have F_law : C8.Fun K "law" "law" s_law _ _ := ⟨⟨_, _, _, _, _, _, _, _, _, _, rfl, l_law, c_law⟩⟩
  refine ⟨PySem.W.fnOf "law" "law" (fnArgs s_law) (fnBody s_law) (fnScope s_law) .none kV_law dc_law pm_law an_law cd_law ct_law, fun s v => .of_eq rfl, fun base _ _ => ?_⟩
  have c_End := ok_end (P := l.prog) (w := w) (base := base) M_End F_End___init b_End___init T
  have c_Lot := ok_lot (P := l.prog) (w := w) (base := base) M_Lot F_Lot___init b_Lot___init T
  have c_Turn := ok_turn (P := l.prog) (w := w) (base := base) M_Turn F_Turn___init b_Turn___init T
  have c_last_row := ok_last_row (P := l.prog) (w := w) (base := base) D_last_row b_last_row T
  have c_law_cell := ok_cell (P := l.prog) (w := w) (base := base) D_law_cell b_law_cell T
  have c_law_is_integer := ok_isint (P := l.prog) (w := w) (base := base) D_law_is_integer b_law_is_integer T
  have c_law_row := ok_row (P := l.prog) (w := w) (base := base) D_law_row b_law_row T
  have c_law_stages := ok_stages D_law_stages b_law_stages T c_law_cell c_law_row
  have c_law_paths := ok_paths (P := l.prog) (w := w) (base := base) D_law_paths b_law_paths T
  have c_law_view := ok_view (P := l.prog) (w := w) (base := base) D_law_view b_law_view T
  have c_law_asked := ok_asked D_law_asked b_law_asked T c_law_view
  have c_law_met := ok_met D_law_met b_law_met T c_law_paths c_law_asked
  have c_law_node := node_all D_law_node b_law_node T c_End c_Lot c_Turn c_law_asked 5
  have c_collect := collect_all (P := l.prog) (w := w) (base := base) D_collect b_collect T 5
  have c_views_of := ok_views_of D_views_of b_views_of T c_collect
  have c_rows_of := ok_rows_of D_rows_of b_rows_of T c_views_of
  have c_keeps := keeps_all D_keeps b_keeps T c_last_row 6
  have c_remembers := ok_remembers D_remembers b_remembers T c_keeps
  have c_law_are_pairs := ok_pairs D_law_are_pairs b_law_are_pairs T c_law_is_integer
  have c_law_is := ok_is (P := l.prog) (w := w) (base := base) D_law_is b_law_is T
  have c_law_turned := turned_all D_law_turned b_law_turned T c_End c_Lot c_Turn c_law_asked 5
  have c_law_joined := ok_joined D_law_joined b_law_joined T c_End c_Lot c_Turn
  exact ok_law F_law T c_law_stages c_law_paths c_law_node c_law_met c_views_of c_rows_of c_law_are_pairs c_law_is c_remembers c_Turn c_law_joined c_law_cell c_law_turned
theorem walk {l : PySem.W.OpenLaw} {q : Program} {loose : List Str} {XP : (Str → Option Value) → Heap → Prop} {YP : World → Heap → Prop} {d : DefRec} {K : Params → PySem.W.Frag} (hn : l.most = some 63) (hdf : d.params.defaults = [])
    (hY : ∀ (w : World) (h : Heap), YP w h → (K w.params).In h)
    (F : ∀ (w : World) (mg : Str → Option Value) (fa : Addr) (h : Heap), (K w.params).In h → h.Ns mainGlobals mg → mg d.name = some (.ref fa) →
      ∃ fd : FuncData, (∀ (s : Shared) (u : Value), BindsTo s fd ⟨[u], []⟩ [("script", u)]) ∧ ∀ base : Heap, (K w.params).In base → base.Ns mainGlobals mg → FnOk l.prog w (K w.params) mg base C8.CX0 9 fa fd ["script"] (sp_law (K w.params))) :
    PySem.W.WalkO q loose XP YP l.row.toRowW d [] (fun f vs => PySem.call f vs) :=
  L2.walk_ofB (n := 63) (k := 9) (x := "script") (CX := fun _ => C8.CX0) (sp := fun w => sp_law (K w.params)) hn (by decide) hdf ⟨rfl, by decide, by decide⟩ hY F (fun _ _ a ns hl hb _ hS => ⟨a, ns, rfl, hS, fun _ => rfl⟩) fun _ _ _ _ _ z => z
end My
open PySem PySem.W PyProof.Rows
set_option maxRecDepth 100000 in
set_option maxHeartbeats 0 in
theorem PySem.Challenge.cw_bothgain_k33_views_and_rows_holds : PySem.Challenge.rw_bothgain_k33_views_and_rows.Holds := by
  w_on; o_law; k_head; (case hw => w_witness2)
  k_fill
  refine My.walk (l := PySem.Challenge.rw_bothgain_k33_views_and_rows) rfl rfl (fun w h Y => PySem.W.kIn_of Y) ?F
  case F =>
    intro w mg fa h KX G hmg
    refine' My.all_mk KX G hmg ?a_collect ?l_collect ?c_collect ?k_collect ?a_views_of ?l_views_of ?c_views_of ?k_views_of ?a_rows_of ?l_rows_of ?c_rows_of ?k_rows_of ?a_last_row ?l_last_row ?c_last_row ?k_last_row ?a_keeps ?l_keeps ?c_keeps ?k_keeps ?a_remembers ?l_remembers ?c_remembers ?k_remembers ?a_law_cell ?l_law_cell ?c_law_cell ?k_law_cell ?a_law_is_integer ?l_law_is_integer ?c_law_is_integer ?k_law_is_integer ?a_law_row ?l_law_row ?c_law_row ?k_law_row ?a_law_stages ?l_law_stages ?c_law_stages ?k_law_stages ?a_law_paths ?l_law_paths ?c_law_paths ?k_law_paths ?a_law_view ?l_law_view ?c_law_view ?k_law_view ?a_law_asked ?l_law_asked ?c_law_asked ?k_law_asked ?a_law_met ?l_law_met ?c_law_met ?k_law_met ?a_law_node ?l_law_node ?c_law_node ?k_law_node ?a_law_are_pairs ?l_law_are_pairs ?c_law_are_pairs ?k_law_are_pairs ?a_law_is ?l_law_is ?c_law_is ?k_law_is ?a_law_turned ?l_law_turned ?c_law_turned ?k_law_turned ?a_law_joined ?l_law_joined ?c_law_joined ?k_law_joined ?a_law ?l_law ?c_law ?k_law ?mc_End ?pg_End ?hd_End ?po_End ?sa_End ?mk_End ?kc_End ?ha_End ?hn_End ?ht_End ?hm_End ?npaid_End ?mc_Lot ?pg_Lot ?hd_Lot ?po_Lot ?sa_Lot ?mk_Lot ?kc_Lot ?ha_Lot ?hn_Lot ?ht_Lot ?hm_Lot ?nparts_Lot ?mc_Turn ?pg_Turn ?hd_Turn ?po_Turn ?sa_Turn ?mk_Turn ?kc_Turn ?ha_Turn ?hn_Turn ?ht_Turn ?hm_Turn ?nplayer_Turn ?nview_Turn ?nparts_Turn ?a_End___init ?i_End___init ?l_End___init ?c_End___init ?k_End___init ?a_Lot___init ?i_Lot___init ?l_Lot___init ?c_Lot___init ?k_Lot___init ?a_Turn___init ?i_Turn___init ?l_Turn___init ?c_Turn___init ?k_Turn___init ?hkLE ?hkTE ?hkTL ?hkLT ?z_all ?z_bool ?z_enumerate ?z_int ?z_isinstance ?z_len ?z_list ?z_range ?z_sum ?z_tuple
    (case a_collect => k_is)
    (case l_collect => k_is)
    (case c_collect => k_is)
    (case k_collect => k_is)
    (case a_views_of => k_is)
    (case l_views_of => k_is)
    (case c_views_of => k_is)
    (case k_views_of => k_is)
    (case a_rows_of => k_is)
    (case l_rows_of => k_is)
    (case c_rows_of => k_is)
    (case k_rows_of => k_is)
    (case a_last_row => k_is)
    (case l_last_row => k_is)
    (case c_last_row => k_is)
    (case k_last_row => k_is)
    (case a_keeps => k_is)
    (case l_keeps => k_is)
    (case c_keeps => k_is)
    (case k_keeps => k_is)
    (case a_remembers => k_is)
    (case l_remembers => k_is)
    (case c_remembers => k_is)
    (case k_remembers => k_is)
    (case a_law_cell => k_is)
    (case l_law_cell => k_is)
    (case c_law_cell => k_is)
    (case k_law_cell => k_is)
    (case a_law_is_integer => k_is)
    (case l_law_is_integer => k_is)
    (case c_law_is_integer => k_is)
    (case k_law_is_integer => k_is)
    (case a_law_row => k_is)
    (case l_law_row => k_is)
    (case c_law_row => k_is)
    (case k_law_row => k_is)
    (case a_law_stages => k_is)
    (case l_law_stages => k_is)
    (case c_law_stages => k_is)
    (case k_law_stages => k_is)
    (case a_law_paths => k_is)
    (case l_law_paths => k_is)
    (case c_law_paths => k_is)
    (case k_law_paths => k_is)
    (case a_law_view => k_is)
    (case l_law_view => k_is)
    (case c_law_view => k_is)
    (case k_law_view => k_is)
    (case a_law_asked => k_is)
    (case l_law_asked => k_is)
    (case c_law_asked => k_is)
    (case k_law_asked => k_is)
    (case a_law_met => k_is)
    (case l_law_met => k_is)
    (case c_law_met => k_is)
    (case k_law_met => k_is)
    (case a_law_node => k_is)
    (case l_law_node => k_is)
    (case c_law_node => k_is)
    (case k_law_node => k_is)
    (case a_law_are_pairs => k_is)
    (case l_law_are_pairs => k_is)
    (case c_law_are_pairs => k_is)
    (case k_law_are_pairs => k_is)
    (case a_law_is => k_is)
    (case l_law_is => k_is)
    (case c_law_is => k_is)
    (case k_law_is => k_is)
    (case a_law_turned => k_is)
    (case l_law_turned => k_is)
    (case c_law_turned => k_is)
    (case k_law_turned => k_is)
    (case a_law_joined => k_is)
    (case l_law_joined => k_is)
    (case c_law_joined => k_is)
    (case k_law_joined => k_is)
    (case a_law => k_is)
    (case l_law => k_is)
    (case c_law => k_is)
    (case k_law => k_is)
    (case mc_End => k_is)
    (case pg_End => k_is)
    (case hd_End => k_is)
    (case po_End => k_is)
    (case sa_End => k_is)
    (case mk_End => k_is)
    (case kc_End => k_is)
    (case ha_End => k_is)
    (case hn_End => k_is)
    (case ht_End => k_is)
    (case hm_End => k_is)
    (case npaid_End => k_is)
    (case mc_Lot => k_is)
    (case pg_Lot => k_is)
    (case hd_Lot => k_is)
    (case po_Lot => k_is)
    (case sa_Lot => k_is)
    (case mk_Lot => k_is)
    (case kc_Lot => k_is)
    (case ha_Lot => k_is)
    (case hn_Lot => k_is)
    (case ht_Lot => k_is)
    (case hm_Lot => k_is)
    (case nparts_Lot => k_is)
    (case mc_Turn => k_is)
    (case pg_Turn => k_is)
    (case hd_Turn => k_is)
    (case po_Turn => k_is)
    (case sa_Turn => k_is)
    (case mk_Turn => k_is)
    (case kc_Turn => k_is)
    (case ha_Turn => k_is)
    (case hn_Turn => k_is)
    (case ht_Turn => k_is)
    (case hm_Turn => k_is)
    (case nplayer_Turn => k_is)
    (case nview_Turn => k_is)
    (case nparts_Turn => k_is)
    (case a_End___init => k_is)
    (case i_End___init => k_is)
    (case l_End___init => k_is)
    (case c_End___init => k_is)
    (case k_End___init => k_is)
    (case a_Lot___init => k_is)
    (case i_Lot___init => k_is)
    (case l_Lot___init => k_is)
    (case c_Lot___init => k_is)
    (case k_Lot___init => k_is)
    (case a_Turn___init => k_is)
    (case i_Turn___init => k_is)
    (case l_Turn___init => k_is)
    (case c_Turn___init => k_is)
    (case k_Turn___init => k_is)
    (case hkLE => first | k_is | kit_is | rfl | decide +kernel)
    (case hkTE => first | k_is | kit_is | rfl | decide +kernel)
    (case hkTL => first | k_is | kit_is | rfl | decide +kernel)
    (case hkLT => first | k_is | kit_is | rfl | decide +kernel)
    (case z_all => k_is)
    (case z_bool => k_is)
    (case z_enumerate => k_is)
    (case z_int => k_is)
    (case z_isinstance => k_is)
    (case z_len => k_is)
    (case z_list => k_is)
    (case z_range => k_is)
    (case z_sum => k_is)
    (case z_tuple => k_is)

