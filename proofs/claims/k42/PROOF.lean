
import PyProof.Rows.All
import Wide.All
import OpenK.AllK
import Wide.FinOn
import HandS.ForMost
import HandS.Codes
import HandS.IsInst
import HandS.EndBits
import HandS.Walk
import HandS.DeepEq
import HandS.Gcd
import HandS.Wide
import HandS.Defaults
import HandS.OwnEq
import HandS.Dict
import HandS.WordsDict
import HandS.Star
import HandS.Strs
import HandS.RaiseMore
import HandS.More
import HandS.Iter
import HandS.Zip
import HandS.Style
import HandS.TupAny
import HandS.Deep
import HandS.DictTup
import KE.KeyNested
import KE.KDictKeyed
import KE.KDictPairs
import OpenK.KMeth
import PySem.Challenge.RW_bothgain_k42_pure_and_even_plans
set_option Elab.async false
set_option linter.all false
set_option maxRecDepth 100000
set_option maxHeartbeats 4000000
set_option pp.maxSteps 400

/-! dicts whose keys are nested tuples (the hand layer): keys that are told to the tracked heap, get, in, put, items -/
namespace NDi
open PySem PySem.W PySem.Calls PyProof.Rows PyProof.V PySem.Spec L2
mutual
/-- the value v is the key k, its tuples tracked -/
inductive NK (H : Hp) : NestedKey → V → Prop
  | none : NK H .none .non
  | num (i : Int) : NK H (.num i) (.int i)
  | text (x : Str) : NK H (.text x) (.str x)
  | tup {a : Addr} {vs : List V} {ks : List NestedKey} : H a = some (.tup vs) → NKs H ks vs → NK H (.tup ks) (.ref a)
inductive NKs (H : Hp) : List NestedKey → List V → Prop
  | nil : NKs H [] []
  | cons {k : NestedKey} {v : V} {ks : List NestedKey} {vs : List V} : NK H k v → NKs H ks vs → NKs H (k :: ks) (v :: vs)
end
mutual
theorem NK.tk {H H' : Hp} (t : ∀ b xs, H b = some (.tup xs) → H' b = some (.tup xs)) : ∀ (k : NestedKey) {v : V}, NK H k v → NK H' k v
  | .none, _, h => by cases h; exact .none
  | .num i, _, h => by cases h; exact .num i
  | .text x, _, h => by cases h; exact .text x
  | .tup ks, _, h => by
    cases h with
    | tup h1 h2 => exact .tup (t _ _ h1) (NKs.tk t ks h2)
theorem NKs.tk {H H' : Hp} (t : ∀ b xs, H b = some (.tup xs) → H' b = some (.tup xs)) : ∀ (ks : List NestedKey) {vs : List V}, NKs H ks vs → NKs H' ks vs
  | [], _, h => by cases h; exact .nil
  | k :: ks, _, h => by
    cases h with
    | cons h1 h2 => exact .cons (NK.tk t k h1) (NKs.tk t ks h2)
end
section
variable {P : Program} {w : World} {H : Hp} {h : Heap}
mutual
theorem nk_is (ok : HOk P w H h) : ∀ (k : NestedKey) {v : V} {u : Value}, NK H k v → RelV v u → NestedIs h k u
  | .none, _, u, n, r => by
    cases n
    cases (show u = Value.none from r)
    exact .none
  | .num i, _, u, n, r => by
    cases n
    obtain ⟨t, rfl⟩ := r
    exact .int i t
  | .text x, _, u, n, r => by
    cases n
    obtain ⟨t, rfl⟩ := r
    exact .text x t
  | .tup ks, _, u, n, r => by
    cases n with
    | @tup a vs _ h1 h2 =>
      cases (show u = Value.ref a from r)
      obtain ⟨_, its, rv, o, e1, e2, m, e3⟩ := (show ObjOk P w H h a (.tup vs) from ok a _ h1)
      exact .tup e1 e2 e3 (by simpa using nks_are ok ks h2 rv)
theorem nks_are (ok : HOk P w H h) : ∀ (ks : List NestedKey) {vs : List V} {us : List Value}, NKs H ks vs → Vals vs us → NestedAll h ks us
  | [], _, us, n, r => by
    cases n
    cases r
    exact .nil
  | k :: ks, _, us, n, r => by
    cases n with
    | cons n1 n2 =>
      cases r with
      | cons r1 r2 => exact .cons (nk_is ok k n1 r1) (nks_are ok ks n2 r2)
end
end
abbrev Ent := NestedKey × Addr × V
abbrev RE : List Ent → List (NestedKey × Addr × Value) → Prop := Paired fun p q => p.1 = q.1 ∧ p.2.1 = q.2.1 ∧ RelV p.2.2 q.2.2
def valN (xs : List Ent) (k : NestedKey) : Option V := (xs.find? fun x => decide (x.1 = k)).map (·.2.2)
def putN (xs : List Ent) (k : NestedKey) (b : Addr) (v : V) : List Ent := if (valN xs k).isSome then xs.map (fun x => if x.1 = k then (x.1, x.2.1, v) else x) else xs ++ [(k, b, v)]
theorem valN_nil (k : NestedKey) : valN [] k = none := rfl
theorem valN_pos {p : Ent} {r : List Ent} {k : NestedKey} (e : p.1 = k) : valN (p :: r) k = some p.2.2 := by simp [valN, List.find?_cons, e]
theorem valN_neg {p : Ent} {r : List Ent} {k : NestedKey} (e : ¬ p.1 = k) : valN (p :: r) k = valN r k := by simp [valN, List.find?_cons, e]
theorem putN_new {xs : List Ent} {k : NestedKey} {b : Addr} {v : V} (h : valN xs k = none) : putN xs k b v = xs ++ [(k, b, v)] := by
  unfold putN
  rw [h]; rfl
theorem putN_len (xs : List Ent) (k : NestedKey) (b : Addr) (v : V) : (putN xs k b v).length ≤ xs.length + 1 := by
  unfold putN
  split
  · rw [List.length_map]; omega
  · rw [List.length_append]; exact Nat.le_refl _
theorem putN_mem {xs : List Ent} {k : NestedKey} {b : Addr} {v : V} {x : Ent} (h : x ∈ putN xs k b v) : (∃ y ∈ xs, y.1 = x.1 ∧ y.2.1 = x.2.1) ∨ (x.1 = k ∧ x.2.1 = b) := by
  unfold putN at h
  split at h
  · obtain ⟨y, hy, rfl⟩ := List.mem_map.mp h
    left
    refine ⟨y, hy, ?_⟩
    split
    · exact ⟨rfl, rfl⟩
    · exact ⟨rfl, rfl⟩
  · rcases List.mem_append.mp h with q | q
    · exact .inl ⟨x, q, rfl, rfl⟩
    · rw [List.mem_singleton.mp q]; exact .inr ⟨rfl, rfl⟩
theorem valN_some {xs : List Ent} {k : NestedKey} {v : V} (h : valN xs k = some v) : ∃ b, (k, b, v) ∈ xs := by
  unfold valN at h
  obtain ⟨x, hx, rfl⟩ := Option.map_eq_some_iff.mp h
  have h1 := List.find?_some hx
  have h2 := List.mem_of_find?_eq_some hx
  simp only [decide_eq_true_eq] at h1
  exact ⟨x.2.1, by rw [← h1]; exact h2⟩
theorem valN_none {xs : List Ent} {k : NestedKey} (h : ∀ x ∈ xs, x.1 ≠ k) : valN xs k = none := by
  unfold valN
  rw [Option.map_eq_none_iff, List.find?_eq_none]
  intro x hx
  simpa using h x hx
theorem RE.val {xs : List Ent} {vs : List (NestedKey × Addr × Value)} (r : RE xs vs) (k : NestedKey) : RelO (valN xs k) ((atKey vs k).map (·.2)) := by
  induction r with
  | nil => exact True.intro
  | @cons p q ps qs h t ih =>
    obtain ⟨h1, _, h2⟩ := h
    by_cases e : p.1 = k
    · have e' : q.1 = k := h1.symm.trans e
      have b : atKey (q :: qs) k = some q.2 := by simp [atKey, List.find?_cons, e']
      rw [valN_pos e, b]; exact h2
    · have e' : ¬ q.1 = k := fun z => e (h1.trans z)
      have b : atKey (q :: qs) k = atKey qs k := by simp [atKey, List.find?_cons, e']
      rw [valN_neg e, b]; exact ih
theorem RE.put {xs : List Ent} {vs : List (NestedKey × Addr × Value)} (r : RE xs vs) (k : NestedKey) (b : Addr) {y : V} {u : Value} (ry : RelV y u) : RE (putN xs k b y) (storedH vs k b u) := by
  have e : (valN xs k).isSome = (atKey vs k).isSome := by
    rw [(r.val k).isSome_eq, Option.isSome_map]
  unfold putN storedH
  rw [e]
  by_cases q : (atKey vs k).isSome = true
  · rw [if_pos q, if_pos q]
    clear e q
    induction r with
    | nil => exact .nil
    | @cons p q ps qs h t ih =>
      rw [List.map_cons, List.map_cons]
      refine .cons ?_ ih
      obtain ⟨h1, h2, h3⟩ := h
      unfold putAt
      by_cases e : p.1 = k
      · rw [if_pos e, if_pos (h1.symm.trans e)]; exact ⟨h1, h2, ry⟩
      · rw [if_neg e, if_neg (fun z => e (h1.trans z))]; exact ⟨h1, h2, h3⟩
  · rw [if_neg q, if_neg q]; exact Paired.snoc r ⟨rfl, rfl, ry⟩
/-- what is true of the dict's object -/
def ndφ (P : Program) (w : World) (a : Addr) (xs : List Ent) (h : Heap) : Prop := xs.length ≤ sizeLine ∧ (a == sysModules) = false ∧ ∃ vs, RE xs vs ∧
  ∃ o es ep, h.get? a = some o ∧ o.ExactDict ∧ o.data = .dict es ep ∧ es.toList = vs.map (entryOfKey (nestedKind P w)) ∧ (vs.map (·.1)).Nodup
def ndO (P : Program) (w : World) (a : Addr) (xs : List Ent) : HO := .ext (ndφ P w a xs)
theorem ndO_ok {P : Program} {w : World} {H : Hp} {h : Heap} {a : Addr} {xs : List Ent} (x : ndφ P w a xs h) : ObjOk P w H h a (ndO P w a xs) := by
  refine ⟨x, ?_, fun h1 h2 x1 k => ?_⟩
  · obtain ⟨_, _, _, _, o, _, _, e, _⟩ := x; exact ⟨o, e⟩
  · obtain ⟨z, y, vs, r, o, es, ep, e, c⟩ := x1
    exact ⟨z, y, vs, r, o, es, ep, k o e, c⟩
theorem nd_of {P : Program} {w : World} {H : Hp} {h : Heap} {a : Addr} {xs : List Ent} (ok : HOk P w H h) (e : Rd H a (ndO P w a xs)) : ndφ P w a xs h := (show ObjOk P w H h a (.ext (ndφ P w a xs)) from e.ok ok).1
/-- a dict with nested keys, its keys tracked -/
def NDat (P : Program) (w : World) (H : Hp) (a : Addr) (xs : List Ent) : Prop := Rd H a (ndO P w a xs) ∧ ∀ x ∈ xs, NK H x.1 (.ref x.2.1) ∧ x.1.depth ≤ 8
theorem NDat.dict {P : Program} {w : World} {H : Hp} {h : Heap} {a : Addr} {xs : List Ent} (ok : HOk P w H h) (n : NDat P w H a xs) : xs.length ≤ sizeLine ∧ (a == sysModules) = false ∧ ∃ vs, RE xs vs ∧ h.DictOfH (nestedKind P w) a vs := by
  obtain ⟨z, y, vs, r, o, es, ep, h1, h2, h3, h4, h5⟩ := nd_of ok n.1
  refine ⟨z, y, vs, r, o, es, ep, h1, h2, h3, h4, ?_, h5⟩
  have all : ∀ {l : List Ent} {m : List (NestedKey × Addr × Value)}, RE l m → (∀ x ∈ l, NK H x.1 (.ref x.2.1) ∧ x.1.depth ≤ 8) → ∀ x ∈ m, (nestedKind P w).is h x.1 x.2.1 := by
    intro l m q
    induction q with
    | nil => intro _ x hx; exact nomatch hx
    | @cons p q ps qs hq t ih =>
      intro hk x hx
      rcases List.mem_cons.mp hx with e | hx
      · subst e
        obtain ⟨k1, k2⟩ := hk p (List.mem_cons_self ..)
        rw [hq.1, hq.2.1] at k1
        rw [hq.1] at k2
        exact ⟨nk_is ok _ k1 rfl, k2⟩
      · exact ih (fun y hy => hk y (List.mem_cons_of_mem _ hy)) x hx
  exact all r n.2
/-- what it holds at y -/
def NGet (P : Program) (w : World) (H : Hp) (a : Addr) (y : V) (r : Option V) : Prop := ∃ xs k b, NDat P w H a xs ∧ y = .ref b ∧ NK H k (.ref b) ∧ k.depth ≤ 8 ∧ r = valN xs k
/-- the heap behind a[y] = v -/
def NPut (P : Program) (w : World) (H : Hp) (a : Addr) (y v : V) (H' : Hp) : Prop := ∃ xs k b, NDat P w H a xs ∧ H a = some (ndO P w a xs) ∧ y = .ref b ∧ NK H k (.ref b) ∧ k.depth ≤ 8 ∧ xs.length < sizeLine ∧ H' = upd H a (ndO P w a (putN xs k b v))
theorem nd_ne {P : Program} {w : World} {H : Hp} {a b : Addr} {xs : List Ent} {ys : List V} (h : H a = some (ndO P w a xs)) (g : H b = some (.tup ys)) : b ≠ a := ne_of g h (fun z => nomatch z)
theorem nd_tk {P : Program} {w : World} {H : Hp} {a : Addr} {xs : List Ent} {o : HO} (h : H a = some (ndO P w a xs)) : ∀ b ys, H b = some (.tup ys) → upd H a o b = some (.tup ys) := fun b ys g => by
  rw [upd_ne (nd_ne h g)]; exact g
theorem NDat.put {P : Program} {w : World} {H : Hp} {a b : Addr} {xs : List Ent} {k : NestedKey} {v : V} (n : NDat P w H a xs) (h : H a = some (ndO P w a xs)) (hk : NK H k (.ref b)) (hd : k.depth ≤ 8) : NDat P w (upd H a (ndO P w a (putN xs k b v))) a (putN xs k b v) := by
  refine ⟨.inl upd_same, fun x hx => ?_⟩
  rcases putN_mem hx with ⟨y, hy, e1, e2⟩ | ⟨e1, e2⟩
  · obtain ⟨k1, k2⟩ := n.2 y hy
    rw [e1, e2] at k1
    rw [e1] at k2
    exact ⟨NK.tk (nd_tk h) _ k1, k2⟩
  · rw [e1, e2]
    exact ⟨NK.tk (nd_tk h) _ hk, hd⟩
section
variable {X : Cx} {pins : List (Addr × Obj)} {σ : L2.St} {H : Hp} {s : Shared} {a : Addr} {y v : V} {u r : Value} {o : Option V} {A : Around} {E : Value → Shared → Prop}
theorem room_n (hu : A.units + 65 < cLine) : (nestedKind X.prog X.w).room A.in1 := by
  show A.in1.units + 8 < cLine
  rw [Around.in1_units]; omega
theorem n_getItem {Q : Value → Shared → Prop} (hu : A.units + 65 < cLine) (I : Inv X pins σ H s) (g : NGet X.prog X.w H a y (some v)) (ry : RelV y u) (h : ∀ w' s', Inv X pins σ H s' → RelV v w' → Q w' s') :
    wpAny (model X.prog X.w) A (getItem (.ref a) u) Q E s := by
  obtain ⟨xs, k, b, n, ey, hk, hd, l⟩ := g
  subst ey
  cases (show u = Value.ref b from ry)
  obtain ⟨z, hs, vs, rel, dd⟩ := n.dict I.hok
  obtain ⟨w', hw, rw'⟩ := RelO.some_of (v := v) (o := (atKey vs k).map (·.2)) (by rw [l]; exact rel.val k)
  obtain ⟨p, hp, hp2⟩ := Option.map_eq_some_iff.mp hw
  refine wpAny_getItem_heap (room_n hu) ⟨nk_is I.hok _ hk rfl, hd⟩ dd hp ?_
  rw [hp2]
  exact h w' _ (I.tok _) rw'
theorem n_in {Q : Value → Shared → Prop} (hu : A.units + 65 < cLine) (I : Inv X pins σ H s) (g : NGet X.prog X.w H a y o) (ry : RelV y u) (h : ∀ s', Inv X pins σ H s' → Q (.bool o.isSome) s') :
    wpAny (model X.prog X.w) A (compareOp .In u (.ref a)) Q E s := by
  obtain ⟨xs, k, b, n, ey, hk, hd, l⟩ := g
  subst ey
  cases (show u = Value.ref b from ry)
  obtain ⟨z, hs, vs, rel, dd⟩ := n.dict I.hok
  refine wpAny_in_heap (room_n hu) ⟨nk_is I.hok _ hk rfl, hd⟩ hs dd ?_
  have q := (rel.val k).isSome_eq
  rw [Option.isSome_map] at q
  rw [← q, ← l]
  exact h _ (I.tok _)
theorem n_notIn {Q : Value → Shared → Prop} (hu : A.units + 65 < cLine) (I : Inv X pins σ H s) (g : NGet X.prog X.w H a y o) (ry : RelV y u) (h : ∀ s', Inv X pins σ H s' → Q (.bool (!o.isSome)) s') :
    wpAny (model X.prog X.w) A (compareOp .NotIn u (.ref a)) Q E s := by
  obtain ⟨xs, k, b, n, ey, hk, hd, l⟩ := g
  subst ey
  cases (show u = Value.ref b from ry)
  obtain ⟨z, hs, vs, rel, dd⟩ := n.dict I.hok
  refine wpAny_notIn_heap (room_n hu) ⟨nk_is I.hok _ hk rfl, hd⟩ hs dd ?_
  have q := (rel.val k).isSome_eq
  rw [Option.isSome_map] at q
  rw [← q, ← l]
  exact h _ (I.tok _)
theorem n_setItem {H' : Hp} {Q : Unit → Shared → Prop} (hu : A.units + 65 < cLine) (I : Inv X pins σ H s) (g : NPut X.prog X.w H a y v H') (ry : RelV y u) (rv : RelV v r) (h : ∀ s', Inv X pins σ H' s' → Q () s') :
    wpAny (model X.prog X.w) A (setItem (.ref a) u r) Q E s := by
  obtain ⟨xs, k, b, n, e, ey, hk, hd, l, eH⟩ := g
  subst ey eH
  cases (show u = Value.ref b from ry)
  obtain ⟨z, hs0, vs, rel, dd⟩ := n.dict I.hok
  have hz : vs.length ≤ sizeLine := by rw [← Paired.length rel]; exact z
  have hl : (putN xs k b v).length ≤ sizeLine := by have := putN_len xs k b v; omega
  refine wpAny_setItem_heap (hsz := hz) (room_n hu) ⟨nk_is I.hok _ hk rfl, hd⟩ dd fun h' dd' hs => h _ ?_
  obtain ⟨q, es, ep, hq, h2, h3, h4, _, h5⟩ := dd'
  exact d_write I (by rw [e]; exact True.intro) hs ⟨q, hq⟩ (ndO_ok ⟨hl, hs0, _, rel.put k b rv, q, es, ep, hq, h2, h3, h4, h5⟩)
theorem n_get2 {d : V} {Q : Value → Shared → Prop} (hu : A.units + 65 < cLine) (I : Inv X pins σ H s) (g : NGet X.prog X.w H a y o) (ry : RelV y u) (rd : RelV d r) (h : ∀ w' s', Inv X pins σ H s' → RelV (o.getD d) w' → Q w' s') :
    wpAny (model X.prog X.w) A (call (.builtin "dict.get") [.ref a, u, r]) Q E s := by
  obtain ⟨xs, k, b, n, ey, hk, hd, l⟩ := g
  subst ey
  cases (show u = Value.ref b from ry)
  obtain ⟨z, hs, vs, rel, dd⟩ := n.dict I.hok
  refine call_meetsIn PySem.F.slot_dict_get dd.typeIs PySem.F.entry_dict_get (PySem.F.args_dict_get_3 _ _ _) (meetsH_dict_get_default (nestedKind X.prog X.w) a b hs r) ⟨room_n hu, k, vs, ⟨nk_is I.hok _ hk rfl, hd⟩, dd, h _ _ (I.tok _) ?_⟩
  rw [l]
  exact (rel.val k).getD rd
theorem nd_typeIs {xs : List Ent} (I : Inv X pins σ H s) (n : Rd H a (ndO X.prog X.w a xs)) : s.TypeIs (.ref a) "dict" ∧ (∀ b, Value.ref a = .ref b → ∃ ob, s.heap.get? b = some ob ∧ ob.dict = none) ∧ (a == sysModules) = false := by
  obtain ⟨z, hs, vs, rel, o, es, ep, h1, h2, h3⟩ := nd_of I.hok n
  refine ⟨⟨o, h1, h2.1⟩, fun b q => ?_, hs⟩
  cases q
  exact ⟨o, h1, h2.2.1⟩
end
/-! readings and rules -/
def tNGet (P : Program) (w : World) (td ty : TE) : TE := fun σ H Q => td σ H fun x H1 => ty σ H1 fun y H2 => ∃ a v, x = .ref a ∧ NGet P w H2 a y (some v) ∧ Q v H2
def tNIn (P : Program) (w : World) (ty td : TE) : TE := fun σ H Q => ty σ H fun y H1 => td σ H1 fun x H2 => ∃ a o, x = .ref a ∧ NGet P w H2 a y o ∧ Q (.bl o.isSome) H2
def tNNotIn (P : Program) (w : World) (ty td : TE) : TE := fun σ H Q => ty σ H fun y H1 => td σ H1 fun x H2 => ∃ a o, x = .ref a ∧ NGet P w H2 a y o ∧ Q (.bl (!o.isSome)) H2
def sNPut (P : Program) (w : World) (td ty tv : TE) : TS := fun D σ H => tv σ H fun v H1 => td σ H1 fun x H2 => ty σ H2 fun y H3 => ∃ a H4, x = .ref a ∧ NPut P w H3 a y v H4 ∧ D.nx σ H4
def tNGet2 (P : Program) (w : World) (td ty tx : TE) : TE := fun σ H Q => td σ H fun x H1 => ∃ a xs, x = .ref a ∧ Rd H1 a (ndO P w a xs) ∧ ty σ H1 fun y H2 => tx σ H2 fun z H3 => ∃ o, NGet P w H3 a y o ∧ Q (o.getD z) H3
def tNNew (P : Program) (w : World) : TE := fun _ H Q => ∀ p, H p = none → Q (.ref p) (upd H p (ndO P w p []))
section
variable {X : Cx} {P : Program} {w : World} {o i e f value : Expr} {pos pos' apos cpos : Pos} {td ty tv tx : TE}
theorem pe_nget (hu : X.A.units + 65 < cLine) (ho : PE X o td) (hi : PE X i ty) (hs : NoSl i) (hP : X.prog = P := by rfl) (hw : X.w = w := by rfl) : PE X (.Subscript o i pos) (tNGet P w td ty) := by
  subst hP hw
  refine ⟨fun pins s σ H Q I h => ?_⟩
  refine subD_of PySem.F.slot_dict_getitem.lookup hs (thn (ho.run pins s σ H _ I h) fun u s1 ⟨x, H1, I1, rx, q1⟩ => thn (hi.run pins s1 σ H1 _ I1 q1) fun iv s2 ⟨y, H2, I2, ry, a, v, ex, g, q2⟩ => ?_)
  subst ex
  obtain rfl : u = Value.ref a := rx
  obtain ⟨xs, _, _, n, _⟩ := id g
  exact ⟨(nd_typeIs I2 n.1).1, n_getItem hu I2 g ry fun w' s3 I3 rw' => ⟨v, H2, I3, rw', q2⟩⟩
theorem pc_nin (hu : X.A.units + 65 < cLine) (hi : PE X i ty) (ho : PE X o td) (hP : X.prog = P := by rfl) (hw : X.w = w := by rfl) : PC X .In i o (tNIn P w ty td) := by
  subst hP hw
  refine ⟨fun pins s σ H Q I h => ?_⟩
  refine thn (hi.run pins s σ H _ I h) fun iv s1 ⟨y, H1, I1, ry, q1⟩ => thn (ho.run pins s1 σ H1 _ I1 q1) fun u s2 ⟨x, H2, I2, rx, a, ov, ex, g, q2⟩ => ?_
  subst ex
  obtain rfl : u = Value.ref a := rx
  exact n_in hu I2 g ry fun s3 I3 => ⟨.bl ov.isSome, H2, I3, rfl, q2⟩
theorem pc_nnotin (hu : X.A.units + 65 < cLine) (hi : PE X i ty) (ho : PE X o td) (hP : X.prog = P := by rfl) (hw : X.w = w := by rfl) : PC X .NotIn i o (tNNotIn P w ty td) := by
  subst hP hw
  refine ⟨fun pins s σ H Q I h => ?_⟩
  refine thn (hi.run pins s σ H _ I h) fun iv s1 ⟨y, H1, I1, ry, q1⟩ => thn (ho.run pins s1 σ H1 _ I1 q1) fun u s2 ⟨x, H2, I2, rx, a, ov, ex, g, q2⟩ => ?_
  subst ex
  obtain rfl : u = Value.ref a := rx
  exact n_notIn hu I2 g ry fun s3 I3 => ⟨.bl (!ov.isSome), H2, I3, rfl, q2⟩
theorem ps_nput (hu : X.A.units + 65 < cLine) (ho : PE X o td) (hi : PE X i ty) (hv : PE X value tv) (hs : swapsWith value (some (.Subscript o i pos')) pos.line X.env = pure false) (hP : X.prog = P := by rfl) (hw : X.w = w := by rfl) :
    PS X (.Assign [.Subscript o i pos'] value pos) (sNPut P w td ty tv) := by
  subst hP hw
  refine ⟨fun pins s σ H D I h => ?_⟩
  refine wpAny_Assign_Subscript (thn (hv.run pins s σ H _ I h) fun r s1 ⟨v, H1, I1, rv, q1⟩ => thn (ho.run pins s1 σ H1 _ I1 q1) fun u s2 ⟨x, H2, I2, rx, q2⟩ => thn (hi.run pins s2 σ H2 _ I2 q2) fun iv s3 ⟨y, H3, I3, ry, a, H4, ex, g, q3⟩ => ?_) hs
  subst ex
  obtain rfl : u = Value.ref a := rx
  exact n_setItem hu I3 g ry rv fun s4 I4 => ⟨σ, H4, I4, q3⟩
theorem pe_nget2 (hu : X.A.units + 65 < cLine) (ho : PE X o td) (he : PE X e ty) (hf : PE X f tx) (m : M2 X o "get" apos e f cpos) (hP : X.prog = P := by rfl) (hw : X.w = w := by rfl) : PE X (.Call (.Attribute o "get" apos) [e, f] [] cpos) (tNGet2 P w td ty tx) := by
  subst hP hw
  refine ⟨fun pins s σ H Q I h => ?_⟩
  refine wpAny_Call_method m.base m.few m.line PySem.F.plainAttrs_dict PySem.F.slot_dict_get PySem.F.type_dict_get (thn (ho.run pins s σ H _ I h) fun u s1 ⟨x, H1, I1, rx, a, xs, ex, d, q1⟩ => ?_)
  subst ex
  obtain rfl : u = Value.ref a := rx
  obtain ⟨t1, t2, _⟩ := nd_typeIs I1 d
  refine ⟨t1, t2, ?_⟩
  rw [m.trees]
  refine Calls.callWith_builtin rfl (Calls.evalArgs_plain (Calls.spliced_cons (thn (he.run pins s1 σ H1 _ I1 q1) fun iv s2 ⟨y, H2, I2, ry, q2⟩ =>
    Calls.spliced_cons (thn (hf.run pins s2 σ H2 _ I2 q2) fun fv s3 ⟨z, H3, I3, rz, ov, g, q3⟩ => Calls.spliced_nil ?_))))
  exact n_get2 hu I3 g ry rz fun w' s4 I4 rw' => ⟨_, H3, I4, rw', q3⟩
theorem nd_empty {P : Program} {w : World} {H : Hp} (h : Heap) (hb : sysModules < h.objs.size) : ObjOk P w H (h.push { cls := .type "dict", data := .dict #[] }) h.objs.size (ndO P w h.objs.size []) :=
  ndO_ok ⟨Nat.zero_le _, beq_eq_false_iff_ne.mpr (Ne.symm (Nat.ne_of_lt hb)), [], .nil, _, #[], 0, Heap.get?_push_size _ rfl, ⟨rfl, rfl, rfl⟩, rfl, rfl, List.nodup_nil⟩
theorem pe_nnew (hP : X.prog = P := by rfl) (hw : X.w = w := by rfl) : PE X (.Dict [] [] pos) (tNNew P w) := by
  subst hP hw
  exact ⟨fun pins s σ H Q I h =>
    wpAny_Dict_empty ⟨.ref s.heap.objs.size, _, I.laid (a := s.heap.objs.size) (o := ndO X.prog X.w s.heap.objs.size []) (t' := s.toks) (fun _ _ q => Heap.get?_push_of_some _ q) (Nat.le_refl _) (nd_empty s.heap I.big), rfl, h _ (I.hok.fresh (Nat.le_refl _))⟩⟩
theorem NDat.new {P : Program} {w : World} {H : Hp} {p : Addr} : NDat P w (upd H p (ndO P w p [])) p [] := ⟨.inl upd_same, fun _ h => by cases h⟩
end
/-! .. in d.items(), the dict locked -/
def ItiN (P : Program) (w : World) (d : Addr) (o : Obj) (xs : List Ent) : It :=
  ⟨fun i H => H d = some (.frz o (ndO P w d xs)) ∧ i < xs.length, fun i H x H' => ∃ T b v k, xs[i]? = some (k, b, v) ∧ x = .ref T ∧ H T = none ∧ H' = upd H T (.tup [.ref b, v]), fun i H => H d = some (.frz o (ndO P w d xs)) ∧ xs.length ≤ i⟩
section
variable {P : Program} {w : World} {K : PySem.W.Frag} {d : Addr} {o : Obj} {es : Array DictEntry} {ep : Nat} {xs : List Ent}
theorem frzN {X : Cx} {pins : List (Addr × Obj)} {σ : L2.St} {H : Hp} {s : Shared} (I : Inv X pins σ H s) (h : H d = some (.frz o (ndO X.prog X.w d xs))) : (d == sysModules) = false ∧ s.heap.get? d = some o ∧ o.ExactDict ∧ ∃ (es : Array DictEntry) (ep : Nat), o.data = .dict es ep ∧ es.size = xs.length ∧
    ∀ (i : Nat) k b v, xs[i]? = some (k, b, v) → ∃ (en : DictEntry), es[i]? = some en ∧ en.key = .ref b ∧ RelV v en.val := by
  obtain ⟨hg, hq⟩ := (show ObjOk X.prog X.w H s.heap d (.frz o (ndO X.prog X.w d xs)) from I.hok d _ h)
  obtain ⟨⟨z, hs, vs, rel, o', es, ep, h1, h2, h3, h4, h5⟩, _⟩ := hq
  rw [hg] at h1
  cases h1
  refine ⟨hs, hg, h2, es, ep, h3, ?_, fun i k b v e => ?_⟩
  · have l1 : es.size = vs.length := size_of_entries h4
    have l2 : xs.length = vs.length := Paired.length rel
    omega
  · obtain ⟨q, hq, e1, e2, e3⟩ := L2.paired_get rel e
    have en := entry_at h4 i
    rw [hq] at en
    exact ⟨_, en, by show Value.ref q.2.1 = _; rw [← e2], e3⟩
theorem turn_itemsN {elts : List Expr} {kk : Nat} {tpos : Pos} (it : Addr) (hod : o.data = .dict es ep) :
    Turn P w K (.Tuple elts kk tpos) (ItiN P w d o xs) [it] it (fun i h => ∃ ok ov, IsItemIter h it d i xs.length ep ok ov) where
  mem := by simp
  obj := fun i h st b hb => by
    have e : b = it := by simpa using hb
    subst e
    obtain ⟨ok, ov, e⟩ := st
    exact ⟨_, e, fun v z => nomatch z⟩
  keep := fun i h h' st k => let ⟨ok, ov, e⟩ := st; ⟨ok, ov, k it (by simp) _ e⟩
  item := by
    intro X hP hw hK hc i pins s σ H E I hf st hg
    subst hP hw hK
    obtain ⟨hd, hi⟩ := hg
    obtain ⟨hs, hgd, hx, es', ep', hdt, hsz, ent⟩ := frzN I hd
    obtain ⟨rfl, rfl⟩ := dict_ep hod hdt
    obtain ⟨⟨k, b, v⟩, hkv⟩ : ∃ p, xs[i]? = some p := ⟨xs[i], List.getElem?_eq_getElem hi⟩
    obtain ⟨en, hen, ek, ru⟩ := ent i k b v hkv
    obtain ⟨ok, ov, he⟩ := st
    rw [← hsz] at he
    have hlt : it < s.heap.objs.size := Heap.lt_size he
    have hi' : i < es'.size := by rw [hsz]; exact hi
    have een : es'[i] = en := by
      have := Array.getElem?_eq_getElem hi'
      rw [hen] at this
      exact (Option.some.inj this).symm
    refine DT.nextI he ⟨_, hgd, hx, hdt⟩ hi' fun h' ho hT hz hk => ?_
    rw [een] at ho hT
    refine ⟨_, rfl, wpAny_letOwnedTupleGo_items (s := { s with heap := h' }) ho fun h'' he' sb => ?_⟩
    have hT2 : h''.get? s.heap.objs.size = some { cls := .type "tuple", data := .seq #[en.key, en.val] } := (sb.2 _ (Nat.ne_of_gt hlt)).trans hT
    have new : ObjOk X.prog X.w (upd H s.heap.objs.size (.tup [.ref b, v])) h'' s.heap.objs.size (.tup [.ref b, v]) :=
      ⟨by show 2 ≤ sizeLine; decide, [en.key, en.val], .cons ek (.cons ru .nil), ⟨_, hT2, rfl, _, rfl⟩⟩
    have I1 : Inv X pins σ (upd H s.heap.objs.size (.tup [.ref b, v])) { s with heap := h'' } :=
      I.turnedNew (t' := s.toks) (ch := [it]) (fun b ob hb e => (sb.2 b (by simpa using hb)).trans (hk b ob (by simpa using hb) e)) hf (Nat.le_refl _) new
    refine ⟨.ref s.heap.objs.size, _, I1, rfl, ⟨_, b, v, k, hkv, rfl, I.hok.fresh (Nat.le_refl _), rfl⟩, ⟨en.key, en.val, ?_⟩, fun b hb => ?_⟩
    · rw [← hsz]; exact he'
    · have e : b = it := by simpa using hb
      rw [e, upd_ne (Nat.ne_of_lt hlt)]
      exact (hf it (by simp)).1
  done := by
    intro X hP hw hK hc i pins s σ H E I hf st hg
    subst hP hw hK
    obtain ⟨hd, hi⟩ := hg
    obtain ⟨f0, f1, f2, f3, f4, f5⟩ := hf it (by simp)
    obtain ⟨hs, hgd, hx, es', ep', hdt, hsz, ent⟩ := frzN I hd
    obtain ⟨rfl, rfl⟩ := dict_ep hod hdt
    obtain ⟨ok, ov, he⟩ := st
    rw [← hsz] at he
    exact DT.endI (I.ok.hd hc) he ⟨_, hgd, hx, hdt⟩ (by rw [hsz]; exact hi) fun h' eb => ⟨rfl, I.turned (t' := s.toks) (fun b ob hb e => eb b ob hb e) f0 f1 f3 f4 f5⟩
  self := fun A i s Q E st h => let ⟨_, _, e⟩ := st; PySem.W.kcp_self e h
theorem walk_itemsN : Walk (ItiN P w d o xs) xs.length (fun H => H d = some (.frz o (ndO P w d xs))) (YPair (fun i => xs[i]?.map fun x => .ref x.2.1) (fun i => xs[i]?.map fun x => x.2.2)) := by
  refine ⟨fun _ _ hi q => ⟨q, hi⟩, fun _ q => ⟨q, Nat.le_refl _⟩, fun i H x H' _ _ y => ?_⟩
  obtain ⟨T, b, v, k, h1, h2, h3, h4⟩ := y
  exact ⟨T, .ref b, v, h2, h3, h4, by simp [h1], by simp [h1]⟩
end
def iItemsN (P : Program) (w : World) (td : TE) : TI := fun σ H R => td σ H fun x H1 => ∃ d o xs, x = .ref d ∧ H1 d = some (.frz o (ndO P w d xs)) ∧ R (ItiN P w d o xs) H1
theorem pi_itemsN {X : Cx} {P : Program} {w : World} {e : Expr} {td : TE} {apos cpos : Pos} {elts : List Expr} {kk : Nat} {tpos : Pos} (he : PE X e td) (hbase : attributeBase e "items" X.env (eval e X.env) = eval e X.env := by rfl) (hline : (apos.endLine == cpos.line) = true := by rfl) (hP : X.prog = P := by rfl) (hw : X.w = w := by rfl) :
    PI X (.Tuple elts kk tpos) (.Call (.Attribute e "items" apos) [] [] cpos) (iItemsN P w td) := by
  subst hP hw
  refine ⟨fun pins s σ H R I h => ?_⟩
  refine wpAny_Call_method (T := "dict") (id := "dict.items") hbase rfl hline F.plainAttrs_dict F.slot_dict_items F.type_dict_items (thn (he.run pins s σ H _ I h) fun u s1 ⟨x, H1, I1, rx, d, o, xs, ex, hd, q⟩ => ?_)
  subst ex
  obtain rfl : u = Value.ref d := rx
  obtain ⟨hs, hgd, hx, es, ep, hdt, hsz, ent⟩ := frzN I1 hd
  have raw : DT.Raw s1.heap d es ep := ⟨_, hgd, hx, hdt⟩
  refine ⟨raw.typeIs, fun b q => ?_, ?_⟩
  · cases q
    exact ⟨o, hgd, hx.2.1⟩
  have I2 : Inv X pins σ H1 { s1 with heap := s1.heap.push { cls := .type "dict_items", data := .fields #[.ref d] } } := I1.kept (t' := s1.toks) fun b ob q => Heap.get?_push_of_some _ q
  have fin : wpAny (model X.prog X.w) X.A (pyIter (.ref s1.heap.objs.size)) (PIE X pins σ (.Tuple elts kk tpos) R) X.xe { s1 with heap := s1.heap.push { cls := .type "dict_items", data := .fields #[.ref d] } } := by
    refine DT.iterI (d := d) ⟨_, Heap.get?_push_size _ rfl, rfl, rfl⟩ (raw.push _) (pi_one (tk := s1.toks) I2 _ (turn_itemsN _ hdt) ⟨.none, .none, ?_⟩ q)
    rw [← hsz]
    exact Heap.get?_push_size _ rfl
  show wpAny _ _ (callWith cpos (.builtin "dict.items") [.ref d] [] []) _ X.xe s1
  exact method_meetsIn F.slot_dict_items F.entry_dict_items rfl (PySem.evalArgs_none ⟨rfl, raw.typeIs, F.args_dict_items_1 _, _, DT.meetsItems (es := es) (ep := ep) hs, raw, fin⟩)
end NDi

/-! dict(list of pairs), the keys nested tuples -/
namespace NDi
open PySem PySem.W PySem.Calls PyProof.Rows PyProof.V PySem.Spec L2
def putsN (xs ps : List Ent) : List Ent := ps.foldl (fun acc e => putN acc e.1 e.2.1 e.2.2) xs
theorem RE.puts : ∀ {ps : List Ent} {qs : List (NestedKey × Addr × Value)}, RE ps qs → ∀ {xs : List Ent} {vs : List (NestedKey × Addr × Value)}, RE xs vs → RE (putsN xs ps) (storedAllH vs qs)
  | _, _, .nil, _, _, r => r
  | _, _, .cons (a := p) (b := q) h t, xs, vs, r => by
    obtain ⟨h1, h2, h3⟩ := h
    have := RE.puts t (r.put p.1 p.2.1 h3)
    show RE (putsN (putN xs p.1 p.2.1 p.2.2) _) (storedAllH (storedH vs q.1 q.2.1 q.2.2) _)
    rw [← h1, ← h2]
    exact this
theorem putsN_len : ∀ (ps xs : List Ent), (putsN xs ps).length ≤ xs.length + ps.length
  | [], xs => Nat.le_refl _
  | e :: ps, xs => by
    have h1 := putsN_len ps (putN xs e.1 e.2.1 e.2.2)
    have h2 := putN_len xs e.1 e.2.1 e.2.2
    show (putsN (putN xs e.1 e.2.1 e.2.2) ps).length ≤ xs.length + (ps.length + 1)
    omega
section
variable {X : Cx} {pins : List (Addr × Obj)} {σ : L2.St} {H : Hp} {s : Shared}
abbrev PairN (K : PySem.W.Frag) (H : Hp) (t : Addr) (e : Ent) : Prop := SqT K H t [.ref e.2.1, e.2.2] ∧ NK H e.1 (.ref e.2.1) ∧ e.1.depth ≤ 8
theorem npairs_of (I : Inv X pins σ H s) : ∀ {ts : List Addr} {ps : List Ent}, Paired (PairN X.K H) ts ps → ∃ qs : List (NestedKey × Addr × Value), RE ps qs ∧ qs.length = ts.length ∧ (∀ (j : Nat) q, qs[j]? = some q → ∃ b, ts[j]? = some b ∧ s.heap.IsTuple b #[.ref q.2.1, q.2.2]) ∧ ∀ q ∈ qs, NestedIs s.heap q.1 (.ref q.2.1) ∧ q.1.depth ≤ 8
  | _, _, .nil => ⟨[], .nil, rfl, fun j q e => by simp at e, fun q h => by cases h⟩
  | _, _, .cons (a := p) (b := e) h t => by
    obtain ⟨qs, r, hl, hp, hn⟩ := npairs_of I t
    obtain ⟨h1, h2, h3⟩ := h
    obtain ⟨its, rv, ht, _⟩ := I.tuple h1
    obtain ⟨u, y, ei, ru, ry⟩ := vals2 rv
    subst ei
    cases ru
    refine ⟨(e.1, e.2.1, y) :: qs, .cons ⟨rfl, rfl, ry⟩ r, by rw [List.length_cons, List.length_cons, hl], fun j q e' => ?_, fun q hq => ?_⟩
    · cases j with
      | zero =>
        have e2 : (e.1, e.2.1, y) = q := Option.some.inj e'
        subst e2
        exact ⟨p, rfl, ht⟩
      | succ j =>
        obtain ⟨b, e1, e2⟩ := hp j q (by simpa using e')
        exact ⟨b, by simpa using e1, e2⟩
    · rcases List.mem_cons.mp hq with rfl | hq
      · exact ⟨nk_is I.hok _ h2 rfl, h3⟩
      · exact hn q hq
theorem call_dictN (hcalm : X.calm = true) (hu : X.A.units + 65 < cLine) : CallR X (.type "dict") (fun xs H Q => ∃ (a : Addr) (ts : List Addr) (ps : List Ent), xs = [.ref a] ∧ SqL X.K H a (ts.map V.ref) ∧ Paired (PairN X.K H) ts ps ∧
    ∀ p, H p = none → Q (.ref p) (upd H p (ndO X.prog X.w p (putsN [] ps)))) := by
  intro pins s σ H xs us Q I r q
  obtain ⟨a, ts, ps, ex, hq, hp, q⟩ := q
  subst ex
  obtain ⟨u, eu, rx⟩ := vals1 r
  subst eu
  cases rx
  obtain ⟨its, rv, pl, hz⟩ := I.list hq
  have ei := refs_at rv
  subst ei
  rw [List.length_map] at hz
  obtain ⟨qs, rel, hl, hpr, hnk⟩ := npairs_of I hp
  obtain ⟨o, n, ho, hc, hd, hdat⟩ := pl
  have hln := rel.length
  refine call_dict_pairsH (knd := nestedKind X.prog X.w) (ps := qs) (PairArg.list (prog := X.prog) (w := X.w) a (ts.map Value.ref).toArray (fun j => ts.getD j 0) (qs.map fun q => (Value.ref q.2.1, q.2.2))) (I.ok.hd hcalm) (by show X.A.in1.in1.units + 8 < cLine; rw [Around.in1_units, Around.in1_units]; omega) ⟨⟨o, n, ho, hc, hd, hdat⟩, by simp [hl], fun j k v e => ?_⟩ ⟨by simp, fun i key v e => ?_⟩ (fun h' hk x hx => ?_) (by simp; omega) fun h' tk hd' k => ?_
  · rw [List.getElem?_map] at e
    obtain ⟨q0, e1, e2⟩ := Option.map_eq_some_iff.mp e
    cases e2
    obtain ⟨b, e3, e4⟩ := hpr j q0 e1
    refine ⟨by simp [e3, List.getD_eq_getElem?_getD], .inl ?_⟩
    show s.heap.IsTuple (ts.getD j 0) _
    rw [List.getD_eq_getElem?_getD, e3]
    exact e4
  · have e' : (qs.map fun q => (Value.ref q.2.1, q.2.2))[i]? = some (key, v) := e
    rw [List.getElem?_map] at e'
    obtain ⟨q0, e1, e2⟩ := Option.map_eq_some_iff.mp e'
    cases e2
    exact ⟨q0.1, q0.2.1, e1, rfl⟩
  · obtain ⟨h1, h2⟩ := hnk x hx
    refine ⟨NestedIs.at (fun b ob vs n hb hc => hk b ob (Nat.ne_of_lt (Heap.lt_size hb)) (by simp) hb) _ _ h1, h2⟩
  · have hm : (s.heap.objs.size == sysModules) = false := beq_eq_false_iff_ne.mpr (Nat.ne_of_gt I.big)
    have hlen : (putsN [] ps).length ≤ sizeLine := by
      have := putsN_len ps []
      rw [List.length_nil] at this
      omega
    obtain ⟨qo, es, ep, g1, g2, g3, g4, _, g5⟩ := hd'
    exact ⟨.ref s.heap.objs.size, upd H s.heap.objs.size (ndO X.prog X.w s.heap.objs.size (putsN [] ps)), I.laid (t' := tk) (fun b o e => k b o (by simp) e) (Nat.le_refl _) (ndO_ok ⟨hlen, hm, _, RE.puts rel .nil, qo, es, ep, g1, g2, g3, g4, g5⟩), rfl, q _ (I.hok.fresh (Nat.le_refl _))⟩
end
end NDi

namespace My
open PySem L2 C8 SX
/-! own base: tests, heaps -/
theorem bo_len : bootBuiltins "len" = some (.builtin "len") := by decide +kernel
theorem bo_isinstance : bootBuiltins "isinstance" = some (.builtin "isinstance") := by decide +kernel
theorem bo_min : bootBuiltins "min" = some (.builtin "min") := by decide +kernel
theorem bo_max : bootBuiltins "max" = some (.builtin "max") := by decide +kernel
theorem bo_abs : bootBuiltins "abs" = some (.builtin "abs") := by decide +kernel
theorem bo_int : bootBuiltins "int" = some (.type "int") := by decide +kernel
theorem bo_str : bootBuiltins "str" = some (.type "str") := by decide +kernel
theorem bo_bool : bootBuiltins "bool" = some (.type "bool") := by decide +kernel
theorem bo_list : bootBuiltins "list" = some (.type "list") := by decide +kernel
theorem bo_ord : bootBuiltins "ord" = some (.builtin "ord") := by decide +kernel
theorem bo_chr : bootBuiltins "chr" = some (.builtin "chr") := by decide +kernel
theorem bo_sum : bootBuiltins "sum" = some (.builtin "sum") := by decide +kernel
theorem bo_all : bootBuiltins "all" = some (.builtin "all") := by decide +kernel
theorem bo_any : bootBuiltins "any" = some (.builtin "any") := by decide +kernel
theorem bo_sorted : bootBuiltins "sorted" = some (.builtin "sorted") := by decide +kernel
theorem bo_dict : bootBuiltins "dict" = some (.type "dict") := by decide +kernel
theorem bo_tuple : bootBuiltins "tuple" = some (.type "tuple") := by decide +kernel
theorem iteD {p A B : Prop} [Decidable p] (h1 : p → A) (h2 : ¬ p → B) : if decide p = true then A else B := by
  by_cases h : p
  · rw [decide_eq_true h]; exact iteT (h1 h)
  · rw [decide_eq_false h]; exact iteF (h2 h)
theorem iteN {p A B : Prop} [Decidable p] (h1 : ¬ p → A) (h2 : p → B) : if (!decide p) = true then A else B := by
  by_cases h : p
  · rw [decide_eq_true h]; exact iteF (h2 h)
  · rw [decide_eq_false h]; exact iteT (h1 h)
theorem iteDT {p A B : Prop} [Decidable p] (h : p) (k : A) : if decide p = true then A else B := iteD (fun _ => k) fun z => absurd h z
theorem iteDF {p A B : Prop} [Decidable p] (h : ¬ p) (k : B) : if decide p = true then A else B := iteD (fun z => absurd z h) fun _ => k
theorem iteNT {p A B : Prop} [Decidable p] (h : ¬ p) (k : A) : if (!decide p) = true then A else B := iteN (fun _ => k) fun z => absurd z h
theorem iteNF {p A B : Prop} [Decidable p] (h : p) (k : B) : if (!decide p) = true then A else B := iteN (fun z => absurd h z) fun _ => k
theorem iteB {b : Bool} {A B : Prop} (h1 : b = true → A) (h2 : b = false → B) : if b = true then A else B := by
  cases b with
  | true => exact iteT (h1 rfl)
  | false => exact iteF (h2 rfl)
/-- in a comprehension without a test -/
theorem yes_then {σ : St} {H : Hp} {F G : Hp → Prop} (h : F H) : tYes σ H (fun b H3 => if b = true then F H3 else G H3) := h
/-- all that was tracked stands, but at W -/
def Keep (W : List Addr) (H H' : Hp) : Prop := ∀ b o, H b = some o → b ∉ W → H' b = some o
theorem Keep.refl (W : List Addr) (H : Hp) : Keep W H H := fun _ _ h _ => h
theorem Keep.trans {W : List Addr} {H H1 H2 : Hp} (a : Keep W H H1) (b : Keep W H1 H2) : Keep W H H2 := fun c o h w => b c o (a c o h w) w
theorem Keep.mono {W W' : List Addr} {H H1 : Hp} (a : Keep W H H1) (h : ∀ b, b ∈ W → b ∈ W') : Keep W' H H1 := fun c o q w => a c o q fun z => w (h c z)
theorem Keep.new {W : List Addr} {H : Hp} {p : Addr} {o : HO} (h : H p = none) : Keep W H (upd H p o) := fun b u q _ => by
  rw [upd_ne (ne_of_none q h)]; exact q
theorem Keep.at_ {W : List Addr} {H : Hp} {p : Addr} {o : HO} (h : p ∈ W) : Keep W H (upd H p o) := fun b u q w => by
  rw [upd_ne (fun z => w (by rw [z]; exact h))]; exact q
theorem Keep.then_new {W : List Addr} {H H1 : Hp} {p : Addr} {o : HO} (a : Keep W H H1) (h : H1 p = none) : Keep W H (upd H1 p o) := a.trans (Keep.new h)
theorem Keep.then_at {W : List Addr} {H H1 : Hp} {p : Addr} {o : HO} (a : Keep W H H1) (h : p ∈ W) : Keep W H (upd H1 p o) := a.trans (Keep.at_ h)
/-- what was new since H is not among the kept -/
theorem Keep.then_own {W : List Addr} {H H1 : Hp} {p : Addr} {o : HO} (a : Keep W H H1) (h : H p = none) : Keep W H (upd H1 p o) := fun b u q w => by
  rw [upd_ne (ne_of_none q h)]; exact a b u q w
theorem Keep.free {H H' : Hp} (e : Keep [] H H') {l : Addr} (h : H' l = none) : H l = none := by
  cases q : H l with
  | none => rfl
  | some o => rw [e l o q (by simp)] at h; cases h
theorem Keep.free1 {H H' : Hp} {p : Addr} {o : HO} (e : Keep [p] H H') (hp : H' p = some o) {l : Addr} (h : H' l = none) : H l = none := by
  cases q : H l with
  | none => rfl
  | some u =>
    by_cases z : l = p
    · subst z; rw [hp] at h; cases h
    · rw [e l u q (by simpa using z)] at h; cases h
theorem Keep.seqL {W : List Addr} {K : PySem.W.Frag} {H H' : Hp} {a : Addr} {xs : List V} (e : Keep W H H') (h : SqL K H a xs) (w : a ∉ W) : SqL K H' a xs := by
  rcases h with (h | ⟨o, h⟩) | h
  · exact .inl (.inl (e _ _ h w))
  · exact .inl (.inr ⟨o, e _ _ h w⟩)
  · exact .inr h
theorem Keep.seqT {W : List Addr} {K : PySem.W.Frag} {H H' : Hp} {a : Addr} {xs : List V} (e : Keep W H H') (h : SqT K H a xs) (w : a ∉ W) : SqT K H' a xs := by
  rcases h with (h | ⟨o, h⟩) | h
  · exact .inl (.inl (e _ _ h w))
  · exact .inl (.inr ⟨o, e _ _ h w⟩)
  · exact .inr h
theorem Keep.same {H H' : Hp} (e : Keep [] H H') : Same H H' := fun b o h => e b o h (by simp)
theorem ints_get {ns : List Int} {i : Nat} {v : V} (h : (ns.map V.int)[i]? = some v) : ∃ z, ns[i]? = some z ∧ v = V.int z := by
  rw [List.getElem?_map] at h
  cases e : ns[i]? with
  | none => rw [e] at h; cases h
  | some z => rw [e] at h; exact ⟨z, rfl, (Option.some.inj h).symm⟩
theorem strs_get {ns : List Str} {i : Nat} {v : V} (h : (ns.map V.str)[i]? = some v) : ∃ z, ns[i]? = some z ∧ v = V.str z := by
  rw [List.getElem?_map] at h
  cases e : ns[i]? with
  | none => rw [e] at h; cases h
  | some z => rw [e] at h; exact ⟨z, rfl, (Option.some.inj h).symm⟩
theorem smallM {n : Nat} (h : n ≤ 1000000) : n ≤ sizeLine := Nat.le_trans h (by decide)
theorem smallL {n : Nat} (h : n ≤ 1000000) : n < sizeLine := Nat.lt_of_le_of_lt h (by decide)
/-- a promise that asks the impossible: any def at all keeps it -/
def spNo : Sp := fun _ _ _ _ => False
/-! the same rules with the written part named (within a comprehension) -/
section
variable {X : Cx} {K : PySem.W.Frag}
theorem pe_fldK {e : Expr} {f : Str} {pos : Pos} {ta : TE} (he : PE X e ta) (hb : attributeBase e f X.env (eval e X.env) = eval e X.env) (hK : X.K = K := by rfl) : PE X (.Attribute e f pos) (tFld K ta f) := hK ▸ pe_fld he hb
theorem ix_listK (hK : X.K = K := by rfl) : IxR X (rIxL K) := hK ▸ ix_list
theorem ix_tupK (hK : X.K = K := by rfl) : IxR X (rIxT K) := hK ▸ ix_tup
theorem sl_listK (hK : X.K = K := by rfl) : SlR X (rSlL K) := hK ▸ sl_list
theorem sl_tupK (hK : X.K = K := by rfl) : SlR X (rSlT K) := hK ▸ sl_tup
theorem call_len_seqK (hK : X.K = K := by rfl) : CallR X (.builtin "len") (fun xs H Q => ∃ p ys, xs = [.ref p] ∧ (SqL K H p ys ∨ SqT K H p ys) ∧ Q (.int ys.length) H) := hK ▸ call_len_seq
theorem call_list_ofK (hK : X.K = K := by rfl) : CallR X (.type "list") (fun xs H Q => ∃ p ys, xs = [.ref p] ∧ (SqL K H p ys ∨ SqT K H p ys) ∧ ∀ l, H l = none → Q (.ref l) (upd H l (.lst ys))) := hK ▸ call_list_of
theorem call_isiK2 (hK : X.K = K := by rfl) : CallR X (.builtin "isinstance") (rIsi K) := hK ▸ call_isi
end
/-- behind the making of an instance -/
theorem keep_made {H H2 : Hp} {x dx : Addr} {o : HO} (hx : H x = none) (hd : H dx = none) (k : Keep [x] (upd (upd H dx (.own x)) x o) H2) : Keep [] H H2 := fun b u e _ =>
  k b u (by rw [upd_ne (ne_of_none e hx), upd_ne (ne_of_none e hd)]; exact e) (by simpa using ne_of_none e hx)
theorem kitSelf {K : PySem.W.Frag} {C : Addr} : PySem.W.kitOne K (.ref C) (.ref C) = some true := by
  unfold PySem.W.kitOne
  simp
/-- a call without arguments -/
theorem pe_c0 {X : Cx} {x : Str} {p pos : Pos} {k j : Nat} {sp : Sp} {dvs : List V} (c : C8.Cal X.prog X.w X.K X.mg X.base k x sp dvs) (hr : Room j X.A) (hk : k ≤ j) (hg : Gl X x) (hdb : (x == ("__debug__" : Str)) = false := by decide) :
    PE X (.Call (.Name x p) [] [] pos) (tCall sp dvs C8.E0 tNil) := by
  obtain ⟨f, fd, ps, ds, F, hm, kp, b, d⟩ := c.ex
  exact pe_call0 F (hr.mono hk) hg hm kp b d C8.pass0 hdb

/-! in a comprehension: unpack a tuple (the written part named) -/
theorem pg_tupK {X : Cx} {K : PySem.W.Frag} {es : List Expr} {k : Nat} {t : TGs} {n : Nat} {pos : Pos} (h : PGs X es t) (hc : X.calm = true := by rfl) (hK : X.K = K := by rfl)
    (hn : (assignEach es X.env).length = n := by rfl) (hst : (assignEach es X.env).findIdx? (·.1) = none := by rfl) : PG X (.Tuple es k pos) (gTup K n t) := hK ▸ pg_tup hc h hn hst
theorem op_in_seqK {X : Cx} {K : PySem.W.Frag} (hK : X.K = K := by rfl) : OpR X (compareOp .In) (rIn K false) := hK ▸ op_in_seq
theorem op_notIn_seqK {X : Cx} {K : PySem.W.Frag} (hK : X.K = K := by rfl) : OpR X (compareOp .NotIn) (rIn K true) := hK ▸ op_notIn_seq

/-! == and != by a def of the text's own, whatever it answers -/
structure Own (P : Program) (w : World) (K : PySem.W.Frag) (mg : Str → Option Value) (base : Heap) (k : Nat) (C : Addr) (nm : Str) (sp : Sp) : Prop where
  ex : ∃ (f : Addr) (fd : FuncData) (ps : List Str), PySem.W.findIn K (.ref C) nm = some (some (.ref f)) ∧ PySem.W.isFn K (.ref f) = true ∧ FnOk P w K mg base C8.CX0 k f fd ps sp ∧ Binds K fd ps []
def qB (Q : VK) : VK := fun v H => match v with
  | .bl r => Q (.bl r) H
  | _ => False
def qN (Q : VK) : VK := fun v H => match v with
  | .bl r => Q (.bl (!r)) H
  | _ => False
/-- two instances of the class at C: what the own def answers -/
def rOwn (C : Addr) (sp : Sp) : R2 := fun x y H Q => ∃ a b dx dy fs gs, x = .ref a ∧ y = .ref b ∧ H a = some (.ins C dx fs) ∧ H b = some (.ins C dy gs) ∧ sp [.ref a, .ref b] H (qB Q) C8.E0
def rOwnN (C : Addr) (sp : Sp) : R2 := fun x y H Q => ∃ a b dx dy fs gs, x = .ref a ∧ y = .ref b ∧ H a = some (.ins C dx fs) ∧ H b = some (.ins C dy gs) ∧ sp [.ref a, .ref b] H (qN Q) C8.E0
theorem ne_bind (self : Value) : bindSpecial (.builtin "object.__ne__") self = pure (.builtin "object.__ne__", [self]) :=
  (Slot.of (T := "object") (name := "__ne__") (owner := "object") (n := "__ne__") (by rw [typeLookup_type, builtinLookup_eq_fast]; kernel_rfl) (by decide +kernel) (by decide +kernel) (by decide +kernel)
    (.inl (by decide +kernel)) (by rw [isSubtype_type]; kernel_rfl)).bind self
theorem ne_plain : plainId "object.__ne__" = true := by decide +kernel
section
variable {X : Cx} {k j : Nat} {C : Addr} {sp : Sp}
theorem own_call {A : Around} {pins : List (Addr × Obj)} {s : Shared} {σ : St} {H : Hp} {a b f : Addr} {fd : FuncData} {ps : List Str} {Q : VK} (sb : Sub X k A) (I : Inv X pins σ H s)
    (F : FnOk X.prog X.w X.K X.mg X.base C8.CX0 k f fd ps sp) (bi : Binds X.K fd ps []) (hsp : sp [.ref a, .ref b] H Q C8.E0) :
    wpAny (model X.prog X.w) A (call (.ref f) [.ref a, .ref b]) (fun v s' => ∃ z H', Inv X pins σ H' s' ∧ RelV z v ∧ Q z H') X.xe s := by
  have e0 : Env0 X.prog X.w X.K X.mg X.base A X.stack s H := by
    have e := I.env0
    exact ⟨by rw [sb.fr]; exact e.frames, e.mod, e.bs, e.bsz, e.funs, e.frf, e.hok, e.bare⟩
  have hl := F.len _ _ _ _ hsp
  have r2 : Vals [V.ref a, V.ref b] [Value.ref a, Value.ref b] := .cons rfl (.cons rfl .nil)
  refine wpAny_call (codeAny_mono (F.run A X.stack s H ⟨[.ref a, .ref b], []⟩ [.ref a, .ref b] [.ref a, .ref b] _ C8.E0 sb.room e0 (by
    have := bi s [.ref a, .ref b] I.kIn (by simpa using hl)
    simpa using this) r2 hsp) fun r s' hq => ?_)
  cases r with
  | error e => exact C8.pass0 (X := X) (E := C8.E0) pins σ H s e s' I hq
  | ok fl =>
    cases fl with
    | ret w =>
      obtain ⟨z, H', I', rz, ez⟩ := I.after hq
      exact ⟨z, H', I', rz, ez⟩
    | next => exact False.elim hq
    | brk => exact False.elim hq
    | cont => exact False.elim hq
theorem op_own (c : Own X.prog X.w X.K X.mg X.base k C "__eq__" sp) (hr : Room j X.A) (hk : k ≤ j) : OpR X (compareOp .Eq) (rOwn C sp) := by
  intro pins s σ H x y v u Q I rx ry hq
  obtain ⟨f, fd, ps, hs, hf, F, bi⟩ := c.ex
  obtain ⟨a, b, dx, dy, fs, gs, rfl, rfl, ha, hb, hsp⟩ := hq
  cases rx
  cases ry
  obtain ⟨mA, J, _⟩ := ins_get I.hok ha
  obtain ⟨mB, J', _⟩ := ins_get I.hok hb
  obtain ⟨od, J, _⟩ := J.look
  obtain ⟨od', J', _⟩ := J'.look
  obtain ⟨m, hF⟩ := I.fr
  have sb : Sub X k X.A := ⟨hr.mono hk, rfl⟩
  show wpAny (model X.prog X.w) X.A (richCompare .Eq (.ref a) (.ref b)) (EP X pins σ Q) X.xe s
  refine PySem.W.cmp_K (op := .Eq) (tb := .ref C) sb.room.units0 hF I.ok.mod.kin J J'.type (by simp [PySem.W.notFirst]) hs hf ?_
  refine wpAny_mono (own_call sb I F bi hsp) (fun v s' z => ?_) fun _ _ x => x
  obtain ⟨z, H', I', rz, q⟩ := z
  cases z with
  | bl r => cases rz; exact ⟨.bl r, H', I', rfl, q⟩
  | _ => exact False.elim q
theorem op_ownN (c : Own X.prog X.w X.K X.mg X.base k C "__eq__" sp) (hn : PySem.W.findIn X.K (.ref C) "__ne__" = some (some (.builtin "object.__ne__"))) (hm : PySem.W.mroIn X.K C (.type "object") = some true) (hr : Room j X.A) (hk : k + 1 ≤ j) : OpR X (compareOp .NotEq) (rOwnN C sp) := by
  intro pins s σ H x y v u Q I rx ry hq
  obtain ⟨f, fd, ps, hs, hf, G, bi⟩ := c.ex
  obtain ⟨a, b, dx, dy, fs, gs, rfl, rfl, ha, hb, hsp⟩ := hq
  cases rx
  cases ry
  obtain ⟨mA, J, _⟩ := ins_get I.hok ha
  obtain ⟨mB, J', _⟩ := ins_get I.hok hb
  obtain ⟨od, J, _⟩ := J.look
  obtain ⟨od', J', _⟩ := J'.look
  obtain ⟨m, hF⟩ := I.fr
  have sb : Sub X (k + 1) X.A := ⟨hr.mono hk, rfl⟩
  have XK := I.ok.mod.kin.keeps hF.keep
  show wpAny (model X.prog X.w) X.A (richCompare .NotEq (.ref a) (.ref b)) (EP X pins σ Q) X.xe s
  unfold richCompare
  simp only [oneThing_ref]
  refine wpAny_holding (wpAny_bind (wpAny_cRoomFor sb.room.units0 ?_))
  rw [cmpInfo_NotEq]
  dsimp only
  refine wpAny_bind (J.type.here (wpAny_bind (J'.type.here ?_)))
  rw [show (Value.ref C != Value.ref C) = false from by simp]
  simp only [Bool.false_eq_true, if_false]
  refine wpAny_bind (wpAny_pure ?_)
  simp only [Bool.false_eq_true, if_false]
  have fin : ∀ (v : Value) (s' : Shared), (∃ z H', Inv X pins σ H' s' ∧ RelV z v ∧ qN Q z H') → ∃ r : Bool, v = .bool r ∧ EP X pins σ Q (.bool (!r)) s' := by
    rintro v s' ⟨z, H', I', rz, q⟩
    cases z with
    | bl r => cases rz; exact ⟨r, rfl, .bl (!r), H', I', rfl, q⟩
    | _ => exact False.elim q
  have inner : wpAny (model X.prog X.w) X.A (call (.builtin "object.__ne__") [.ref a, .ref b]) (fun v s' => ∃ r : Bool, v = .bool r ∧ EP X pins σ Q v s') X.xe s := by
    refine wpAny_call (codeAny_call_builtin ne_plain PySem.F.cmpEntry_ne (PySem.W.check_slot PySem.F.cmpKind_ne PySem.F.cmpSplit_ne (J.type.andThen (PySem.W.looks_mroIn XK hm)) (PySem.F.cmpArgs_ne _ _) ?_))
    unfold Builtin.«object.__ne__»
    repeat (first
      | with_reducible refine wpAny_cRoomFor sb.in1.room.units0 ?_
      | (refine wpAny_bind (m := callSpecialIfBound? (.ref a) (Str.ofString "__eq__") [.ref b]) (PySem.W.ifBound_K XK J hs hf (wpAny_mono (own_call sb.in1 I G bi hsp) (fun v s' z => ?_) fun _ _ x => x)))
      | wp_step)
    obtain ⟨r, rfl, q⟩ := fin v s' z
    refine wpAny_bind (m := truthy (.bool _)) (wpAny_truthy_bool ?_)
    exact wpAny_pure ⟨!r, rfl, q⟩
  unfold tryCompare
  refine wpAny_bind (wpAny_bind ?_)
  simp only [callSpecialIfBound?, bindSpecialIfBound?]
  refine wpAny_holding (wpAny_bind (wpAny_bind (wpAny_bind (J.type.here ((PySem.W.looks_findIn XK hn).here ?_)))))
  refine wpAny_bind (wpAny_askSetting (wpAny_ite ?_))
  split
  · refine wpAny_bind ?_
    rw [ne_bind]
    refine wpAny_pure (wpAny_pure ?_)
    refine wpAny_bind (wpAny_mono inner (fun v s' z => ?_) fun _ _ x => x)
    obtain ⟨r, rfl, q⟩ := z
    exact wpAny_pure (wpAny_pure (wpAny_pure q))
  · refine wpAny_tryCatch (wpAny_bind ?_)
    rw [ne_bind]
    refine wpAny_pure (wpAny_pure ?_)
    refine wpAny_bind (wpAny_mono inner (fun v s' z => ?_) fun _ _ x => x)
    obtain ⟨r, rfl, q⟩ := z
    exact wpAny_pure (wpAny_pure (wpAny_pure q))
end

/-! == of two lists as long as each other whose items are instances with an own __eq__ that answers True each time: the state may change within -/
namespace EqW
open PySem PySem.W PySem.Calls PyProof.V PySem.Spec L2 PySem.SeqAt
open MeetsSeq MeetsSeq2 MeetsSeq3 SeqRoads2
theorem eq_loopW {prog : Program} {w : World} (l b : Addr) (items items2 : Array Value) (hsz : items.size = items2.size) (W : Nat → Shared → Prop) (hW : ∀ i s, W i s → s.heap.IsList l items ∧ s.heap.IsList b items2) (k : Nat) :
    ∀ i : Nat, items.size - i = k → i ≤ items.size → MeetsIn prog w (Builtin.«list.__eq__.loop» ⟨[.ref l, .ref b, rawInt i, rawInt 2], []⟩)
      (fun A R s => W i s ∧ (∀ j (h1 : j < items.size) (h2 : j < items2.size) s, W j s → wpAny (model prog w) A.in1 (eqBool items[j] items2[j]) (fun v s' => v = true ∧ W (j + 1) s') (fun e s' => R (.error e) s') s) ∧
        ∀ s', W items.size s' → R (.ok (.ret (.bool true))) s') := by
  induction k with
  | zero =>
    intro i hk hile A R s h
    obtain ⟨hp, g, d, tk, os⟩ := s; obtain ⟨hw, he, h⟩ := h
    obtain ⟨h1, h2⟩ := hW _ _ hw
    obtain ⟨⟨cls, dd, data, sl⟩, ho, hc, n, hd⟩ := id h1
    obtain ⟨⟨cls2, dd2, data2, sl2⟩, ho2, hc2, n2, hd2⟩ := id h2
    simp only at hc hd hc2 hd2
    subst hc hd hc2 hd2
    wp_walk using PySem.AutoSeq1.wpAny_loadPart' ho, PySem.AutoSeq1.wpAny_loadPart' ho2
    have hi : i = items.size := by omega
    subst hi
    have hi1 : items[((items.size : Nat) : Int).toNat]? = none := by simp
    have hi2 : items2[((items.size : Nat) : Int).toNat]? = none := by simp [hsz]
    rw [hi1, hi2]
    wp_walk using PySem.AutoSeq1.wpAny_loadPart' ho, PySem.AutoSeq1.wpAny_loadPart' ho2
    show R (.ok (.ret (.bool (items.size == items2.size)))) _
    rw [show (items.size == items2.size) = true by simp [hsz]]
    exact h _ hw
  | succ k ih =>
    intro i hk hile A R s h
    obtain ⟨hp, g, d, tk, os⟩ := s; obtain ⟨hw, he, h⟩ := h
    obtain ⟨h1, h2⟩ := hW _ _ hw
    obtain ⟨⟨cls, dd, data, sl⟩, ho, hc, n, hd⟩ := id h1
    obtain ⟨⟨cls2, dd2, data2, sl2⟩, ho2, hc2, n2, hd2⟩ := id h2
    simp only at hc hd hc2 hd2
    subst hc hd hc2 hd2
    wp_walk using PySem.AutoSeq1.wpAny_loadPart' ho, PySem.AutoSeq1.wpAny_loadPart' ho2
    have hlt : i < items.size := by omega
    have hlt2 : i < items2.size := by omega
    have hi1 : items[((i : Nat) : Int).toNat]? = some items[i] := by simp [hlt]
    have hi2 : items2[((i : Nat) : Int).toNat]? = some items2[i] := by simp [hlt2]
    have hc : ((i : Int) + 1) = ((i + 1 : Nat) : Int) := by push_cast; rfl
    rw [hi1, hi2]
    refine wpAny_bind (wpAny_mono (he i hlt hlt2 _ hw) (fun v s' z => ?_) fun _ _ x => x)
    obtain ⟨rfl, hw'⟩ := z
    wp_walk
    rw [hc]
    exact ⟨plainId_quiet plain_eq_loop _, codeAny_builtin entry_eq_loop (by
      rw [Around.under_plainId plain_eq_loop _]
      exact ih (i + 1) (by omega) (by omega) A R _ ⟨hw', he, h⟩)⟩
theorem list_eqW {prog : Program} {w : World} (l b : Addr) (items items2 : Array Value) (hsz : items.size = items2.size) (W : Nat → Shared → Prop) (hW : ∀ i s, W i s → s.heap.IsList l items ∧ s.heap.IsList b items2) :
    MeetsIn prog w (Builtin.«list.__eq__» ⟨[.ref l, .ref b], []⟩)
      (fun A R s => W 0 s ∧ (∀ j (h1 : j < items.size) (h2 : j < items2.size) s, W j s → wpAny (model prog w) A.in1 (eqBool items[j] items2[j]) (fun v s' => v = true ∧ W (j + 1) s') (fun e s' => R (.error e) s') s) ∧
        ∀ s', W items.size s' → R (.ok (.ret (.bool true))) s') := by
  intro A R s h
  obtain ⟨hp, g, d, tk, os⟩ := s; obtain ⟨hw, he, h⟩ := h
  obtain ⟨h1, h2⟩ := hW _ _ hw
  obtain ⟨⟨cls, dd, data, sl⟩, ho, hc, n, hd⟩ := id h1
  obtain ⟨⟨cls2, dd2, data2, sl2⟩, ho2, hc2, n2, hd2⟩ := id h2
  simp only at hc hd hc2 hd2
  subst hc hd hc2 hd2
  have f3 := AutoSeq1.sub_list_list
  have hne : ¬ (items.size != items2.size) = true := by simp [hsz]
  wp_walk using PySem.AutoSeq1.wpAny_loadPart' ho, PySem.AutoSeq1.wpAny_loadPart' ho2
  exact ⟨plainId_quiet plain_eq_loop _, codeAny_builtin entry_eq_loop (by
    rw [Around.under_plainId plain_eq_loop _]
    exact eq_loopW l b items items2 hsz W hW _ 0 rfl (Nat.zero_le _) A R _ ⟨hw, he, h⟩)⟩
theorem compare_listsW {prog : Program} {w : World} {A : Around} {E : Value → Shared → Prop} {s : Shared} {Q : Value → Shared → Prop} {l b : Addr} {items items2 : Array Value} (hsz : items.size = items2.size) (W : Nat → Shared → Prop) (hW : ∀ i s, W i s → s.heap.IsList l items ∧ s.heap.IsList b items2)
    (h0 : W 0 s) (he : ∀ j (h1 : j < items.size) (h2 : j < items2.size) s, W j s → wpAny (model prog w) A.in1 (eqBool items[j] items2[j]) (fun v s' => v = true ∧ W (j + 1) s') E s) (hf : ∀ s', W items.size s' → Q (.bool true) s') (hu : A.units < cLine) :
    wpAny (model prog w) A (richCompare .Eq (.ref l) (.ref b)) Q E s := by
  obtain ⟨h1, h2⟩ := hW _ _ h0
  obtain ⟨o, ho, hc, _⟩ := id h1
  obtain ⟨o2, ho2, hc2, _⟩ := id h2
  refine wpAny_richCompare_same_room ⟨o, ho, hc⟩ ⟨o2, ho2, hc2⟩ F.slot_list_eq (call_meetsIn F.slot_list_eq ⟨o, ho, hc⟩ F.entry_list_eq (F.args_list_eq_2 _ _) (list_eqW l b items items2 hsz W hW) ?_) hu
  exact ⟨h0, he, fun s' hw => ⟨(fun x => nomatch x), hf s' hw⟩⟩
theorem ne_loopW {prog : Program} {w : World} (l b : Addr) (items items2 : Array Value) (hsz : items.size = items2.size) (W : Nat → Shared → Prop) (hW : ∀ i s, W i s → s.heap.IsList l items ∧ s.heap.IsList b items2) (k : Nat) :
    ∀ i : Nat, items.size - i = k → i ≤ items.size → MeetsIn prog w (Builtin.«list.__eq__.loop» ⟨[.ref l, .ref b, rawInt i, rawInt 3], []⟩)
      (fun A R s => W i s ∧ (∀ j (h1 : j < items.size) (h2 : j < items2.size) s, W j s → wpAny (model prog w) A.in1 (eqBool items[j] items2[j]) (fun v s' => v = true ∧ W (j + 1) s') (fun e s' => R (.error e) s') s) ∧
        ∀ s', W items.size s' → R (.ok (.ret (.bool false))) s') := by
  induction k with
  | zero =>
    intro i hk hile A R s h
    obtain ⟨hp, g, d, tk, os⟩ := s; obtain ⟨hw, he, h⟩ := h
    obtain ⟨h1, h2⟩ := hW _ _ hw
    obtain ⟨⟨cls, dd, data, sl⟩, ho, hc, n, hd⟩ := id h1
    obtain ⟨⟨cls2, dd2, data2, sl2⟩, ho2, hc2, n2, hd2⟩ := id h2
    simp only at hc hd hc2 hd2
    subst hc hd hc2 hd2
    wp_walk using PySem.AutoSeq1.wpAny_loadPart' ho, PySem.AutoSeq1.wpAny_loadPart' ho2
    have hi : i = items.size := by omega
    subst hi
    have hi1 : items[((items.size : Nat) : Int).toNat]? = none := by simp
    have hi2 : items2[((items.size : Nat) : Int).toNat]? = none := by simp [hsz]
    rw [hi1, hi2]
    wp_walk using PySem.AutoSeq1.wpAny_loadPart' ho, PySem.AutoSeq1.wpAny_loadPart' ho2
    show R (.ok (.ret (.bool (items.size != items2.size)))) _
    rw [show (items.size != items2.size) = false by simp [hsz]]
    exact h _ hw
  | succ k ih =>
    intro i hk hile A R s h
    obtain ⟨hp, g, d, tk, os⟩ := s; obtain ⟨hw, he, h⟩ := h
    obtain ⟨h1, h2⟩ := hW _ _ hw
    obtain ⟨⟨cls, dd, data, sl⟩, ho, hc, n, hd⟩ := id h1
    obtain ⟨⟨cls2, dd2, data2, sl2⟩, ho2, hc2, n2, hd2⟩ := id h2
    simp only at hc hd hc2 hd2
    subst hc hd hc2 hd2
    wp_walk using PySem.AutoSeq1.wpAny_loadPart' ho, PySem.AutoSeq1.wpAny_loadPart' ho2
    have hlt : i < items.size := by omega
    have hlt2 : i < items2.size := by omega
    have hi1 : items[((i : Nat) : Int).toNat]? = some items[i] := by simp [hlt]
    have hi2 : items2[((i : Nat) : Int).toNat]? = some items2[i] := by simp [hlt2]
    have hc : ((i : Int) + 1) = ((i + 1 : Nat) : Int) := by push_cast; rfl
    rw [hi1, hi2]
    refine wpAny_bind (wpAny_mono (he i hlt hlt2 _ hw) (fun v s' z => ?_) fun _ _ x => x)
    obtain ⟨rfl, hw'⟩ := z
    wp_walk
    rw [hc]
    exact ⟨plainId_quiet plain_eq_loop _, codeAny_builtin entry_eq_loop (by
      rw [Around.under_plainId plain_eq_loop _]
      exact ih (i + 1) (by omega) (by omega) A R _ ⟨hw', he, h⟩)⟩
theorem list_neW {prog : Program} {w : World} (l b : Addr) (items items2 : Array Value) (hsz : items.size = items2.size) (W : Nat → Shared → Prop) (hW : ∀ i s, W i s → s.heap.IsList l items ∧ s.heap.IsList b items2) :
    MeetsIn prog w (Builtin.«list.__ne__» ⟨[.ref l, .ref b], []⟩)
      (fun A R s => W 0 s ∧ (∀ j (h1 : j < items.size) (h2 : j < items2.size) s, W j s → wpAny (model prog w) A.in1 (eqBool items[j] items2[j]) (fun v s' => v = true ∧ W (j + 1) s') (fun e s' => R (.error e) s') s) ∧
        ∀ s', W items.size s' → R (.ok (.ret (.bool false))) s') := by
  intro A R s h
  obtain ⟨hp, g, d, tk, os⟩ := s; obtain ⟨hw, he, h⟩ := h
  obtain ⟨h1, h2⟩ := hW _ _ hw
  obtain ⟨⟨cls, dd, data, sl⟩, ho, hc, n, hd⟩ := id h1
  obtain ⟨⟨cls2, dd2, data2, sl2⟩, ho2, hc2, n2, hd2⟩ := id h2
  simp only at hc hd hc2 hd2
  subst hc hd hc2 hd2
  have f3 := AutoSeq1.sub_list_list
  have hne : ¬ (items.size != items2.size) = true := by simp [hsz]
  wp_walk using PySem.AutoSeq1.wpAny_loadPart' ho, PySem.AutoSeq1.wpAny_loadPart' ho2
  exact ⟨plainId_quiet plain_eq_loop _, codeAny_builtin entry_eq_loop (by
    rw [Around.under_plainId plain_eq_loop _]
    exact ne_loopW l b items items2 hsz W hW _ 0 rfl (Nat.zero_le _) A R _ ⟨hw, he, h⟩)⟩
theorem compare_neW {prog : Program} {w : World} {A : Around} {E : Value → Shared → Prop} {s : Shared} {Q : Value → Shared → Prop} {l b : Addr} {items items2 : Array Value} (hsz : items.size = items2.size) (W : Nat → Shared → Prop) (hW : ∀ i s, W i s → s.heap.IsList l items ∧ s.heap.IsList b items2)
    (h0 : W 0 s) (he : ∀ j (h1 : j < items.size) (h2 : j < items2.size) s, W j s → wpAny (model prog w) A.in1 (eqBool items[j] items2[j]) (fun v s' => v = true ∧ W (j + 1) s') E s) (hf : ∀ s', W items.size s' → Q (.bool false) s') (hu : A.units < cLine) :
    wpAny (model prog w) A (richCompare .NotEq (.ref l) (.ref b)) Q E s := by
  obtain ⟨h1, h2⟩ := hW _ _ h0
  obtain ⟨o, ho, hc, _⟩ := id h1
  obtain ⟨o2, ho2, hc2, _⟩ := id h2
  refine wpAny_richCompare_same_room ⟨o, ho, hc⟩ ⟨o2, ho2, hc2⟩ F.slot_list_ne (call_meetsIn F.slot_list_ne ⟨o, ho, hc⟩ F.entry_list_ne (F.args_list_ne_2 _ _) (list_neW l b items items2 hsz W hW) ?_) hu
  exact ⟨h0, he, fun s' hw => ⟨(fun x => nomatch x), hf s' hw⟩⟩
end EqW

/-! == of two lists that hold the same objects: no own __eq__ is asked -/
def rEqS (K : PySem.W.Frag) : R2 := fun x y H Q => ∃ a b xs, x = .ref a ∧ y = .ref b ∧ SqL K H a xs ∧ SqL K H b xs ∧ (∀ v ∈ xs, ∃ p, v = V.ref p) ∧ Q (.bl true) H
theorem vals_refs : ∀ {xs : List V} {us ws : List Value}, (∀ v ∈ xs, ∃ p, v = V.ref p) → Vals xs us → Vals xs ws → us = ws
  | [], _, _, _, h1, h2 => by cases h1; cases h2; rfl
  | x :: xs, _, _, h, h1, h2 => by
    cases h1 with
    | cons r1 t1 =>
      cases h2 with
      | cons r2 t2 =>
        obtain ⟨p, rfl⟩ := h x (List.mem_cons_self ..)
        cases r1
        cases r2
        rw [vals_refs (fun v hv => h v (List.mem_cons_of_mem _ hv)) t1 t2]
theorem op_eqS {X : Cx} (hu : X.A.units + 1 < cLine) : OpR X (compareOp .Eq) (rEqS X.K) := by
  intro pins s σ H x y v u Q I rx ry h
  obtain ⟨a, b, xs, rfl, rfl, h1, h2, hr, q⟩ := h
  cases rx
  cases ry
  obtain ⟨its, r1, p1, _⟩ := I.list h1
  obtain ⟨its2, r2, p2, _⟩ := I.list h2
  obtain rfl := vals_refs hr r1 r2
  show wpAny (model X.prog X.w) X.A (richCompare .Eq (.ref a) (.ref b)) (EP X pins σ Q) X.xe s
  refine SeqAt.RcAt.lists (e := fun _ => true) p1.isList p2.isList rfl (by omega) (fun j _ _ => SeqAt.EqAt.same _) X.prog X.w X.xe _ ?_
  rw [show (List.range its.toArray.size).all (fun _ => true) = true by simp]
  exact ⟨.bl true, H, I, rfl, q⟩

/-! the same in the hand layer: two lists of instances of the class at C, their own __eq__ answers True and leaves what is tracked -/
def rEqOwn (K : PySem.W.Frag) (C : Addr) (sp : Sp) : R2 := fun x y H Q => ∃ a b xs ys, x = .ref a ∧ y = .ref b ∧ SqL K H a xs ∧ SqL K H b ys ∧ xs.length = ys.length ∧
  (∀ (i : Nat) p q, xs[i]? = some p → ys[i]? = some q → ∃ c d dx dy fs gs, p = V.ref c ∧ q = V.ref d ∧ H c = some (.ins C dx fs) ∧ H d = some (.ins C dy gs) ∧ sp [.ref c, .ref d] H (fun v H' => v = .bl true ∧ H' = H) C8.E0) ∧ Q (.bl true) H
def rNeOwn (K : PySem.W.Frag) (C : Addr) (sp : Sp) : R2 := fun x y H Q => rEqOwn K C sp x y H fun _ H' => Q (.bl false) H'
section
variable {X : Cx} {k j : Nat} {C : Addr} {sp : Sp}
theorem eqBool_own {A : Around} {pins : List (Addr × Obj)} {s : Shared} {σ : St} {H : Hp} {a b : Addr} {dx dy : Addr} {fs gs : List (Str × V)} (c : Own X.prog X.w X.K X.mg X.base k C "__eq__" sp) (sb : Sub X k A) (I : Inv X pins σ H s) (ha : H a = some (.ins C dx fs)) (hb : H b = some (.ins C dy gs))
    (hsp : sp [.ref a, .ref b] H (fun v H' => v = .bl true ∧ H' = H) C8.E0) : wpAny (model X.prog X.w) A (eqBool (.ref a) (.ref b)) (fun v s' => v = true ∧ Inv X pins σ H s') X.xe s := by
  obtain ⟨f, fd, ps, hs, hf, F, bi⟩ := c.ex
  obtain ⟨mA, J, _⟩ := ins_get I.hok ha
  obtain ⟨mB, J', _⟩ := ins_get I.hok hb
  obtain ⟨od, J, _⟩ := J.look
  obtain ⟨od', J', _⟩ := J'.look
  obtain ⟨m, hF⟩ := I.fr
  unfold eqBool
  refine wpAny_holding ?_
  refine wpAny_ite_split (fun _ => ?_) (fun _ => ?_)
  · exact wpAny_bind (wpAny_rule (wpAny_pure ⟨rfl, I⟩))
  · refine wpAny_bind ?_
    refine PySem.W.cmp_K (op := .Eq) (tb := .ref C) sb.room.units0 hF I.ok.mod.kin J J'.type (by simp [PySem.W.notFirst]) hs hf ?_
    refine wpAny_mono (own_call sb I F bi hsp) (fun v s' z => ?_) fun _ _ x => x
    obtain ⟨z, H', I', rz, rfl, rfl⟩ := z
    cases rz
    exact wpAny_truthy_bool ⟨rfl, I'⟩
theorem op_eqOwn (c : Own X.prog X.w X.K X.mg X.base k C "__eq__" sp) (hr : Room j X.A) (hk : k + 1 ≤ j) : OpR X (compareOp .Eq) (rEqOwn X.K C sp) := by
  intro pins s σ H x y v u Q I rx ry hq
  obtain ⟨a, b, xs, ys, rfl, rfl, h1, h2, hlen, hel, q⟩ := hq
  cases rx
  cases ry
  obtain ⟨its, r1, p1, _⟩ := I.list h1
  obtain ⟨its2, r2, p2, _⟩ := I.list h2
  have sb : Sub X (k + 1) X.A := ⟨hr.mono hk, rfl⟩
  have refs1 : ∀ v ∈ xs, ∃ p, v = V.ref p := fun v hv => by
    obtain ⟨i, hi⟩ := List.getElem?_of_mem hv
    have hil := (List.getElem?_eq_some_iff.mp hi).1
    obtain ⟨c, _, _, _, _, _, e, _⟩ := hel i v ys[i] hi (List.getElem?_eq_getElem (by omega))
    exact ⟨c, e⟩
  have refs2 : ∀ v ∈ ys, ∃ p, v = V.ref p := fun v hv => by
    obtain ⟨i, hi⟩ := List.getElem?_of_mem hv
    have hil := (List.getElem?_eq_some_iff.mp hi).1
    obtain ⟨_, d, _, _, _, _, _, e, _⟩ := hel i xs[i] v (List.getElem?_eq_getElem (by omega)) hi
    exact ⟨d, e⟩
  have l1 := r1.length
  have l2 := r2.length
  show wpAny (model X.prog X.w) X.A (richCompare .Eq (.ref a) (.ref b)) (EP X pins σ Q) X.xe s
  refine EqW.compare_listsW (items := its.toArray) (items2 := its2.toArray) (by simp; omega) (fun _ s' => Inv X pins σ H s') (fun i s' I' => ?_) I ?_ (fun s' I' => ⟨.bl true, H, I', rfl, q⟩) sb.room.units0
  · obtain ⟨t1, q1, w1, _⟩ := I'.list h1
    obtain ⟨t2, q2, w2, _⟩ := I'.list h2
    rw [vals_refs refs1 r1 q1, vals_refs refs2 r2 q2]
    exact ⟨w1.isList, w2.isList⟩
  · intro jj j1 j2 s' I'
    have j1' : jj < xs.length := by simp at j1; omega
    obtain ⟨u1, e1, ru1⟩ := r1.get (List.getElem?_eq_getElem j1')
    obtain ⟨u2, e2, ru2⟩ := r2.get (List.getElem?_eq_getElem (show jj < ys.length by omega))
    obtain ⟨c0, d0, dx, dy, fs, gs, ep, eq', hc, hd, hsp⟩ := hel jj _ _ (List.getElem?_eq_getElem j1') (List.getElem?_eq_getElem (show jj < ys.length by omega))
    rw [ep] at ru1
    rw [eq'] at ru2
    cases ru1
    cases ru2
    have g1 : its.toArray[jj] = Value.ref c0 := by
      have : its[jj]? = some (Value.ref c0) := e1
      simpa using (List.getElem?_eq_some_iff.mp this).2
    have g2 : its2.toArray[jj] = Value.ref d0 := by
      have : its2[jj]? = some (Value.ref d0) := e2
      simpa using (List.getElem?_eq_some_iff.mp this).2
    rw [g1, g2]
    exact eqBool_own c sb.in1 I' hc hd hsp
theorem op_neOwn (c : Own X.prog X.w X.K X.mg X.base k C "__eq__" sp) (hr : Room j X.A) (hk : k + 1 ≤ j) : OpR X (compareOp .NotEq) (rNeOwn X.K C sp) := by
  intro pins s σ H x y v u Q I rx ry hq
  obtain ⟨a, b, xs, ys, rfl, rfl, h1, h2, hlen, hel, q⟩ := hq
  cases rx
  cases ry
  obtain ⟨its, r1, p1, _⟩ := I.list h1
  obtain ⟨its2, r2, p2, _⟩ := I.list h2
  have sb : Sub X (k + 1) X.A := ⟨hr.mono hk, rfl⟩
  have refs1 : ∀ v ∈ xs, ∃ p, v = V.ref p := fun v hv => by
    obtain ⟨i, hi⟩ := List.getElem?_of_mem hv
    have hil := (List.getElem?_eq_some_iff.mp hi).1
    obtain ⟨c, _, _, _, _, _, e, _⟩ := hel i v ys[i] hi (List.getElem?_eq_getElem (by omega))
    exact ⟨c, e⟩
  have refs2 : ∀ v ∈ ys, ∃ p, v = V.ref p := fun v hv => by
    obtain ⟨i, hi⟩ := List.getElem?_of_mem hv
    have hil := (List.getElem?_eq_some_iff.mp hi).1
    obtain ⟨_, d, _, _, _, _, _, e, _⟩ := hel i xs[i] v (List.getElem?_eq_getElem (by omega)) hi
    exact ⟨d, e⟩
  have l1 := r1.length
  have l2 := r2.length
  show wpAny (model X.prog X.w) X.A (richCompare .NotEq (.ref a) (.ref b)) (EP X pins σ Q) X.xe s
  refine EqW.compare_neW (items := its.toArray) (items2 := its2.toArray) (by simp; omega) (fun _ s' => Inv X pins σ H s') (fun i s' I' => ?_) I ?_ (fun s' I' => ⟨.bl false, H, I', rfl, q⟩) sb.room.units0
  · obtain ⟨t1, q1, w1, _⟩ := I'.list h1
    obtain ⟨t2, q2, w2, _⟩ := I'.list h2
    rw [vals_refs refs1 r1 q1, vals_refs refs2 r2 q2]
    exact ⟨w1.isList, w2.isList⟩
  · intro jj j1 j2 s' I'
    have j1' : jj < xs.length := by simp at j1; omega
    obtain ⟨u1, e1, ru1⟩ := r1.get (List.getElem?_eq_getElem j1')
    obtain ⟨u2, e2, ru2⟩ := r2.get (List.getElem?_eq_getElem (show jj < ys.length by omega))
    obtain ⟨c0, d0, dx, dy, fs, gs, ep, eq', hc, hd, hsp⟩ := hel jj _ _ (List.getElem?_eq_getElem j1') (List.getElem?_eq_getElem (show jj < ys.length by omega))
    rw [ep] at ru1
    rw [eq'] at ru2
    cases ru1
    cases ru2
    have g1 : its.toArray[jj] = Value.ref c0 := by
      have : its[jj]? = some (Value.ref c0) := e1
      simpa using (List.getElem?_eq_some_iff.mp this).2
    have g2 : its2.toArray[jj] = Value.ref d0 := by
      have : its2[jj]? = some (Value.ref d0) := e2
      simpa using (List.getElem?_eq_some_iff.mp this).2
    rw [g1, g2]
    exact eqBool_own c sb.in1 I' hc hd hsp
end

open NDi
/-! the text by places -/
def top (i : Nat) : Stmt := PySem.Challenge.pw_bothgain_k42_pure_and_even_plans.main.body.getD i (.Pass ⟨0, 0, 0, 0⟩)
abbrev s_pure : Stmt := top 20
theorem sc_pure : FnScope ["views", "moves", "entries", "view", "count", "move", "k"] ["views", "moves"] (fnScope s_pure) := fnScope_by (by decide +kernel)
abbrev s_fits : Stmt := top 22
theorem sc_fits : FnScope ["plan", "tree", "player", "counts", "view", "lots"] ["plan", "tree", "player"] (fnScope s_fits) := fnScope_by (by decide +kernel)
abbrev s_even : Stmt := top 21
theorem sc_even : FnScope ["views", "view", "count", "k"] ["views"] (fnScope s_even) := fnScope_by (by decide +kernel)
abbrev s_law_is_integer : Stmt := top 25
theorem sc_law_is_integer : FnScope ["actual"] ["actual"] (fnScope s_law_is_integer) := fnScope_by (by decide +kernel)
abbrev s_Ratio___init : Stmt := L2.inClass (top 10) 0
theorem sc_Ratio___init : FnScope ["self", "num", "den", "part"] ["self", "num", "den"] (fnScope s_Ratio___init) := fnScope_by (by decide +kernel)
abbrev s_common : Stmt := top 7
theorem sc_common : FnScope ["ratios", "den", "ratio"] ["ratios"] (fnScope s_common) := fnScope_by (by decide +kernel)
abbrev s_are_lots : Stmt := top 8
theorem sc_are_lots : FnScope ["ratios", "weights", "den", "weight"] ["ratios"] (fnScope s_are_lots) := fnScope_by (by decide +kernel)
abbrev s_Plan___init : Stmt := L2.inClass (top 19) 0
theorem sc_Plan___init : FnScope ["self", "entries", "place", "entry", "view", "lots"] ["self", "entries"] (fnScope s_Plan___init) := fnScope_by (by decide +kernel)
abbrev s_Plan_entries : Stmt := L2.inClass (top 19) 2
theorem sc_Plan_entries : FnScope ["self", "view", "lots"] ["self"] (fnScope s_Plan_entries) := fnScope_by (by decide +kernel)
abbrev s_End___init : Stmt := L2.inClass (top 12) 0
theorem sc_End___init : FnScope ["self", "paid"] ["self", "paid"] (fnScope s_End___init) := fnScope_by (by decide +kernel)
abbrev s_Lot___init : Stmt := L2.inClass (top 13) 0
theorem sc_Lot___init : FnScope ["self", "parts"] ["self", "parts"] (fnScope s_Lot___init) := fnScope_by (by decide +kernel)
abbrev s_Turn___init : Stmt := L2.inClass (top 14) 0
theorem sc_Turn___init : FnScope ["self", "player", "view", "parts"] ["self", "player", "view", "parts"] (fnScope s_Turn___init) := fnScope_by (by decide +kernel)
abbrev s_collect : Stmt := top 16
theorem sc_collect : FnScope ["tree", "player", "found", "part"] ["tree", "player", "found"] (fnScope s_collect) := fnScope_by (by decide +kernel)
abbrev s_views_of : Stmt := top 17
theorem sc_views_of : FnScope ["tree", "player", "found", "view", "count"] ["tree", "player"] (fnScope s_views_of) := fnScope_by (by decide +kernel)
abbrev s_law_cell : Stmt := top 24
theorem sc_law_cell : FnScope ["script", "k"] ["script", "k"] (fnScope s_law_cell) := fnScope_by (by decide +kernel)
abbrev s_law_row : Stmt := top 26
theorem sc_law_row : FnScope ["cell", "count", "size", "state", "row", "k"] ["cell", "count", "size"] (fnScope s_law_row) := fnScope_by (by decide +kernel)
abbrev s_law_stages : Stmt := top 27
theorem sc_law_stages : FnScope ["script", "most", "stages", "count", "digits", "k", "size", "show"] ["script", "most"] (fnScope s_law_stages) := fnScope_by (by decide +kernel)
abbrev s_law_paths : Stmt := top 28
theorem sc_law_paths : FnScope ["stages", "paths", "stage", "longer", "path", "k"] ["stages"] (fnScope s_law_paths) := fnScope_by (by decide +kernel)
abbrev s_law_view : Stmt := top 29
theorem sc_law_view : FnScope ["stages", "path", "player", "view", "number", "rounds", "k", "stage"] ["stages", "path", "player"] (fnScope s_law_view) := fnScope_by (by decide +kernel)
abbrev s_law_asked : Stmt := top 30
theorem sc_law_asked : FnScope ["stages", "path", "number", "k", "stage", "view"] ["stages", "path"] (fnScope s_law_asked) := fnScope_by (by decide +kernel)
abbrev s_law_met : Stmt := top 31
theorem sc_law_met : FnScope ["stages", "player", "views", "path", "k", "view"] ["stages", "player"] (fnScope s_law_met) := fnScope_by (by decide +kernel)
abbrev s_law_node : Stmt := top 32
theorem sc_law_node : FnScope ["stages", "paid", "path", "index", "k", "stage", "parts"] ["stages", "paid", "path"] (fnScope s_law_node) := fnScope_by (by decide +kernel)
abbrev s_law_is : Stmt := top 34
theorem sc_law_is : FnScope ["actual", "due"] ["actual", "due"] (fnScope s_law_is) := fnScope_by (by decide +kernel)
abbrev s_Ratio___eq : Stmt := L2.inClass (top 10) 1
theorem sc_Ratio___eq : FnScope ["self", "other"] ["self", "other"] (fnScope s_Ratio___eq) := fnScope_by (by decide +kernel)
abbrev s_law_plans : Stmt := top 33
theorem sc_law_plans : FnScope ["views", "moves", "passed", "plan", "other", "told", "more", "k", "view", "count", "move"] ["views", "moves"] (fnScope s_law_plans) := fnScope_by (by decide +kernel)
abbrev s_law_strange : Stmt := top 35
theorem sc_law_strange : FnScope ["stages", "views", "player", "at", "strange", "pair", "view", "count", "lots", "wide", "k"] ["stages", "views", "player", "at"] (fnScope s_law_strange) := fnScope_by (by decide +kernel)
abbrev s_law : Stmt := top 36
theorem sc_law : FnScope ["script", "stages", "tree", "player", "views", "digits", "moves", "rows", "place", "entry", "rest", "path", "k", "pair"] ["script"] (fnScope s_law) := fnScope_by (by decide +kernel)
/-- what the walk asks of the module -/
structure Txt (K : PySem.W.Frag) (mg : Str → Option Value) (C_Ratio : Addr) (C_Plan : Addr) (C_End : Addr) (C_Lot : Addr) (C_Turn : Addr) : Prop where
  n_all : mg "all" = none
  n_bool : mg "bool" = none
  n_dict : mg "dict" = none
  n_enumerate : mg "enumerate" = none
  n_int : mg "int" = none
  n_isinstance : mg "isinstance" = none
  n_len : mg "len" = none
  n_list : mg "list" = none
  n_range : mg "range" = none
  n_sum : mg "sum" = none
  n_tuple : mg "tuple" = none
  n_zip : mg "zip" = none
  f_gcd : mg "gcd" = some (.builtin "math.gcd")
  f_lcm : mg "lcm" = some (.builtin "math.lcm")
  cl_Ratio : Cls K C_Ratio
  m_Ratio : mg "Ratio" = some (.ref C_Ratio)
  i_Ratio : InsC K C_Ratio
  a_Ratio_num : NoAttr K C_Ratio "num"
  a_Ratio_den : NoAttr K C_Ratio "den"
  cl_Plan : Cls K C_Plan
  m_Plan : mg "Plan" = some (.ref C_Plan)
  i_Plan : InsC K C_Plan
  a_Plan_table : NoAttr K C_Plan "table"
  cl_End : Cls K C_End
  m_End : mg "End" = some (.ref C_End)
  i_End : InsC K C_End
  a_End_paid : NoAttr K C_End "paid"
  cl_Lot : Cls K C_Lot
  m_Lot : mg "Lot" = some (.ref C_Lot)
  i_Lot : InsC K C_Lot
  a_Lot_parts : NoAttr K C_Lot "parts"
  cl_Turn : Cls K C_Turn
  m_Turn : mg "Turn" = some (.ref C_Turn)
  i_Turn : InsC K C_Turn
  a_Turn_player : NoAttr K C_Turn "player"
  a_Turn_view : NoAttr K C_Turn "view"
  a_Turn_parts : NoAttr K C_Turn "parts"
  kLE : PySem.W.kitOne K (.ref C_Lot) (.ref C_End) = some false
  kTE : PySem.W.kitOne K (.ref C_Turn) (.ref C_End) = some false
  kTL : PySem.W.kitOne K (.ref C_Turn) (.ref C_Lot) = some false
  kLT : PySem.W.kitOne K (.ref C_Lot) (.ref C_Turn) = some false
  nR : PySem.W.findIn K (.ref C_Ratio) "__ne__" = some (some (.builtin "object.__ne__"))
  ok : True
/-! ratios: an own object of two ints -/
theorem kND : ¬ (("num" : Str) = "den") := by decide +kernel
theorem kDN : ¬ (("den" : Str) = "num") := by decide +kernel
def rf (n d : Int) : List (Str × V) := putF "den" (.int d) (putF "num" (.int n) [])
theorem rf_num (n d : Int) : (rf n d).lookup ("num" : Str) = some (.int n) := by
  unfold rf
  rw [lookup_putF, if_neg kND, lookup_putF, if_pos rfl]
theorem rf_den (n d : Int) : (rf n d).lookup ("den" : Str) = some (.int d) := by
  unfold rf
  rw [lookup_putF, if_pos rfl]
theorem rf_no (n d : Int) {m : Str} (h1 : ¬ m = "num") (h2 : ¬ m = "den") : (rf n d).lookup m = none := by
  unfold rf
  rw [lookup_putF, if_neg h2, lookup_putF, if_neg h1]; rfl
/-- a Ratio stands at p -/
def RatAt (C : Addr) (H : Hp) (p : Addr) (n d : Int) : Prop := ∃ dx, H p = some (.ins C dx (rf n d))
theorem RatAt.keep {C p : Addr} {H H' : Hp} {W : List Addr} {n d : Int} (h : RatAt C H p n d) (k : Keep W H H') (w : p ∉ W) : RatAt C H' p n d := by
  obtain ⟨dx, h⟩ := h
  exact ⟨dx, k _ _ h w⟩
theorem RatAt.keep0 {C p : Addr} {H H' : Hp} {n d : Int} (h : RatAt C H p n d) (k : Keep [] H H') : RatAt C H' p n d := h.keep k (by simp)
/-- the sign of the divisor stands with the common part -/
def sg (n d : Int) : Int := if d < 0 then -((Nat.gcd n.natAbs d.natAbs : Nat) : Int) else ((Nat.gcd n.natAbs d.natAbs : Nat) : Int)
def redN (n d : Int) : Int := n.fdiv (sg n d)
def redD (n d : Int) : Int := d.fdiv (sg n d)
theorem gcd_pos_of {n d : Int} (h : d ≠ 0) : 0 < Nat.gcd n.natAbs d.natAbs := Nat.gcd_pos_of_pos_right _ (by omega)
theorem sg_ne {n d : Int} (h : d ≠ 0) : sg n d ≠ 0 := by
  have := gcd_pos_of (n := n) h
  unfold sg
  split <;> omega
theorem sg_dvd_n (n d : Int) : sg n d ∣ n := by
  have h : ((Nat.gcd n.natAbs d.natAbs : Nat) : Int) ∣ n := Int.ofNat_dvd_left.mpr (Nat.gcd_dvd_left _ _)
  unfold sg
  split
  · exact Int.neg_dvd.mpr h
  · exact h
theorem sg_dvd_d (n d : Int) : sg n d ∣ d := by
  have h : ((Nat.gcd n.natAbs d.natAbs : Nat) : Int) ∣ d := Int.ofNat_dvd_left.mpr (Nat.gcd_dvd_right _ _)
  unfold sg
  split
  · exact Int.neg_dvd.mpr h
  · exact h
theorem fdiv_of_mul {m c s : Int} (hs : s ≠ 0) (h : m = s * c) : m.fdiv s = c := by
  subst h; exact Int.mul_fdiv_cancel_left c hs
theorem red_n {n d : Int} (h : d ≠ 0) : redN n d * sg n d = n := by
  obtain ⟨c, hc⟩ := sg_dvd_n n d
  unfold redN
  rw [fdiv_of_mul (sg_ne h) hc, Int.mul_comm]; exact hc.symm
theorem red_d {n d : Int} (h : d ≠ 0) : redD n d * sg n d = d := by
  obtain ⟨c, hc⟩ := sg_dvd_d n d
  unfold redD
  rw [fdiv_of_mul (sg_ne h) hc, Int.mul_comm]; exact hc.symm
theorem redD_pos {n d : Int} (h : d ≠ 0) : 0 < redD n d := by
  have e := red_d (n := n) h
  have g := gcd_pos_of (n := n) h
  have hne : redD n d ≠ 0 := fun z => by rw [z, Int.zero_mul] at e; exact h e.symm
  rcases Int.lt_or_gt_of_ne hne with hl | hl
  · exfalso
    unfold sg at e
    split at e
    · rename_i hd
      have : 0 ≤ redD n d * -((Nat.gcd n.natAbs d.natAbs : Nat) : Int) := Int.mul_nonneg_of_nonpos_of_nonpos (by omega) (by omega)
      omega
    · rename_i hd
      have : redD n d * ((Nat.gcd n.natAbs d.natAbs : Nat) : Int) < 0 := Int.mul_neg_of_neg_of_pos hl (by omega)
      omega
  · exact hl
/-- the same ratio -/
theorem red_cross {n d : Int} (h : d ≠ 0) : redN n d * d = n * redD n d := by
  have e1 := red_n (n := n) h
  have e2 := red_d (n := n) h
  calc redN n d * d = redN n d * (redD n d * sg n d) := by rw [e2]
    _ = redN n d * sg n d * redD n d := by rw [Int.mul_comm (redD n d), Int.mul_assoc]
    _ = n * redD n d := by rw [e1]
theorem red_gcd {n d : Int} (h : d ≠ 0) : Nat.gcd (redN n d).natAbs (redD n d).natAbs = 1 := by
  have e1 : (redN n d).natAbs * (sg n d).natAbs = n.natAbs := by rw [← Int.natAbs_mul, red_n h]
  have e2 : (redD n d).natAbs * (sg n d).natAbs = d.natAbs := by rw [← Int.natAbs_mul, red_d h]
  have e3 : (sg n d).natAbs = Nat.gcd n.natAbs d.natAbs := by unfold sg; split <;> omega
  have e4 := Nat.gcd_mul_right (redN n d).natAbs (sg n d).natAbs (redD n d).natAbs
  rw [e1, e2, e3] at e4
  have g := gcd_pos_of (n := n) h
  exact Nat.eq_of_mul_eq_mul_right g (by omega)
theorem red_abs_n {n d : Int} (h : d ≠ 0) : (redN n d).natAbs ≤ n.natAbs := by
  have e1 : (redN n d).natAbs * (sg n d).natAbs = n.natAbs := by rw [← Int.natAbs_mul, red_n h]
  have : 0 < (sg n d).natAbs := by have := sg_ne (n := n) h; omega
  rw [← e1]
  exact Nat.le_mul_of_pos_right _ this
theorem red_dvd {n d : Int} (h : d ≠ 0) : redD n d ∣ d := ⟨sg n d, (red_d h).symm⟩
/-- what the rules ask of numbers below a power of two -/
theorem log2_lt9 {i : Int} {b : Nat} (h : i.natAbs < 2 ^ b) (h0 : 0 < b) : i.natAbs.log2 < b := PySem.Flt.log2_lt_of h0 h
section
variable {X : Cx}
def CDivG (_ j : Int) : Prop := j ≠ 0 ∧ j.natAbs.log2 < 9000
theorem op_fdivG : OpR X (binaryOp .FloorDiv) (rI CDivG fun i j => .int (i.fdiv j)) := opI fun i j _ _ _ _ _ hc q =>
  PyProof.Rows.floordiv_int hc.1 q (.inl (PyProof.noPylong_of_log2 hc.2))
def CPowB (i j : Int) : Prop := 2 ≤ i.natAbs ∧ 1 ≤ j ∧ (Builtin.Int.intBits i : Int) * j ≤ 100000000
theorem op_mulO : OpR X (binaryOp .Mult) (rI IntMulOk fun i j => .int (i * j)) := opI fun _ _ _ _ _ _ _ hc q => PyProof.Rows.mul_int q hc
end
def sp_rat (C : Addr) : Sp := fun vs H Q _ => ∃ (x dx : Addr) (n d : Int), vs = [.ref x, .int n, .int d] ∧ d ≠ 0 ∧ d.natAbs < 2 ^ 8000 ∧ H x = some (.ins C dx []) ∧
  ∀ H', Keep [x] H H' → H' x = some (.ins C dx (rf (redN n d) (redD n d))) → Q .non H'

set_option exponentiation.threshold 100000
/-! great ints: lcm, a fourth power -/
section
variable {X : Cx}
def rLcm : List V → Hp → VK → Prop := fun vs H Q => ∃ a b : Int, vs = [.int a, .int b] ∧ a.natAbs < 2 ^ 6000 ∧ b.natAbs < 2 ^ 6000 ∧ Q (.int ((Nat.lcm a.natAbs b.natAbs : Nat) : Int)) H
theorem cr_lcm : CallR X (.builtin "math.lcm") rLcm := by
  intro pins s σ H vs us Q I r h
  obtain ⟨a, b, rfl, ha, hb, q⟩ := h
  obtain ⟨t, u, rfl⟩ := Vals.int2 r
  have e1 : Nat.lcm 1 a.natAbs = a.natAbs := PySem.W.mc_lcm_one _
  have l1 : (max 1 a.natAbs).log2 < 6001 := by
    refine PySem.Flt.log2_lt_of (by decide) ?_
    have : (1 : Nat) < 2 ^ 6001 := Nat.one_lt_two_pow (by decide)
    have : a.natAbs < 2 ^ 6001 := Nat.lt_trans ha (Nat.pow_lt_pow_right (by decide) (by decide))
    omega
  have l2 : (max a.natAbs b.natAbs).log2 < 6000 := PySem.Flt.log2_lt_of (by decide) (by omega)
  refine call_function_meets PySem.W.MGF.kind_lcm PySem.W.MGF.plain_lcm PySem.W.MGF.entry_lcm (PySem.W.MGF.args_lcm _ _) (PySem.W.mg_run_lcm a t b u (by omega) (by omega) ?_).meets ⟨.int _, H, I.tok _, ⟨_, rfl⟩, by rw [e1]; exact q⟩
  rw [e1, Int.natAbs_natCast]
  have h1 : Nat.lcm a.natAbs b.natAbs < 2 ^ 12000 := by
    refine Nat.lt_of_le_of_lt (PySem.W.mc_lcm_le _ _) ?_
    have e : (2 : Nat) ^ 12000 = 2 ^ 6000 * 2 ^ 6000 := by rw [← Nat.pow_add]
    rw [e]
    exact Nat.mul_lt_mul'' ha hb
  have h2 := PySem.Flt.log2_lt_of (k := 12000) (by decide) h1
  have e : bitsLine = 134217728 := by decide
  omega
/-- a ** 4 -/
theorem op_pow4 : OpR X (binaryOp .Pow) (fun x y H Q => ∃ i : Int, x = .int i ∧ y = .int 4 ∧ Builtin.Int.intBits i ≤ 2000000 ∧ Q (.int (i ^ 4)) H) := by
  intro pins s σ H x y v u Q I rx ry h
  obtain ⟨i, rfl, rfl, hb, q⟩ := h
  obtain ⟨t, rfl⟩ := rx
  obtain ⟨t', rfl⟩ := ry
  have fin : ∀ z : Int, z = i ^ 4 → ∀ k tk, EP X pins σ Q (.int z tk) { s with toks := k } := fun z e k tk => ⟨.int z, H, I.tok _, ⟨_, rfl⟩, by rw [e]; exact q⟩
  by_cases h1 : (i == 0 || i == 1) = true
  · refine AutoIntOps.pow_1 (by decide) (by decide) h1 (fin i ?_ _ _)
    rcases (Bool.or_eq_true _ _ ▸ h1) with e | e
    · have := eq_of_beq e; subst this; rfl
    · have := eq_of_beq e; subst this; rfl
  · by_cases h2 : (i == -1) = true
    · refine AutoIntOps.pow_2 (by decide) (by decide) h1 h2 (fin _ ?_ _ _)
      have := eq_of_beq h2; subst this; rfl
    · refine AutoIntOps.pow_4 (by decide) (by decide) h1 h2 ?_ (fin _ ?_ _ _)
      · unfold Builtin.Int.intTooBig
        have e : bitsLine = 134217728 := by decide
        intro z
        have z := of_decide_eq_true z
        rw [e] at z
        omega
      · rfl
end

/-- tuples stand -/
def TK (H H' : Hp) : Prop := ∀ b xs, H b = some (.tup xs) → H' b = some (.tup xs)
theorem TK.refl (H : Hp) : TK H H := fun _ _ h => h
theorem TK.trans {H H1 H2 : Hp} (a : TK H H1) (b : TK H1 H2) : TK H H2 := fun c xs h => b c xs (a c xs h)
theorem TK.new {H : Hp} {p : Addr} {o : HO} (h : H p = none) : TK H (upd H p o) := fun b xs q => by rw [upd_ne (ne_of_none q h)]; exact q
theorem TK.lst {H : Hp} {p : Addr} {o : HO} {ys : List V} (h : H p = some (.lst ys)) : TK H (upd H p o) := fun b xs q => by
  rw [upd_ne (ne_of q h (by intro z; cases z))]; exact q
theorem Keep.tk {H H' : Hp} (k : Keep [] H H') : TK H H' := fun b xs q => k b _ q (by simp)
theorem Keep.tk1 {H H' : Hp} {p : Addr} {ys : List V} (k : Keep [p] H H') (h : H p = some (.lst ys)) : TK H H' := fun b xs q => k b _ q (by
  have := ne_of q h (by intro z; cases z)
  simpa using this)

/-! data of tuples: what never changes -/
mutual
inductive TD (H : Hp) : V → PyData → Prop
  | non : TD H .non .none
  | bl (b : Bool) : TD H (.bl b) (.bool b)
  | int (i : Int) : TD H (.int i) (.int i)
  | str (x : Str) : TD H (.str x) (.str x)
  | tup {a : Addr} {xs : List V} {ds : List PyData} : H a = some (.tup xs) → TDs H xs ds → TD H (.ref a) (.tuple ds)
inductive TDs (H : Hp) : List V → List PyData → Prop
  | nil : TDs H [] []
  | cons {v : V} {vs : List V} {d : PyData} {ds : List PyData} : TD H v d → TDs H vs ds → TDs H (v :: vs) (d :: ds)
end
mutual
theorem TD.tk {H H' : Hp} (k : TK H H') : ∀ {d : PyData} {v : V}, TD H v d → TD H' v d
  | _, _, .non => .non
  | _, _, .bl b => .bl b
  | _, _, .int i => .int i
  | _, _, .str x => .str x
  | _, _, .tup h t => .tup (k _ _ h) (TDs.tk k t)
theorem TDs.tk {H H' : Hp} (k : TK H H') : ∀ {ds : List PyData} {vs : List V}, TDs H vs ds → TDs H' vs ds
  | _, _, .nil => .nil
  | _, _, .cons h t => .cons (TD.tk k h) (TDs.tk k t)
end
mutual
theorem TD.dp {K : PySem.W.Frag} {H : Hp} : ∀ {d : PyData} {v : V}, TD H v d → Dp K H v d
  | _, _, .non => .non
  | _, _, .bl b => .bl b
  | _, _, .int i => .int i
  | _, _, .str x => .str x
  | _, _, .tup h t => .tup (SqT.of h) (TDs.dp t)
theorem TDs.dp {K : PySem.W.Frag} {H : Hp} : ∀ {ds : List PyData} {vs : List V}, TDs H vs ds → DpAll K H vs ds
  | _, _, .nil => .nil
  | _, _, .cons h t => .cons (TD.dp h) (TDs.dp t)
end
theorem TDs.length {H : Hp} : ∀ {vs : List V} {ds : List PyData}, TDs H vs ds → vs.length = ds.length
  | _, _, .nil => rfl
  | _, _, .cons _ t => by rw [List.length_cons, List.length_cons, t.length]
theorem TDs.get {H : Hp} : ∀ {vs : List V} {ds : List PyData}, TDs H vs ds → ∀ {i : Nat} {d : PyData}, ds[i]? = some d → ∃ v, vs[i]? = some v ∧ TD H v d
  | _, _, .nil, i, d, e => by simp at e
  | _, _, .cons h t, 0, d, e => by simp at e; subst e; exact ⟨_, rfl, h⟩
  | _, _, .cons h t, i + 1, d, e => by
    obtain ⟨v, h1, h2⟩ := t.get (i := i) (by simpa using e)
    exact ⟨v, by simpa using h1, h2⟩
theorem TDs.append {H : Hp} : ∀ {vs ws : List V} {ds es : List PyData}, TDs H vs ds → TDs H ws es → TDs H (vs ++ ws) (ds ++ es)
  | _, _, _, _, .nil, s => s
  | _, _, _, _, .cons h t, s => .cons h (t.append s)
theorem TDs.take {H : Hp} : ∀ {vs : List V} {ds : List PyData} (n : Nat), TDs H vs ds → TDs H (vs.take n) (ds.take n)
  | _, _, 0, _ => .nil
  | _, _, _ + 1, .nil => .nil
  | _, _, n + 1, .cons h t => .cons h (t.take n)
theorem TDs.reverse {H : Hp} : ∀ {vs : List V} {ds : List PyData}, TDs H vs ds → TDs H vs.reverse ds.reverse
  | _, _, .nil => .nil
  | _, _, .cons h t => by rw [List.reverse_cons, List.reverse_cons]; exact t.reverse.append (.cons h .nil)
theorem TDs.snoc {H : Hp} {vs : List V} {ds : List PyData} {v : V} {d : PyData} (t : TDs H vs ds) (h : TD H v d) : TDs H (vs ++ [v]) (ds ++ [d]) := t.append (.cons h .nil)
theorem TDs.nil_of {H : Hp} {vs : List V} (t : TDs H vs []) : vs = [] := by cases t; rfl
/-! events and views -/
abbrev Ev := Str × List Int
def dEv (e : Ev) : PyData := .tuple (.str e.1 :: e.2.map PyData.int)
def dView (L : List Ev) : PyData := .tuple (L.map dEv)
abbrev Row := List Ev × Int
def dRow (r : Row) : PyData := .tuple [dView r.1, .int r.2]
def dRowO : Option Row → PyData
  | none => .none
  | some r => dRow r
theorem td_ints {H : Hp} : ∀ l : List Int, TDs H (l.map V.int) (l.map PyData.int)
  | [] => .nil
  | a :: r => .cons (.int a) (td_ints r)
def isDid (e : Ev) : Bool := decide (e.1 = "did")
def lastR : List Ev → Option Row
  | [] => none
  | e :: r => if isDid e = true then some (r.reverse, e.2.headD 0) else lastR r
def lastRow (L : List Ev) : Option Row := lastR L.reverse
def rowsR : List Ev → List Row
  | [] => []
  | e :: r => if isDid e = true then rowsR r ++ [(r.reverse, e.2.headD 0)] else rowsR r
theorem rowsR_cons (e : Ev) (r : List Ev) : rowsR (e :: r) = if isDid e = true then rowsR r ++ [(r.reverse, e.2.headD 0)] else rowsR r := rfl
theorem lastR_cons (e : Ev) (r : List Ev) : lastR (e :: r) = if isDid e = true then some (r.reverse, e.2.headD 0) else lastR r := rfl
def allRows (L : List Ev) : List Row := rowsR L.reverse
theorem allRows_snoc (L : List Ev) (e : Ev) : allRows (L ++ [e]) = if isDid e = true then allRows L ++ [(L, e.2.headD 0)] else allRows L := by
  unfold allRows
  rw [List.reverse_append]
  show rowsR (e :: L.reverse) = _
  rw [rowsR, List.reverse_reverse]
theorem lastR_rows : ∀ (R : List Ev), rowsR R = (match lastR R with | none => [] | some (V, k) => rowsR V.reverse ++ [(V, k)])
  | [] => rfl
  | e :: r => by
    rw [rowsR_cons, lastR_cons]
    by_cases h : isDid e = true
    · rw [if_pos h, if_pos h]; simp only [List.reverse_reverse]
    · rw [if_neg h, if_neg h]; exact lastR_rows r
theorem lastRow_rows (L : List Ev) : allRows L = (match lastRow L with | none => [] | some (V, k) => allRows V ++ [(V, k)]) := lastR_rows L.reverse
theorem lastR_len : ∀ (R : List Ev) {V : List Ev} {k : Int}, lastR R = some (V, k) → V.length < R.length
  | [], V, k, h => by cases h
  | e :: r, V, k, h => by
    rw [lastR_cons] at h
    by_cases g : isDid e = true
    · rw [if_pos g] at h
      cases h
      simp
    · rw [if_neg g] at h
      have := lastR_len r h
      simp; omega
theorem lastRow_len {L V : List Ev} {k : Int} (h : lastRow L = some (V, k)) : V.length < L.length := by
  have := lastR_len _ h
  simpa using this
theorem lastRow_last (L : List Ev) : lastRow L = (allRows L).getLast? := by
  rw [lastRow_rows]
  cases h : lastRow L with
  | none => rfl
  | some x => simp
theorem rowsR_take : ∀ (R : List Ev) {j : Nat} {V : List Ev} {k : Int}, (rowsR R)[j]? = some (V, k) → rowsR V.reverse = (rowsR R).take j
  | [], j, V, k, h => by simp [rowsR] at h
  | e :: r, j, V, k, h => by
    rw [rowsR_cons] at h ⊢
    by_cases g : isDid e = true
    · rw [if_pos g] at h ⊢
      by_cases hj : j < (rowsR r).length
      · rw [List.getElem?_append_left hj] at h
        rw [List.take_append_of_le_length (Nat.le_of_lt hj)]
        exact rowsR_take r h
      · have hj' : j = (rowsR r).length := by
          have := (List.getElem?_eq_some_iff.mp h).1
          rw [List.length_append] at this
          simp at this; omega
        subst hj'
        rw [List.getElem?_append_right (Nat.le_refl _), Nat.sub_self] at h
        have e1 : r.reverse = V := congrArg Prod.fst (Option.some.inj h)
        rw [← e1, List.reverse_reverse, List.take_left]
    · rw [if_neg g] at h ⊢
      exact rowsR_take r h
theorem allRows_take {L : List Ev} {j : Nat} {V : List Ev} {k : Int} (h : (allRows L)[j]? = some (V, k)) : allRows V = (allRows L).take j := rowsR_take _ h
theorem rowsR_mem : ∀ (R : List Ev) {V : List Ev} {k : Int}, (V, k) ∈ rowsR R → ∃ M, R.reverse = V ++ M
  | [], V, k, h => by cases h
  | e :: r, V, k, h => by
    rw [rowsR_cons] at h
    rw [List.reverse_cons]
    by_cases g : isDid e = true
    · rw [if_pos g] at h
      rcases List.mem_append.mp h with h | h
      · obtain ⟨M, e1⟩ := rowsR_mem r h
        exact ⟨M ++ [e], by rw [e1, List.append_assoc]⟩
      · have := List.mem_singleton.mp h
        cases this
        exact ⟨[e], rfl⟩
    · rw [if_neg g] at h
      obtain ⟨M, e1⟩ := rowsR_mem r h
      exact ⟨M ++ [e], by rw [e1, List.append_assoc]⟩
theorem allRows_mem {L V : List Ev} {k : Int} (h : (V, k) ∈ allRows L) : ∃ M, L = V ++ M := by
  obtain ⟨M, e⟩ := rowsR_mem _ h
  exact ⟨M, by rw [← e, List.reverse_reverse]⟩
theorem rowsR_len : ∀ R : List Ev, (rowsR R).length ≤ R.length
  | [] => Nat.le_refl _
  | e :: r => by
    have h := rowsR_len r
    rw [rowsR_cons]
    split
    · rw [List.length_append]; simp; omega
    · simp; omega
theorem allRows_len (L : List Ev) : (allRows L).length ≤ L.length := by
  have h := rowsR_len L.reverse
  rw [List.length_reverse] at h
  exact h
/-- every move made tells it -/
def Good (L : List Ev) : Prop := ∀ e ∈ L, isDid e = true → e.2 ≠ []
theorem Good.pre {L V M : List Ev} (g : Good L) (h : L = V ++ M) : Good V := fun e he => g e (by rw [h]; exact List.mem_append_left _ he)
theorem lastRow_pre {L V : List Ev} {k : Int} (h : lastRow L = some (V, k)) : ∃ M, L = V ++ M := by
  refine allRows_mem (k := k) ?_
  rw [lastRow_rows, h]
  simp
def sp_last_row : Sp := fun vs H Q _ => ∃ (v : V) (L : List Ev), vs = [v] ∧ TD H v (dView L) ∧ L.length ≤ 100000 ∧ Good L ∧ ∀ r H', Keep [] H H' → TD H' r (dRowO (lastRow L)) → Q r H'
theorem td_view {H : Hp} {v : V} {ds : List PyData} (h : TD H v (.tuple ds)) : ∃ a xs, v = .ref a ∧ H a = some (.tup xs) ∧ TDs H xs ds := by
  cases h with
  | tup h t => exact ⟨_, _, rfl, h, t⟩

theorem un65 {k : Nat} {A : Around} (r : Room k A) : A.units + 65 < cLine := by have := r.un; omega
theorem tyT {K : PySem.W.Frag} {H : Hp} {a : Addr} {xs : List V} (h : H a = some (.tup xs)) : TyX K H (.ref a) (.type "tuple") := .base (.tup h)
def Lay (d : PyData) : Prop := SeqAt.shaped d = true
theorem canLay_ints : ∀ l : List Int, PyData.canLayAll0 (l.map PyData.int) = true
  | [] => rfl
  | a :: r => by simp [PyData.canLayAll0, PyData.canLay0, canLay_ints r]
theorem depth_ints : ∀ l : List Int, PyData.depthAll (l.map PyData.int) ≤ 1
  | [] => by simp [PyData.depthAll]
  | a :: r => by
    have := depth_ints r
    simp only [List.map_cons, PyData.depthAll, PyData.depth]
    omega
def OkE (e : Ev) : Prop := PyData.strOk e.1 = true
theorem canLay_ev {e : Ev} (h : OkE e) : (dEv e).canLay0 = true := by
  show ((PyData.str e.1).canLay0 && PyData.canLayAll0 (e.2.map PyData.int)) = true
  rw [canLay_ints, Bool.and_true]; exact h
theorem depth_ev (e : Ev) : (dEv e).depth ≤ 2 := by
  have := depth_ints e.2
  simp only [dEv, PyData.depth, PyData.depthAll]
  omega
theorem canLay_evs : ∀ {L : List Ev}, (∀ e ∈ L, OkE e) → PyData.canLayAll0 (L.map dEv) = true
  | [], _ => rfl
  | e :: r, h => by
    rw [List.map_cons]
    show ((dEv e).canLay0 && PyData.canLayAll0 (r.map dEv)) = true
    rw [canLay_ev (h e (List.mem_cons_self ..)), canLay_evs fun z hz => h z (List.mem_cons_of_mem _ hz)]; rfl
theorem depth_evs : ∀ L : List Ev, PyData.depthAll (L.map dEv) ≤ 2
  | [] => by simp [PyData.depthAll]
  | e :: r => by
    have h1 := depth_evs r
    have h2 := depth_ev e
    simp only [List.map_cons, PyData.depthAll]
    omega
theorem shaped_row {r : Row} (h : ∀ e ∈ r.1, OkE e) : SeqAt.shaped (dRow r) = true := by
  unfold SeqAt.shaped
  rw [Bool.and_eq_true]
  constructor
  · show (PyData.canLayAll0 (r.1.map dEv) && true) = true
    rw [canLay_evs h]; rfl
  · have := depth_evs r.1
    refine decide_eq_true ?_
    simp only [dRow, dView, PyData.depth, PyData.depthAll]
    omega
/-- a view grows by an event -/
theorem td_grow {H : Hp} {v : V} {L : List Ev} (h : TD H v (dView L)) : ∃ a xs, v = .ref a ∧ H a = some (.tup xs) ∧ TDs H xs (L.map dEv) ∧ xs.length = L.length := by
  obtain ⟨a, xs, e, ha, t⟩ := td_view h
  exact ⟨a, xs, e, ha, t, by rw [t.length, List.length_map]⟩
theorem okE_of {e : Ev} (h : PyData.strOk e.1 = true) : OkE e := h
theorem ok_round (l : List Int) : OkE ("round", l) := okE_of (by show PyData.strOk ("round" : Str) = true; decide +kernel)
theorem ok_told (l : List Int) : OkE ("told", l) := okE_of (by show PyData.strOk ("told" : Str) = true; decide +kernel)
theorem ok_move (l : List Int) : OkE ("move", l) := okE_of (by show PyData.strOk ("move" : Str) = true; decide +kernel)
theorem ok_did (l : List Int) : OkE ("did", l) := okE_of (by show PyData.strOk ("did" : Str) = true; decide +kernel)
theorem nd_round (l : List Int) : isDid ("round", l) = false := by show decide (("round" : Str) = "did") = false; decide +kernel
theorem nd_told (l : List Int) : isDid ("told", l) = false := by show decide (("told" : Str) = "did") = false; decide +kernel
theorem nd_move (l : List Int) : isDid ("move", l) = false := by show decide (("move" : Str) = "did") = false; decide +kernel
theorem yd_did (l : List Int) : isDid ("did", l) = true := by show decide (("did" : Str) = "did") = true; decide +kernel
theorem good_snoc {L : List Ev} {e : Ev} (g : Good L) (h : e.2 ≠ []) : Good (L ++ [e]) := fun z hz hd => by
  rcases List.mem_append.mp hz with q | q
  · exact g z q hd
  · rw [List.mem_singleton.mp q]; exact h
theorem oks_snoc {L : List Ev} {e : Ev} (g : ∀ z ∈ L, OkE z) (h : OkE e) : ∀ z ∈ L ++ [e], OkE z := fun z hz => by
  rcases List.mem_append.mp hz with q | q
  · exact g z q
  · rw [List.mem_singleton.mp q]; exact h
theorem rows_same {L : List Ev} {e : Ev} (h : isDid e = false) : allRows (L ++ [e]) = allRows L := by
  rw [allRows_snoc, if_neg (by rw [h]; simp)]
/-- view + (event,): once both tuples are made -/
theorem add_ev {K : PySem.W.Frag} {H : Hp} {v : V} {L : List Ev} (e : Ev) {Q : VK} {t1 t2 : Addr} (hv : TD H v (dView L)) (n1 : H t1 = none) (n2 : upd H t1 (.tup (.str e.1 :: e.2.map V.int)) t2 = none) (hl : L.length ≤ 100000)
    (k : ∀ (p : Addr) (H' : Hp), Keep [] H H' → TD H' (.ref p) (dView (L ++ [e])) → Q (.ref p) H') : rCatA K v (.ref t2) (upd (upd H t1 (.tup (.str e.1 :: e.2.map V.int))) t2 (.tup [.ref t1])) Q := by
  have kk : Keep [] H (upd (upd H t1 (.tup (.str e.1 :: e.2.map V.int))) t2 (.tup [.ref t1])) := (Keep.new n1).then_new n2
  obtain ⟨a, xs, rfl, ha, hx⟩ := td_view (hv.tk kk.tk)
  have n12 : t1 ≠ t2 := ne_of_none (H := upd H t1 _) upd_same n2
  have h1 : upd (upd H t1 (.tup (.str e.1 :: e.2.map V.int))) t2 (.tup [.ref t1]) t1 = some (.tup (.str e.1 :: e.2.map V.int)) := by rw [upd_ne n12]; exact upd_same
  have hlx : xs.length = L.length := by rw [hx.length, List.length_map]
  have hcat := hx.snoc (TD.tup h1 (.cons (.str e.1) (td_ints e.2)))
  have e1 : L.map dEv ++ [PyData.tuple (.str e.1 :: e.2.map PyData.int)] = (L ++ [e]).map dEv := by rw [List.map_append]; rfl
  rw [e1] at hcat
  refine ⟨a, t2, xs, [.ref t1], rfl, rfl, SqT.of ha, SqT.of upd_same, by simp only [List.length_cons, List.length_nil]; exact smallM (by omega), fun e0 => ?_, fun _ z => (by cases z), fun _ _ p hp => ?_⟩
  · subst e0
    exact k t2 _ kk (.tup upd_same hcat)
  · exact k p _ (kk.then_new hp) (.tup upd_same (hcat.tk (TK.new hp)))

/-! plain data: == is = -/
mutual
def PlD : PyData → Bool
  | .none => true
  | .bool _ => false
  | .int _ => true
  | .str _ => true
  | .list _ => false
  | .tuple xs => PlDs xs
  | .dict _ => false
def PlDs : List PyData → Bool
  | [] => true
  | d :: ds => PlD d && PlDs ds
end
mutual
theorem eqv_pl : ∀ (d e : PyData), PlD d = true → PlD e = true → PyData.eqv d e = true → d = e
  | .none, .none, _, _, _ => rfl
  | .int i, .int j, _, _, h => by
    have : i = j := by simpa [PyData.eqv] using h
    rw [this]
  | .str i, .str j, _, _, h => by
    have : i = j := by simpa [PyData.eqv] using h
    rw [this]
  | .tuple xs, .tuple ys, hx, hy, h => by
    rw [eqvs_pl xs ys (by simpa [PlD] using hx) (by simpa [PlD] using hy) (by simpa [PyData.eqv] using h)]
  | .none, .int _, _, _, h => by simp [PyData.eqv] at h
  | .none, .str _, _, _, h => by simp [PyData.eqv] at h
  | .none, .tuple _, _, _, h => by simp [PyData.eqv] at h
  | .int _, .none, _, _, h => by simp [PyData.eqv] at h
  | .int _, .str _, _, _, h => by simp [PyData.eqv] at h
  | .int _, .tuple _, _, _, h => by simp [PyData.eqv] at h
  | .str _, .none, _, _, h => by simp [PyData.eqv] at h
  | .str _, .int _, _, _, h => by simp [PyData.eqv] at h
  | .str _, .tuple _, _, _, h => by simp [PyData.eqv] at h
  | .tuple _, .none, _, _, h => by simp [PyData.eqv] at h
  | .tuple _, .int _, _, _, h => by simp [PyData.eqv] at h
  | .tuple _, .str _, _, _, h => by simp [PyData.eqv] at h
  | .bool _, _, h, _, _ => by simp [PlD] at h
  | .list _, _, h, _, _ => by simp [PlD] at h
  | .dict _, _, h, _, _ => by simp [PlD] at h
  | _, .bool _, _, h, _ => by simp [PlD] at h
  | _, .list _, _, h, _ => by simp [PlD] at h
  | _, .dict _, _, h, _ => by simp [PlD] at h
theorem eqvs_pl : ∀ (xs ys : List PyData), PlDs xs = true → PlDs ys = true → PyData.eqvAll xs ys = true → xs = ys
  | [], [], _, _, _ => rfl
  | d :: ds, e :: es, hx, hy, h => by
    simp only [PlDs, Bool.and_eq_true] at hx hy
    simp only [PyData.eqvAll, Bool.and_eq_true] at h
    rw [eqv_pl d e hx.1 hy.1 h.1, eqvs_pl ds es hx.2 hy.2 h.2]
  | [], _ :: _, _, _, h => by simp [PyData.eqvAll] at h
  | _ :: _, [], _, _, h => by simp [PyData.eqvAll] at h
end
theorem pl_ints : ∀ l : List Int, PlDs (l.map PyData.int) = true
  | [] => rfl
  | a :: r => by simp [PlDs, PlD, pl_ints r]
theorem pl_ev (e : Ev) : PlD (dEv e) = true := by
  show PlDs (.str e.1 :: e.2.map PyData.int) = true
  simp [PlDs, PlD, pl_ints]
theorem pl_evs : ∀ L : List Ev, PlDs (L.map dEv) = true
  | [] => rfl
  | e :: r => by
    rw [List.map_cons]
    show (PlD (dEv e) && PlDs (r.map dEv)) = true
    rw [pl_ev, pl_evs r]; rfl
theorem pl_view (L : List Ev) : PlD (dView L) = true := by
  show PlDs (L.map dEv) = true
  exact pl_evs L
theorem pl_row (r : Row) : PlD (dRow r) = true := by
  show (PlD (dView r.1) && (true && true)) = true
  rw [pl_view]; rfl
theorem ints_inj : ∀ {l m : List Int}, l.map PyData.int = m.map PyData.int → l = m
  | [], [], _ => rfl
  | a :: l, b :: m, h => by
    simp only [List.map_cons, List.cons.injEq, PyData.int.injEq] at h
    rw [h.1, ints_inj h.2]
  | [], _ :: _, h => by simp at h
  | _ :: _, [], h => by simp at h
theorem dEv_inj {e f : Ev} (h : dEv e = dEv f) : e = f := by
  unfold dEv at h
  simp only [PyData.tuple.injEq, List.cons.injEq, PyData.str.injEq] at h
  exact Prod.ext h.1 (ints_inj h.2)
theorem evs_inj : ∀ {l m : List Ev}, l.map dEv = m.map dEv → l = m
  | [], [], _ => rfl
  | a :: l, b :: m, h => by
    simp only [List.map_cons, List.cons.injEq] at h
    rw [dEv_inj h.1, evs_inj h.2]
  | [], _ :: _, h => by simp at h
  | _ :: _, [], h => by simp at h
theorem dView_inj {l m : List Ev} (h : dView l = dView m) : l = m := by
  unfold dView at h
  exact evs_inj (PyData.tuple.inj h)
theorem dRow_inj {r s : Row} (h : dRow r = dRow s) : r = s := by
  unfold dRow at h
  simp only [PyData.tuple.injEq, List.cons.injEq, PyData.int.injEq] at h
  exact Prod.ext (dView_inj h.1) h.2.1
theorem dRowO_inj {r s : Option Row} (h : dRowO r = dRowO s) : r = s := by
  cases r with
  | none =>
    cases s with
    | none => rfl
    | some s => unfold dRowO dRow at h; cases h
  | some r =>
    cases s with
    | none => unfold dRowO dRow at h; cases h
    | some s => rw [dRow_inj h]
theorem pl_rowO (r : Option Row) : PlD (dRowO r) = true := by
  cases r with
  | none => rfl
  | some r => exact pl_row r
theorem canLay_view {L : List Ev} (h : ∀ e ∈ L, OkE e) : (dView L).canLay0 = true := canLay_evs h
theorem shaped_view {L : List Ev} (h : ∀ e ∈ L, OkE e) : SeqAt.shaped (dView L) = true := by
  unfold SeqAt.shaped
  rw [Bool.and_eq_true]
  refine ⟨canLay_view h, decide_eq_true ?_⟩
  have := depth_evs L
  simp only [dView, PyData.depth]
  omega
theorem shaped_rowO {r : Option Row} (h : ∀ q, r = some q → ∀ e ∈ q.1, OkE e) : SeqAt.shaped (dRowO r) = true := by
  cases r with
  | none => rfl
  | some r => exact shaped_row (h r rfl)
theorem shaped_list {ds : List PyData} (h : ∀ d ∈ ds, SeqAt.shaped d = true) (h2 : ∀ d ∈ ds, d.depth ≤ 10) : SeqAt.shaped (.list ds) = true := by
  have g1 : ∀ {ds : List PyData}, (∀ d ∈ ds, SeqAt.shaped d = true) → PyData.canLayAll0 ds = true := by
    intro ds h
    induction ds with
    | nil => rfl
    | cons d r ih =>
      show (d.canLay0 && PyData.canLayAll0 r) = true
      rw [SeqAt.canLay_of_shaped (h d (List.mem_cons_self ..)), ih fun x hx => h x (List.mem_cons_of_mem _ hx)]; rfl
  have g2 : ∀ {ds : List PyData}, (∀ d ∈ ds, d.depth ≤ 10) → PyData.depthAll ds ≤ 10 := by
    intro ds h
    induction ds with
    | nil => simp [PyData.depthAll]
    | cons d r ih =>
      have h1 := h d (List.mem_cons_self ..)
      have h2 := ih fun x hx => h x (List.mem_cons_of_mem _ hx)
      simp only [PyData.depthAll]; omega
  unfold SeqAt.shaped
  rw [Bool.and_eq_true]
  refine ⟨g1 h, decide_eq_true ?_⟩
  have := g2 h2
  simp only [PyData.depth]
  omega
theorem depth_row (r : Row) : (dRow r).depth ≤ 10 := by
  have := depth_evs r.1
  simp only [dRow, dView, PyData.depth, PyData.depthAll]
  omega
instance : DecidableEq Row := inferInstanceAs (DecidableEq (List (Str × List Int) × Int))
theorem eqv_row {r s : Row} (hr : ∀ e ∈ r.1, OkE e) : PyData.eqv (dRow r) (dRow s) = decide (r = s) := by
  by_cases h : r = s
  · subst h
    rw [decide_eq_true rfl]
    exact SeqAt.eqv_refl _ (SeqAt.canLay_of_shaped (shaped_row hr))
  · rw [decide_eq_false h]
    cases q : PyData.eqv (dRow r) (dRow s) with
    | false => rfl
    | true => exact absurd (dRow_inj (eqv_pl _ _ (pl_row r) (pl_row s) q)) h
theorem eqv_rowO {r s : Option Row} (hr : ∀ q, r = some q → ∀ e ∈ q.1, OkE e) : PyData.eqv (dRowO r) (dRowO s) = decide (r = s) := by
  by_cases h : r = s
  · subst h
    rw [decide_eq_true rfl]
    exact SeqAt.eqv_refl _ (SeqAt.canLay_of_shaped (shaped_rowO hr))
  · rw [decide_eq_false h]
    cases q : PyData.eqv (dRowO r) (dRowO s) with
    | false => rfl
    | true => exact absurd (dRowO_inj (eqv_pl _ _ (pl_rowO r) (pl_rowO s) q)) h
/-- view + events, once their tuple is made -/
theorem add_evs {K : PySem.W.Frag} {H : Hp} {v : V} {L M : List Ev} {Q : VK} {t2 : Addr} {ys : List V} (hv : TD H v (dView L)) (h2 : H t2 = some (.tup ys)) (hy : TDs H ys (M.map dEv)) (hl : L.length + M.length ≤ 100000)
    (k : ∀ (p : Addr) (H' : Hp), Keep [] H H' → TD H' (.ref p) (dView (L ++ M)) → Q (.ref p) H') : rCatA K v (.ref t2) H Q := by
  obtain ⟨a, xs, rfl, ha, hx⟩ := td_view hv
  have hlx : xs.length = L.length := by rw [hx.length, List.length_map]
  have hly : ys.length = M.length := by rw [hy.length, List.length_map]
  have hcat := hx.append hy
  rw [← List.map_append] at hcat
  refine ⟨a, t2, xs, ys, rfl, rfl, SqT.of ha, SqT.of h2, smallM (by omega), fun e0 => ?_, fun _ e0 => ?_, fun _ _ p hp => ?_⟩
  · subst e0
    exact k t2 _ (Keep.refl _ _) (.tup h2 hcat)
  · subst e0
    rw [List.append_nil] at hcat
    exact k a _ (Keep.refl _ _) (.tup ha hcat)
  · exact k p _ (Keep.new hp) (.tup upd_same (hcat.tk (TK.new hp)))

theorem calUp {P : Program} {w : World} {K : PySem.W.Frag} {mg : Str → Option Value} {base : Heap} {j k : Nat} {x : Str} {sp : Sp} {dvs : List V} (c : C8.Cal P w K mg base j x sp dvs) (h : j ≤ k) : C8.Cal P w K mg base k x sp dvs := by
  obtain ⟨f, fd, ps, ds, F, hm, kp, b, d⟩ := c.ex
  exact ⟨f, fd, ps, ds, F.mono h, hm, kp, b, d⟩

def tl (_ x : Nat) : Int := x
/-! stages of a game, paths, views: in plain words -/
structure Stg where
  pl : Nat
  sz : Nat
  sh : Nat
  rd : Bool
def Stg.row (s : Stg) : List V := [.int s.pl, .int s.sz, .int s.sh, .bl s.rd]
instance : Inhabited Stg := ⟨⟨0, 1, 0, false⟩⟩
structure Stg.Ok (s : Stg) : Prop where
  pl : s.pl < 3
  sz0 : 1 ≤ s.sz
  sz1 : s.sz ≤ 100
  sh : s.sh < 4
def stg (S : List Stg) (k : Nat) : Stg := S.getD k ⟨0, 1, 0, false⟩
def nm (S : List Stg) : Nat → Int
  | 0 => 0
  | k + 1 => nm S k + (if (stg S k).pl ≠ 0 then 1 else 0)
def rn (S : List Stg) : Nat → Int
  | 0 => 0
  | k + 1 => rn S k + (if 0 < k ∧ (stg S k).rd = true then 1 else 0)
def rdE (S : List Stg) (k : Nat) : List Ev := if 0 < k ∧ (stg S k).rd = true then [(("round" : Str), [rn S (k + 1)])] else []
def vw (S : List Stg) (pl : Nat) (p : List Nat) : Nat → List Ev
  | 0 => [(("round" : Str), [0])]
  | k + 1 => ((vw S pl p k ++ rdE S k) ++ (if (stg S k).pl = pl then [(("move" : Str), [nm S k, ((stg S k).sz : Int)]), (("did" : Str), [((p.getD k 0 : Nat) : Int)])] else [])) ++ (if (stg S k).sh = pl ∨ (stg S k).sh = 3 then [(("told" : Str), [tl (stg S k).sz (p.getD k 0)])] else [])
/-- the view of who moves at stage k, behind the first k results of p -/
def asked (S : List Stg) (p : List Nat) (k : Nat) : List Ev := (vw S (stg S k).pl p k ++ rdE S k) ++ [(("move" : Str), [nm S k, ((stg S k).sz : Int)])]
def ext1 (n : Nat) (p : List Nat) : List (List Nat) := (List.range n).map fun k => p ++ [k]
def paths : List Stg → List (List Nat) → List (List Nat)
  | [], ps => ps
  | s :: S, ps => paths S (ps.flatMap (ext1 s.sz))
def prodS : List Stg → Nat
  | [] => 1
  | s :: S => s.sz * prodS S
def insR (f : List Row) (r : Row) : List Row := if r ∈ f then f else f ++ [r]
def metK (S : List Stg) (pl : Nat) (p : List Nat) : Nat → List Row → List Row
  | 0, f => f
  | k + 1, f => if (stg S k).pl = pl then insR (metK S pl p k f) (asked S p k, ((stg S k).sz : Int)) else metK S pl p k f
def met (S : List Stg) (pl : Nat) : List Row := (paths S [[]]).foldl (fun f p => metK S pl p S.length f) []
theorem vw_take (S : List Stg) (pl : Nat) (p : List Nat) : ∀ (k n : Nat), k ≤ n → vw S pl (p.take n) k = vw S pl p k
  | 0, _, _ => rfl
  | k + 1, n, h => by
    have e : (p.take n).getD k 0 = p.getD k 0 := by
      rw [List.getD_eq_getElem?_getD, List.getD_eq_getElem?_getD, List.getElem?_take_of_lt (by omega)]
    unfold vw
    rw [vw_take S pl p k n (by omega), e]
theorem asked_take (S : List Stg) (p : List Nat) (k : Nat) : asked S (p.take k) k = asked S p k := by
  unfold asked
  rw [vw_take S _ p k k (Nat.le_refl _)]
theorem vw_len (S : List Stg) (pl : Nat) (p : List Nat) : ∀ k, (vw S pl p k).length ≤ 1 + 4 * k
  | 0 => Nat.le_refl _
  | k + 1 => by
    have := vw_len S pl p k
    unfold vw rdE
    rw [List.length_append, List.length_append, List.length_append]
    split <;> split <;> split <;> simp <;> omega
theorem asked_len (S : List Stg) (p : List Nat) (k : Nat) : (asked S p k).length ≤ 3 + 4 * k := by
  have := vw_len S (stg S k).pl p k
  unfold asked rdE
  rw [List.length_append, List.length_append]
  split <;> simp <;> omega
theorem ok_app {L M : List Ev} (h : ∀ e ∈ L, OkE e) (g : ∀ e ∈ M, OkE e) : ∀ e ∈ L ++ M, OkE e := fun e he => (List.mem_append.mp he).elim (h e) (g e)
theorem ok_if {p : Prop} [Decidable p] {L : List Ev} (h : ∀ e ∈ L, OkE e) : ∀ e ∈ (if p then L else []), OkE e := fun e he => by
  split at he
  · exact h e he
  · cases he
theorem ok_one {e : Ev} (h : OkE e) : ∀ x ∈ [e], OkE x := fun x hx => by rw [List.mem_singleton.mp hx]; exact h
theorem vw_ok (S : List Stg) (pl : Nat) (p : List Nat) : ∀ k, ∀ e ∈ vw S pl p k, OkE e
  | 0 => ok_one (ok_round _)
  | k + 1 => by
    unfold vw rdE
    refine ok_app (ok_app (ok_app (vw_ok S pl p k) (ok_if (ok_one (ok_round _)))) (ok_if fun x hx => ?_)) (ok_if (ok_one (ok_told _)))
    rcases List.mem_cons.mp hx with rfl | hx
    · exact ok_move _
    · rw [List.mem_singleton.mp hx]; exact ok_did _
theorem asked_ok (S : List Stg) (p : List Nat) (k : Nat) : ∀ e ∈ asked S p k, OkE e := by
  unfold asked rdE
  exact ok_app (ok_app (vw_ok S _ p k) (ok_if (ok_one (ok_round _)))) (ok_one (ok_move _))
theorem paths_len : ∀ (S : List Stg) (ps : List (List Nat)), (paths S ps).length = prodS S * ps.length
  | [], ps => by show ps.length = 1 * ps.length; omega
  | s :: S, ps => by
    show (paths S (ps.flatMap (ext1 s.sz))).length = s.sz * prodS S * ps.length
    rw [paths_len S]
    have : (ps.flatMap (ext1 s.sz)).length = s.sz * ps.length := by
      rw [List.length_flatMap]
      have e : ps.map (fun x => (ext1 s.sz x).length) = ps.map fun _ => s.sz := List.map_congr_left fun x _ => by unfold ext1; rw [List.length_map, List.length_range]
      rw [e, List.map_const', List.sum_replicate_nat, Nat.mul_comm]
    rw [this, ← Nat.mul_assoc, Nat.mul_comm (prodS S)]
theorem prod_pos : ∀ {S : List Stg}, (∀ s ∈ S, s.Ok) → 1 ≤ prodS S
  | [], _ => Nat.le_refl _
  | s :: S, h => by
    have h1 := (h s (List.mem_cons_self ..)).sz0
    have h2 := prod_pos (S := S) fun x hx => h x (List.mem_cons_of_mem _ hx)
    exact Nat.mul_le_mul h1 h2
theorem prod_app : ∀ (S : List Stg) (s : Stg), prodS (S ++ [s]) = prodS S * s.sz
  | [], s => by show s.sz * 1 = 1 * s.sz; omega
  | t :: S, s => by
    show t.sz * prodS (S ++ [s]) = t.sz * prodS S * s.sz
    rw [prod_app S s, Nat.mul_assoc]
/-- the paths of the first k stages stay within the product -/
theorem prod_take : ∀ {S : List Stg}, (∀ s ∈ S, s.Ok) → ∀ k, prodS (S.take k) ≤ prodS S
  | [], _, k => by rw [List.take_nil]; exact Nat.le_refl _
  | s :: S, h, 0 => prod_pos h
  | s :: S, h, k + 1 => Nat.mul_le_mul_left _ (prod_take (S := S) (fun x hx => h x (List.mem_cons_of_mem _ hx)) k)
theorem paths_snoc : ∀ (S : List Stg) (s : Stg) (ps : List (List Nat)), paths (S ++ [s]) ps = (paths S ps).flatMap (ext1 s.sz)
  | [], _, _ => rfl
  | t :: S, s, ps => by
    show paths (S ++ [s]) (ps.flatMap (ext1 t.sz)) = (paths S (ps.flatMap (ext1 t.sz))).flatMap (ext1 s.sz)
    rw [paths_snoc S s]
theorem paths_each : ∀ (S : List Stg) (ps : List (List Nat)) (n : Nat), (∀ p ∈ ps, p.length = n) → ∀ p ∈ paths S ps, p.length = n + S.length
  | [], ps, n, h => fun p hp => h p hp
  | s :: S, ps, n, h => fun p hp => by
    have := paths_each S (ps.flatMap (ext1 s.sz)) (n + 1) (fun q hq => by
      obtain ⟨r, hr, hq⟩ := List.mem_flatMap.mp hq
      unfold ext1 at hq
      obtain ⟨k, _, rfl⟩ := List.mem_map.mp hq
      rw [List.length_append, h r hr]; rfl) p hp
    rw [this, List.length_cons]; omega
/-! in the heap -/
inductive SL (H : Hp) : List V → List Stg → Prop
  | nil : SL H [] []
  | cons {t : Addr} {s : Stg} {vs : List V} {S : List Stg} : H t = some (.tup s.row) → SL H vs S → SL H (.ref t :: vs) (s :: S)
theorem SL.tk {H H' : Hp} (k : TK H H') {vs : List V} {S : List Stg} (h : SL H vs S) : SL H' vs S := by
  induction h with
  | nil => exact .nil
  | cons h _ ih => exact .cons (k _ _ h) ih
theorem SL.len {H : Hp} {vs : List V} {S : List Stg} (h : SL H vs S) : vs.length = S.length := by
  induction h with
  | nil => rfl
  | cons _ _ ih => rw [List.length_cons, List.length_cons, ih]
theorem SL.snoc {H : Hp} {vs : List V} {S : List Stg} {t : Addr} {s : Stg} (h : SL H vs S) (ht : H t = some (.tup s.row)) : SL H (vs ++ [.ref t]) (S ++ [s]) := by
  induction h with
  | nil => exact .cons ht .nil
  | cons h _ ih => exact .cons h ih
theorem SL.get {H : Hp} {vs : List V} {S : List Stg} (h : SL H vs S) : ∀ {i : Nat}, i < S.length → ∃ t, vs[i]? = some (.ref t) ∧ H t = some (.tup (stg S i).row) := by
  induction h with
  | nil => intro i hi; exact absurd hi (Nat.not_lt_zero _)
  | cons h _ ih =>
    intro i hi
    cases i with
    | zero => exact ⟨_, rfl, h⟩
    | succ i =>
      obtain ⟨t, h1, h2⟩ := ih (i := i) (by simpa using hi)
      exact ⟨t, by simpa using h1, by simpa [stg] using h2⟩
structure SOk (S : List Stg) : Prop where
  all : ∀ s ∈ S, s.Ok
  len : S.length ≤ 4
  prod : prodS S ≤ 100
def StA (H : Hp) (a : Addr) (S : List Stg) : Prop := ∃ vs, H a = some (.lst vs) ∧ SL H vs S
theorem StA.keep {H H' : Hp} {a : Addr} {S : List Stg} (h : StA H a S) (k : Keep [] H H') : StA H' a S := by
  obtain ⟨vs, h1, h2⟩ := h
  exact ⟨vs, k _ _ h1 (by simp), h2.tk k.tk⟩
theorem stg_ok {S : List Stg} (h : SOk S) (k : Nat) : (stg S k).Ok := by
  unfold stg
  by_cases q : k < S.length
  · rw [List.getD_eq_getElem?_getD, List.getElem?_eq_getElem q]
    exact h.all _ (List.getElem_mem q)
  · rw [List.getD_eq_getElem?_getD, List.getElem?_eq_none (by omega)]
    exact ⟨by decide, by decide, by decide, by decide⟩
def nat (k : Nat) : V := .int (k : Int)
def PaA (H : Hp) (a : Addr) (p : List Nat) : Prop := H a = some (.lst (p.map nat))
inductive PLs (H : Hp) : List V → List (List Nat) → Prop
  | nil : PLs H [] []
  | cons {t : Addr} {p : List Nat} {vs : List V} {ps : List (List Nat)} : PaA H t p → PLs H vs ps → PLs H (.ref t :: vs) (p :: ps)
theorem PLs.keep {H H' : Hp} (k : Keep [] H H') {vs : List V} {ps : List (List Nat)} (h : PLs H vs ps) : PLs H' vs ps := by
  induction h with
  | nil => exact .nil
  | cons h _ ih => exact .cons (k _ _ h (by simp)) ih
theorem PLs.own {H H' : Hp} {l : Addr} (k : ∀ b o, H b = some o → b ≠ l → H' b = some o) {vs : List V} {ps : List (List Nat)} (h : PLs H vs ps) (hl : ∀ t, V.ref t ∈ vs → t ≠ l) : PLs H' vs ps := by
  induction h with
  | nil => exact .nil
  | cons h _ ih => exact .cons (k _ _ h (hl _ (List.mem_cons_self ..))) (ih fun t ht => hl t (List.mem_cons_of_mem _ ht))
theorem PLs.len {H : Hp} {vs : List V} {ps : List (List Nat)} (h : PLs H vs ps) : vs.length = ps.length := by
  induction h with
  | nil => rfl
  | cons _ _ ih => rw [List.length_cons, List.length_cons, ih]
theorem PLs.snoc {H : Hp} {vs : List V} {ps : List (List Nat)} {t : Addr} {p : List Nat} (h : PLs H vs ps) (ht : PaA H t p) : PLs H (vs ++ [.ref t]) (ps ++ [p]) := by
  induction h with
  | nil => exact .cons ht .nil
  | cons h _ ih => exact .cons h ih
theorem PLs.get {H : Hp} {vs : List V} {ps : List (List Nat)} (h : PLs H vs ps) : ∀ {i : Nat} {v : V}, vs[i]? = some v → ∃ t p, v = .ref t ∧ ps[i]? = some p ∧ PaA H t p := by
  induction h with
  | nil => intro i v h; simp at h
  | cons h _ ih =>
    intro i v hv
    cases i with
    | zero => simp at hv; subst hv; exact ⟨_, _, rfl, rfl, h⟩
    | succ i => simpa using ih (by simpa using hv)
/-! the promises -/
def sp_cell (K : PySem.W.Frag) : Sp := fun vs H Q _ => ∃ (a : Addr) (ns : List Int) (k : Nat), vs = [.ref a, .int k] ∧ SqL K H a (ns.map V.int) ∧ Q (.int (ns.getD k 0)) H
def sp_isint : Sp := fun vs H Q _ => ∃ z : Int, vs = [.int z] ∧ Q (.bl true) H
def sp_row : Sp := fun vs H Q _ => ∃ (c : Int) (n : Nat) (m : Int), vs = [.int c, .int n, .int m] ∧ 0 < m ∧ m < 1000000 ∧ n ≤ 1000 ∧ ∀ l (ds : List Nat) H', H l = none → H' l = some (.lst (ds.map nat)) → ds.length = n → (∀ d ∈ ds, (d : Int) < m) → Keep [] H H' → Q (.ref l) H'
def sp_stages (K : PySem.W.Frag) (mx : Nat) : Sp := fun vs H Q _ => ∃ (a : Addr) (ns : List Int) (m : Int), vs = [.ref a, .int m] ∧ m = mx ∧ SqL K H a (ns.map V.int) ∧ ∀ l (S : List Stg) H', H l = none → StA H' l S → SOk S → prodS S ≤ mx → Keep [] H H' → Q (.ref l) H'
def sp_paths : Sp := fun vs H Q _ => ∃ (a : Addr) (S : List Stg), vs = [.ref a] ∧ StA H a S ∧ SOk S ∧ ∀ l xs H', H l = none → H' l = some (.lst xs) → PLs H' xs (paths S [[]]) → (∀ u, V.ref u ∈ xs → H u = none) → Keep [] H H' → Q (.ref l) H'
def sp_view : Sp := fun vs H Q _ => ∃ (a b : Addr) (S : List Stg) (p : List Nat) (pl : Nat), vs = [.ref a, .ref b, .int pl] ∧ StA H a S ∧ SOk S ∧ PaA H b p ∧ p.length ≤ S.length ∧ ∀ v H', TD H' v (dView (vw S pl p p.length)) → Keep [] H H' → Q v H'
def sp_asked : Sp := fun vs H Q _ => ∃ (a b : Addr) (S : List Stg) (p : List Nat), vs = [.ref a, .ref b] ∧ StA H a S ∧ SOk S ∧ PaA H b p ∧ p.length < S.length ∧ ∀ v H', TD H' v (dView (asked S p p.length)) → Keep [] H H' → Q v H'
def sp_met : Sp := fun vs H Q _ => ∃ (a : Addr) (S : List Stg) (pl : Nat), vs = [.ref a, .int pl] ∧ StA H a S ∧ SOk S ∧ ∀ l xs H', H l = none → H' l = some (.lst xs) → TDs H' xs ((met S pl).map dRow) → Keep [] H H' → Q (.ref l) H'
section
variable {P : Program} {w : World} {K : PySem.W.Frag} {mg : Str → Option Value} {base : Heap} {C_Ratio : Addr} {C_Plan : Addr} {C_End : Addr} {C_Lot : Addr} {C_Turn : Addr}
theorem ok_cell {f : Addr} {fd : FuncData} (D : C8.Def K mg "_law_cell" s_law_cell f fd) (b : Binds K fd ["script", "k"] []) (T : Txt K mg C_Ratio C_Plan C_End C_Lot C_Turn) : C8.Cal P w K mg base 1 "_law_cell" (sp_cell K) [] := by
  refine cal0 D b .nil sc_law_cell (fun vs H Q E h => ?_) (fun cdv A outer s H vs Q E hr h => ?_)
  · obtain ⟨a, ns, k, rfl, _⟩ := h
    rfl
  · obtain ⟨a, ns, k, rfl, hS, g⟩ := h
    refine ⟨_, (pss_cons (ps_if (pt_cmpR op_lt (pv 1) (pe_callB call_len_seq (by rfl) T.n_len bo_len (pa_cons (pv 0) pa_nil)) (nomark _))
  (pss_one (ps_ret (pe_ix ix_list (pv 0) (pv 1) (fun _ _ => rfl))))
  pss_nil)
(pss_one (ps_ret pe_int))), ?_⟩
    refine ⟨_, rfl, _, rfl, _, _, rfl, .inl hS, _, _, rfl, rfl, _, rfl, iteD (fun h => ?_) (fun h => ?_)⟩
    all_goals rw [List.length_map] at h
    rotate_left
    · have e : ns.getD k 0 = 0 := by rw [List.getD_eq_getElem?_getD, List.getElem?_eq_none (by omega)]; rfl
      rw [e] at g; exact g
    have hk : k < ns.length := by omega
    have e : ns.getD k 0 = ns[k] := by rw [List.getD_eq_getElem?_getD, List.getElem?_eq_getElem hk]; rfl
    rw [e] at g
    exact ⟨_, rfl, _, rfl, _, _, _, _, rfl, rfl, hS, atI_nat (by rw [List.getElem?_map, List.getElem?_eq_getElem hk]; rfl), g⟩
theorem ok_isint {f : Addr} {fd : FuncData} (D : C8.Def K mg "_law_is_integer" s_law_is_integer f fd) (b : Binds K fd ["actual"] []) (T : Txt K mg C_Ratio C_Plan C_End C_Lot C_Turn) : C8.Cal P w K mg base 1 "_law_is_integer" sp_isint [] := by
  refine cal0 D b .nil sc_law_is_integer (fun vs H Q E h => ?_) (fun cdv A outer s H vs Q E hr h => ?_)
  · obtain ⟨z, rfl, _⟩ := h
    rfl
  · obtain ⟨z, rfl, k⟩ := h
    refine ⟨_, (pss_one (ps_ret (pe_and (pe_callB call_isi (by rfl) T.n_isinstance bo_isinstance (pa_cons (pv 0) (pa_cons (pe_bltn (v := .ty "int") (by rfl) T.n_int bo_int rfl) pa_nil))) (pe_one (pe_not (pe_callB call_isi (by rfl) T.n_isinstance bo_isinstance (pa_cons (pv 0) (pa_cons (pe_bltn (v := .ty "bool") (by rfl) T.n_bool bo_bool rfl) pa_nil)))))))), ?_⟩
    have kII : PySem.W.kitOne K (.type "int") (.type "int") = some true := kit_ty (by decide +kernel)
    have kIB : PySem.W.kitOne K (.type "int") (.type "bool") = some false := kit_ty (by decide +kernel)
    exact ⟨_, rfl, _, _, _, _, _, rfl, .ty _, .base (.int z), kII, _, rfl, iteT ⟨_, rfl, _, _, _, _, _, rfl, .ty _, .base (.int z), kIB, _, rfl, k⟩⟩
theorem ok_row {f : Addr} {fd : FuncData} (D : C8.Def K mg "_law_row" s_law_row f fd) (b : Binds K fd ["cell", "count", "size"] []) (T : Txt K mg C_Ratio C_Plan C_End C_Lot C_Turn) : C8.Cal P w K mg base 1 "_law_row" sp_row [] := by
  refine cal0 D b .nil sc_law_row (fun vs H Q E h => ?_) (fun cdv A outer s H vs Q E hr h => ?_)
  · obtain ⟨c, n, m, rfl, _⟩ := h
    rfl
  · obtain ⟨c, n, m, rfl, hm0, hm1, hn, k⟩ := h
    refine ⟨_, (pss_cons (ps_set (i := 3) sc_law_row.nd rfl (by first | exact Or.inl rfl | exact Or.inr rfl) (pv 0))
(pss_cons (ps_set (i := 4) sc_law_row.nd rfl (by first | exact Or.inl rfl | exact Or.inr rfl) (pe_lst pa_nil))
(pss_cons (ps_for PassesOwn.never rfl (pi_range1 (by rfl) T.n_range (pa_cons (pv 1) pa_nil)) (pg_name (i := 5) sc_law_row.nd rfl (by first | exact Or.inl rfl | exact Or.inr rfl))
  (pss_one (ps_if (pt_cmpR op_ge (pv 0) (pe_op op_pow pe_int pe_int) (nomark _))
    (pss_cons (ps_expr (pe_bm PySem.F.plainAttrs_list PySem.F.slot_list_append PySem.F.type_list_append mt_append (pv 4) (pa_cons (pe_op op_mod (pe_callTy call_int1 (by rfl) T.n_int bo_int (pa_cons (pv 3) pa_nil)) (pv 2)) pa_nil)))
    (pss_one (ps_set (i := 3) sc_law_row.nd rfl (by first | exact Or.inl rfl | exact Or.inr rfl) (pe_op op_fdivG (pv 3) (pv 2)))))
    (pss_cons (ps_set (i := 3) sc_law_row.nd rfl (by first | exact Or.inl rfl | exact Or.inr rfl) (pe_op op_mod (pe_callTy call_int1 (by rfl) T.n_int bo_int (pa_cons (pe_op op_add (pe_op op_mul (pv 3) pe_int) pe_int) pa_nil)) pe_int))
    (pss_one (ps_expr (pe_bm PySem.F.plainAttrs_list PySem.F.slot_list_append PySem.F.type_list_append mt_append (pv 4) (pa_cons (pe_op op_mod (pe_op op_mod (pe_callTy call_int1 (by rfl) T.n_int bo_int (pa_cons (pe_op op_add (pe_op op_mul (pv 3) pe_int) (pe_op op_mul (pv 5) pe_int)) pa_nil)) pe_int) (pv 2)) pa_nil))))))))
(pss_one (ps_ret (pv 4)))))), ?_⟩
    have cdg : ∀ {i : Int}, CDivG i m := ⟨by omega, Nat.lt_trans (log2_lt9 (b := 60) (by omega) (by decide)) (by decide)⟩
    have hbig : (0 : Int) < 2147483647 := by decide
    refine ⟨_, rfl, by show 0 ≤ sizeLine; decide, fun l nl => ?_⟩
    refine ⟨_, rfl, (n : Int), rfl, by omega, by omega, for_range (lo := 0) (n := ((n : Int)).toNat) (fun i σ H' => ∃ (st : Int) (ds : List Nat) (o : Option V), σ = [some (.int c), some (.int n), some (.int m), some (.int st), some (.ref l), o] ∧ H' l = some (.lst (ds.map nat)) ∧ ds.length = i ∧ (∀ d ∈ ds, (d : Int) < m) ∧ Keep [] H H')
      ⟨c, [], none, rfl, upd_same, rfl, (fun _ h => by cases h), Keep.new nl⟩ ?_ ?_⟩
    · rintro i σ H' hi ⟨st, ds, o, rfl, hl, hlen, hds, kk⟩
      have e0 : (0 : Int) + (i : Int) = (i : Int) := by omega
      rw [e0]
      have push : ∀ {z : Int}, 0 ≤ z → z < m → upd H' l (.lst (ds.map nat ++ [.int z])) l = some (.lst ((ds ++ [z.toNat]).map nat)) ∧ ∀ d ∈ ds ++ [z.toNat], (d : Int) < m := fun {z} h0 h1 => by
        refine ⟨?_, fun d hd => ?_⟩
        · rw [upd_same, List.map_append]
          show some (HO.lst (ds.map nat ++ [.int z])) = some (HO.lst (ds.map nat ++ [.int ((z.toNat : Nat) : Int)]))
          rw [Int.toNat_of_nonneg h0]
        · rcases List.mem_append.mp hd with q | q
          · exact hds d q
          · rw [List.mem_singleton.mp q]; omega
      have hln : (ds.map nat).length < sizeLine := by rw [List.length_map]; exact smallL (by omega)
      refine ⟨_, rfl, _, _, rfl, rfl, ⟨by decide, by decide, by decide⟩, _, _, rfl, rfl, _, rfl, iteD (fun _ => ?_) (fun _ => ?_)⟩
      · refine ⟨_, rfl, .inl ⟨rfl, _, SqL.of hl⟩, _, rfl, .inl ⟨_, rfl, _, rfl, _, _, rfl, rfl, hm0, ?_⟩⟩
        obtain ⟨g1, g2⟩ := push (Int.emod_nonneg st (by omega)) (Int.emod_lt_of_pos st hm0)
        exact ⟨_, _, _, rfl, rfl, hl, hln, _, rfl, _, rfl, _, _, rfl, rfl, cdg, _, _, _, rfl, g1, by rw [List.length_append, hlen]; rfl, g2, kk.then_own nl⟩
      · refine ⟨_, rfl, _, _, rfl, rfl, .inr ⟨by decide, by decide⟩, _, _, rfl, rfl, .inl ⟨_, rfl, _, _, rfl, rfl, hbig, ?_⟩⟩
        refine ⟨_, rfl, .inl ⟨rfl, _, SqL.of hl⟩, _, rfl, _, _, rfl, rfl, .inr ⟨by decide, by decide⟩, _, rfl, _, _, rfl, rfl, .inr ⟨by decide, by decide⟩, _, _, rfl, rfl, .inl ⟨_, rfl, _, _, rfl, rfl, hbig, _, rfl, _, _, rfl, rfl, hm0, ?_⟩⟩
        obtain ⟨g1, g2⟩ := push (Int.emod_nonneg _ (by omega)) (Int.emod_lt_of_pos _ hm0)
        exact ⟨_, _, _, rfl, rfl, hl, hln, _, _, _, rfl, g1, by rw [List.length_append, hlen]; rfl, g2, kk.then_own nl⟩
    · rintro σ H' ⟨st, ds, o, rfl, hl, hlen, hds, kk⟩
      exact ⟨_, rfl, k l ds _ nl hl (by omega) hds kk⟩
theorem ok_paths {f : Addr} {fd : FuncData} (D : C8.Def K mg "_law_paths" s_law_paths f fd) (b : Binds K fd ["stages"] []) (T : Txt K mg C_Ratio C_Plan C_End C_Lot C_Turn) : C8.Cal P w K mg base 1 "_law_paths" sp_paths [] := by
  refine cal0 D b .nil sc_law_paths (fun vs H Q E h => ?_) (fun cdv A outer s H vs Q E hr h => ?_)
  · obtain ⟨a, S, rfl, _⟩ := h
    rfl
  · obtain ⟨a, S, rfl, hS, hok, k⟩ := h
    refine ⟨_, (pss_cons (ps_set (i := 1) sc_law_paths.nd rfl (by first | exact Or.inl rfl | exact Or.inr rfl) (pe_lst (pa_cons (pe_lst pa_nil) pa_nil)))
(pss_cons (ps_for PassesOwn.never rfl (pi_list (pv 0)) (pg_name (i := 2) sc_law_paths.nd rfl (by first | exact Or.inl rfl | exact Or.inr rfl))
  (pss_cons (ps_set (i := 3) sc_law_paths.nd rfl (by first | exact Or.inl rfl | exact Or.inr rfl) (pe_lst pa_nil))
  (pss_cons (ps_for PassesOwn.never rfl (pi_list (pv 1)) (pg_name (i := 4) sc_law_paths.nd rfl (by first | exact Or.inl rfl | exact Or.inr rfl))
    (pss_one (ps_for PassesOwn.never rfl (pi_range1 (by rfl) T.n_range (pa_cons (pe_ix ix_tup (pv 2) pe_int (fun _ _ => rfl)) pa_nil)) (pg_name (i := 5) sc_law_paths.nd rfl (by first | exact Or.inl rfl | exact Or.inr rfl))
      (pss_one (ps_expr (pe_bm PySem.F.plainAttrs_list PySem.F.slot_list_append PySem.F.type_list_append mt_append (pv 3) (pa_cons (pe_op op_cat (pv 4) (pe_lst (pa_cons (pv 5) pa_nil))) pa_nil)))))))
  (pss_one (ps_set (i := 1) sc_law_paths.nd rfl (by first | exact Or.inl rfl | exact Or.inr rfl) (pv 3))))))
(pss_one (ps_ret (pv 1))))), ?_⟩
    obtain ⟨vs, hvs, hSL⟩ := id hS
    have hlS := hSL.len
    refine And.intro (by show 0 ≤ sizeLine; decide) <| fun e0 ne0 => And.intro (by show 1 ≤ sizeLine; decide) <| fun l0 nl0 => ?_
    have k0 : Keep [] H (upd (upd H e0 (.lst [])) l0 (.lst [.ref e0])) := (Keep.new ne0).then_new nl0
    refine ⟨_, rfl, a, rfl, ⟨_, SqL.of (k0 _ _ hvs (by simp))⟩, for_list (K := K) (a := a) (xs := vs) (fun i σ H' => ∃ (l : Addr) (xs : List V) (o2 o3 o4 o5 : Option V), σ = [some (.ref a), some (.ref l), o2, o3, o4, o5] ∧ H l = none ∧ H' l = some (.lst xs) ∧ PLs H' xs (paths (S.take i) [[]]) ∧ Keep [] H H' ∧ (∀ u, V.ref u ∈ xs → H u = none))
      ⟨l0, _, _, _, _, _, rfl, (Keep.new (W := []) ne0).free nl0, upd_same, .cons (p := []) (Keep.new (W := []) nl0 _ _ upd_same (by simp)) .nil, k0, fun u hu => by rw [V.ref.inj (List.mem_singleton.mp hu)]; exact ne0⟩ (fun i σ H' _ ⟨_, _, _, _, _, _, _, _, _, _, kk, _⟩ => SqL.of (kk _ _ hvs (by simp))) ?_ ?_⟩
    · rintro i v σ H1 hi ⟨l, xs, o2, o3, o4, o5, rfl, nl, hl, hpl, k1, fr⟩
      have hi' : i < S.length := by
        have := (List.getElem?_eq_some_iff.mp hi).1
        omega
      obtain ⟨t, ht1, ht0⟩ := hSL.get hi'
      rw [hi] at ht1
      cases ht1
      have hok1 := stg_ok hok i
      have etk : S.take (i + 1) = S.take i ++ [stg S i] := by
        rw [List.take_succ_eq_append_getElem hi']
        unfold stg
        rw [List.getD_eq_getElem?_getD, List.getElem?_eq_getElem hi']; rfl
      have hprod : prodS (S.take (i + 1)) ≤ 100 := Nat.le_trans (prod_take hok.all _) hok.prod
      rw [etk, prod_app] at hprod
      have hcnt : (paths (S.take i) [[]]).length = prodS (S.take i) := by rw [paths_len]; show _ * 1 = _; omega
      have hplen : ∀ q ∈ paths (S.take i) [[]], q.length ≤ 4 := fun q hq => by
        have := paths_each (S.take i) [[]] 0 (fun q hq => by rw [List.mem_singleton.mp hq]; rfl) q hq
        rw [List.length_take] at this
        have := hok.len
        omega
      rw [etk, paths_snoc]
      generalize hps : paths (S.take i) [[]] = ps at hpl hcnt hplen
      generalize hst : stg S i = st at *
      refine And.intro (by show 0 ≤ sizeLine; decide) <| fun g ng => ?_
      have kg : Keep [] H1 (upd H1 g (.lst [])) := Keep.new ng
      have hll := hpl.len
      have ng0 := k1.free ng
      refine ⟨_, rfl, l, rfl, ⟨_, SqL.of (kg _ _ hl (by simp))⟩, for_list (K := K) (a := l) (xs := xs) (fun j σ H' => ∃ (ys : List V) (o4 o5 : Option V), σ = [some (.ref a), some (.ref l), some (.ref t), some (.ref g), o4, o5] ∧ H' g = some (.lst ys) ∧ PLs H' ys ((ps.take j).flatMap (ext1 st.sz)) ∧ Keep [] H1 H' ∧ (∀ u, V.ref u ∈ ys → u ≠ g) ∧ (∀ u, V.ref u ∈ ys → H u = none))
        ⟨[], _, _, rfl, upd_same, .nil, kg, (fun _ h => by cases h), fun _ h => by cases h⟩ (fun j σ H' _ ⟨_, _, _, _, _, _, kk, _⟩ => SqL.of (kk _ _ hl (by simp))) ?_ ?_⟩
      · rintro j v σ H2 hj ⟨ys, o4, o5, rfl, hg, hys, k2, hne, fr2⟩
        obtain ⟨u, q, rfl, hq, hu⟩ := hpl.get hj
        have hjl := (List.getElem?_eq_some_iff.mp hq).1
        have hu2 : H2 u = some (.lst (q.map nat)) := k2 _ _ hu (by simp)
        have hql := hplen q (List.mem_of_getElem? hq)
        have ht2 := k2 _ _ (k1 _ _ ht0 (by simp)) (by simp)
        have hyl := hys.len
        have etj : ps.take (j + 1) = ps.take j ++ [q] := by
          rw [List.take_succ_eq_append_getElem hjl]
          rw [List.getElem?_eq_getElem hjl] at hq
          rw [Option.some.inj hq]
        have hflen : ((ps.take j).flatMap (ext1 st.sz)).length = st.sz * (ps.take j).length := by
          rw [List.length_flatMap]
          have e : (ps.take j).map (fun x => (ext1 st.sz x).length) = (ps.take j).map fun _ => st.sz := List.map_congr_left fun x _ => by unfold ext1; rw [List.length_map, List.length_range]
          rw [e, List.map_const', List.sum_replicate_nat, Nat.mul_comm]
        have hbound : ys.length ≤ 100 := by
          rw [hyl, hflen, List.length_take]
          have : st.sz * min j ps.length ≤ st.sz * prodS (S.take i) := Nat.mul_le_mul_left _ (by omega)
          rw [Nat.mul_comm st.sz (prodS _)] at this
          omega
        refine ⟨_, rfl, _, _, _, _, rfl, rfl, SqT.of ht2, rfl, (st.sz : Int), rfl, by omega, by have := hok1.sz1; omega, for_range (lo := 0) (n := ((st.sz : Int)).toNat) (fun m σ H' => ∃ (zs : List V) (o5 : Option V), σ = [some (.ref a), some (.ref l), some (.ref t), some (.ref g), some (.ref u), o5] ∧ H' g = some (.lst zs) ∧ PLs H' zs ((ps.take j).flatMap (ext1 st.sz) ++ (List.range m).map fun k => q ++ [k]) ∧ Keep [] H1 H' ∧ (∀ u, V.ref u ∈ zs → u ≠ g) ∧ (∀ u, V.ref u ∈ zs → H u = none))
          ⟨ys, _, rfl, hg, by rw [List.range_zero, List.map_nil, List.append_nil]; exact hys, k2, hne, fr2⟩ ?_ ?_⟩
        · rintro m σ H3 hm ⟨zs, o5, rfl, hg3, hzs, k3, hne3, fr3⟩
          have e0 : (0 : Int) + (m : Int) = (m : Int) := by omega
          rw [e0]
          have hzl := hzs.len
          rw [List.length_append, List.length_map, List.length_range, ← hyl] at hzl
          have hm' : m < 100 := by have := hok1.sz1; omega
          have hu3 : H3 u = some (.lst (q.map nat)) := k3 _ _ hu (by simp)
          refine ⟨_, rfl, .inl ⟨rfl, _, SqL.of hg3⟩, _, rfl, _, rfl, And.intro (by show 1 ≤ sizeLine; decide) <| fun s1 ns1 => ?_⟩
          have ks : Keep [] H3 (upd H3 s1 (.lst [.int (m : Int)])) := Keep.new ns1
          refine ⟨u, s1, _, _, rfl, rfl, ks _ _ hu3 (by simp), upd_same, smallM (by rw [List.length_map]; simp; omega), fun r nr => ?_⟩
          have kr := ks.then_new (o := .lst (q.map nat ++ [.int (m : Int)])) nr
          have hg4 := kr _ _ hg3 (by simp)
          have nrg : r ≠ g := (ne_of_none (ks _ _ hg3 (by simp)) nr).symm
          refine ⟨_, _, _, rfl, rfl, hg4, smallL (by omega), zs ++ [.ref r], _, rfl, upd_same, ?_, (k3.trans kr).then_own ng, fun w hw => ?_, fun w hw => ?_⟩
          · rw [List.range_succ, List.map_append, ← List.append_assoc]
            refine PLs.snoc ?_ ?_
            · refine (hzs.keep kr).own (fun b o hb nb => by rw [upd_ne nb]; exact hb) hne3
            · show (upd _ g _) r = _
              rw [upd_ne nrg, upd_same, List.map_append]; rfl
          · rcases List.mem_append.mp hw with hw | hw
            · exact hne3 w hw
            · rw [V.ref.inj (List.mem_singleton.mp hw)]; exact nrg
          · rcases List.mem_append.mp hw with hw | hw
            · exact fr3 w hw
            · rw [V.ref.inj (List.mem_singleton.mp hw)]; exact (k1.trans (k3.trans ks)).free nr
        · rintro σ H3 ⟨zs, o5, rfl, hg3, hzs, k3, hne3, fr3⟩
          refine ⟨zs, _, _, rfl, hg3, ?_, k3, hne3, fr3⟩
          rw [etj, List.flatMap_append]
          rw [Int.toNat_natCast] at hzs
          simpa [ext1] using hzs
      · rintro σ H2 ⟨ys, o4, o5, rfl, hg, hys, k2, hne, fr2⟩
        rw [hll, List.take_length] at hys
        exact ⟨_, rfl, g, ys, _, _, _, _, rfl, ng0, hg, hys, k1.trans k2, fr2⟩
    · rintro σ H1 ⟨l, xs, o2, o3, o4, o5, rfl, nl, hl, hpl, k1, fr⟩
      rw [hlS, List.take_length] at hpl
      exact ⟨_, rfl, k l xs _ nl hl hpl fr k1⟩
theorem ok_view {f : Addr} {fd : FuncData} (D : C8.Def K mg "_law_view" s_law_view f fd) (b : Binds K fd ["stages", "path", "player"] []) (T : Txt K mg C_Ratio C_Plan C_End C_Lot C_Turn) : C8.Cal P w K mg base 1 "_law_view" sp_view [] := by
  refine cal0 D b .nil sc_law_view (fun vs H Q E h => ?_) (fun cdv A outer s H vs Q E hr h => ?_)
  · obtain ⟨a, c, S, p, pl, rfl, _⟩ := h
    rfl
  · obtain ⟨a, c, S, p, pl, rfl, hS, hok, hp, hlen, k⟩ := h
    refine ⟨_, (pss_cons (ps_set (i := 3) sc_law_view.nd rfl (by first | exact Or.inl rfl | exact Or.inr rfl) (pe_tup (pa_cons (pe_tup (pa_cons pe_str (pa_cons pe_int pa_nil))) pa_nil)))
(pss_cons (ps_set (i := 4) sc_law_view.nd rfl (by first | exact Or.inl rfl | exact Or.inr rfl) pe_int)
(pss_cons (ps_set (i := 5) sc_law_view.nd rfl (by first | exact Or.inl rfl | exact Or.inr rfl) pe_int)
(pss_cons (ps_for PassesOwn.never rfl (pi_range1 (by rfl) T.n_range (pa_cons (pe_callB call_len_seq (by rfl) T.n_len bo_len (pa_cons (pv 1) pa_nil)) pa_nil)) (pg_name (i := 6) sc_law_view.nd rfl (by first | exact Or.inl rfl | exact Or.inr rfl))
  (pss_cons (ps_set (i := 7) sc_law_view.nd rfl (by first | exact Or.inl rfl | exact Or.inr rfl) (pe_ix ix_list (pv 0) (pv 6) (fun _ _ => rfl)))
  (pss_cut (ps_if (PW.pt (pw_and (pt_cmpR op_gt (pv 6) pe_int (nomark _)) (pw_and1 (pt_val (pe_ix ix_tup (pv 7) pe_int (fun _ _ => rfl))))))
    (pss_cons (ps_set (i := 5) sc_law_view.nd rfl (by first | exact Or.inl rfl | exact Or.inr rfl) (pe_op op_add (pv 5) pe_int))
    (pss_one (ps_set (i := 3) sc_law_view.nd rfl (by first | exact Or.inl rfl | exact Or.inr rfl) (pe_op op_catA (pv 3) (pe_tup (pa_cons (pe_tup (pa_cons pe_str (pa_cons (pv 5) pa_nil))) pa_nil))))))
    pss_nil)
  (pss_cut (ps_if (pt_cmpR op_eq (pe_ix ix_tup (pv 7) pe_int (fun _ _ => rfl)) (pv 2) (nomark _))
    (pss_one (ps_set (i := 3) sc_law_view.nd rfl (by first | exact Or.inl rfl | exact Or.inr rfl) (pe_op op_catA (pv 3) (pe_tup (pa_cons (pe_tup (pa_cons pe_str (pa_cons (pv 4) (pa_cons (pe_ix ix_tup (pv 7) pe_int (fun _ _ => rfl)) pa_nil)))) (pa_cons (pe_tup (pa_cons pe_str (pa_cons (pe_ix ix_list (pv 1) (pv 6) (fun _ _ => rfl)) pa_nil))) pa_nil))))))
    pss_nil)
  (pss_cut (ps_if (pt_cmpR op_ne (pe_ix ix_tup (pv 7) pe_int (fun _ _ => rfl)) pe_int (nomark _))
    (pss_one (ps_set (i := 4) sc_law_view.nd rfl (by first | exact Or.inl rfl | exact Or.inr rfl) (pe_op op_add (pv 4) pe_int)))
    pss_nil)
  (pss_one (ps_if (PW.pt (pw_or (pt_cmpR op_eq (pe_ix ix_tup (pv 7) pe_int (fun _ _ => rfl)) (pv 2) (nomark _)) (pw_or1 (pt_cmpR op_eq (pe_ix ix_tup (pv 7) pe_int (fun _ _ => rfl)) pe_int (nomark _)))))
    (pss_one (ps_set (i := 3) sc_law_view.nd rfl (by first | exact Or.inl rfl | exact Or.inr rfl) (pe_op op_catA (pv 3) (pe_tup (pa_cons (pe_tup (pa_cons pe_str (pa_cons (pe_ix ix_list (pv 1) (pv 6) (fun _ _ => rfl)) pa_nil))) pa_nil)))))
    pss_nil)))))))
(pss_one (ps_ret (pv 3))))))), ?_⟩
    refine And.intro (by show 2 ≤ sizeLine; decide) <| fun t0 n0 => And.intro (by show 1 ≤ sizeLine; decide) <| fun v0 nv0 => ?_
    have k0 : Keep [] H (upd (upd H t0 (.tup [.str "round", .int 0])) v0 (.tup [.ref t0])) := (Keep.new n0).then_new nv0
    have hv0 : TD (upd (upd H t0 (.tup [.str "round", .int 0])) v0 (.tup [.ref t0])) (.ref v0) (dView (vw S pl p 0)) := .tup upd_same (.cons (.tup (Keep.new (W := []) nv0 _ _ upd_same (by simp)) (.cons (.str _) (.cons (.int _) .nil))) .nil)
    generalize upd (upd H t0 (.tup [.str "round", .int 0])) v0 (.tup [.ref t0]) = H0 at *
    have hp0 := k0 _ _ hp (by simp)
    have hl4 := hok.len
    refine ⟨_, rfl, _, _, rfl, .inl (SqL.of hp0), _, rfl, by rw [List.length_map]; omega, by rw [List.length_map]; omega, ?_⟩
    rw [List.length_map]
    refine for_range (lo := 0) (n := p.length) (fun i σ H' => ∃ (v : V) (o6 o7 : Option V), σ = [some (.ref a), some (.ref c), some (.int pl), some v, some (.int (nm S i)), some (.int (rn S i)), o6, o7] ∧ TD H' v (dView (vw S pl p i)) ∧ Keep [] H H') ⟨_, none, none, rfl, hv0, k0⟩ ?_ ?_
    · rintro i σ H1 hi ⟨v, o6, o7, rfl, hv, k1⟩
      have e0 : (0 : Int) + (i : Int) = (i : Int) := by omega
      rw [e0]
      obtain ⟨xs, hxs, hSL⟩ := id hS
      obtain ⟨t, ht1, ht0⟩ := hSL.get (i := i) (by omega)
      refine ⟨_, rfl, _, rfl, _, _, _, _, rfl, rfl, SqL.of (k1 _ _ hxs (by simp)), atI_nat ht1, ?_⟩
      generalize hst : stg S i = st at ht0
      have ht2 := k1 _ _ ht0 (by simp)
      have hvl := vw_len S pl p i
      -- a round
      refine ⟨fun σ H' => ∃ v', σ = [some (.ref a), some (.ref c), some (.int pl), some v', some (.int (nm S i)), some (.int (rn S (i + 1))), some (.int (i : Int)), some (.ref t)] ∧ TD H' v' (dView (vw S pl p i ++ rdE S i)) ∧ Keep [] H H', ?_, ?_⟩
      · have ern : rn S (i + 1) = rn S i + (if 0 < i ∧ (stg S i).rd = true then 1 else 0) := rfl
        have no : ¬ (0 < i ∧ (stg S i).rd = true) → ∃ v', [some (V.ref a), some (V.ref c), some (V.int pl), some v, some (V.int (nm S i)), some (V.int (rn S i)), some (V.int (i : Int)), some (V.ref t)] = [some (.ref a), some (.ref c), some (.int pl), some v', some (.int (nm S i)), some (.int (rn S (i + 1))), some (.int (i : Int)), some (.ref t)] ∧ TD H1 v' (dView (vw S pl p i ++ rdE S i)) ∧ Keep [] H H1 := fun h => by
          unfold rdE
          rw [ern, if_neg h, if_neg h, Int.add_zero, List.append_nil]
          exact ⟨_, rfl, hv, k1⟩
        refine ⟨_, rfl, _, _, rfl, rfl, _, rfl, iteD (fun h0 => ?_) (fun h0 => no fun z => h0 (by omega))⟩
        refine ⟨_, rfl, _, _, _, _, rfl, rfl, SqT.of ht2, rfl, _, rfl, iteB (fun h1 => ?_) (fun h1 => no fun z => by rw [hst, h1] at z; cases z.2)⟩
        have yes : 0 < i ∧ (stg S i).rd = true := ⟨by omega, by rw [hst]; exact h1⟩
        refine ⟨_, rfl, _, _, rfl, rfl, _, rfl, _, rfl, And.intro (by show 2 ≤ sizeLine; decide) <| fun u1 m1 => And.intro (by show 1 ≤ sizeLine; decide) <| fun u2 m2 => ?_⟩
        have kk := ((Keep.new (W := []) (o := .tup [.str "round", .int (rn S i + 1)]) m1).then_new (o := .tup [.ref u1]) m2)
        refine add_evs (M := [("round", [rn S i + 1])]) (hv.tk kk.tk) upd_same (.cons (.tup (Keep.new (W := []) m2 _ _ upd_same (by simp)) (.cons (.str _) (td_ints [_]))) .nil) (by simp; omega) fun q H2 k2 hq => ?_
        refine ⟨.ref q, ?_, ?_, (k1.trans kk).trans k2⟩
        · rw [ern, if_pos yes]; rfl
        · unfold rdE
          rw [if_pos yes, ern, if_pos yes]; exact hq
      rintro σ H2 ⟨v2, rfl, hv2, k2⟩
      have ht3 := k2 _ _ ht0 (by simp)
      have hl2 : (vw S pl p i ++ rdE S i).length ≤ 2 + 4 * i := by
        unfold rdE
        rw [List.length_append]
        split <;> simp <;> omega
      have vwS : vw S pl p (i + 1) = ((vw S pl p i ++ rdE S i) ++ (if st.pl = pl then [(("move" : Str), [nm S i, (st.sz : Int)]), (("did" : Str), [((p.getD i 0 : Nat) : Int)])] else [])) ++ (if st.sh = pl ∨ st.sh = 3 then [(("told" : Str), [tl st.sz (p.getD i 0)])] else []) := by
        subst hst; rfl
      have hpi : i < p.length := hi
      have hpat : (p.map nat)[i]? = some (nat (p.getD i 0)) := by
        rw [List.getElem?_map, List.getElem?_eq_getElem hpi, List.getD_eq_getElem?_getD, List.getElem?_eq_getElem hpi]; rfl
      generalize p.getD i 0 = x at vwS hpat
      -- an own move
      refine ⟨fun σ H' => ∃ v', σ = [some (.ref a), some (.ref c), some (.int pl), some v', some (.int (nm S i)), some (.int (rn S (i + 1))), some (.int (i : Int)), some (.ref t)] ∧ TD H' v' (dView ((vw S pl p i ++ rdE S i) ++ (if st.pl = pl then [(("move" : Str), [nm S i, (st.sz : Int)]), (("did" : Str), [((x : Nat) : Int)])] else []))) ∧ Keep [] H H', ?_, ?_⟩
      · refine ⟨_, rfl, _, _, _, _, rfl, rfl, SqT.of ht3, rfl, _, rfl, rfl, _, rfl, iteD (fun h => ?_) (fun h => ?_)⟩
        · have hpl : st.pl = pl := by have := V.int.inj h; omega
          rw [if_pos hpl]
          have hpc2 := k2 _ _ hp (by simp)
          refine ⟨_, rfl, _, rfl, _, rfl, _, _, _, _, rfl, rfl, SqT.of ht3, rfl, And.intro (by show 3 ≤ sizeLine; decide) <| fun u1 m1 => ?_⟩
          have kk1 := Keep.new (W := []) (o := .tup [.str "move", .int (nm S i), .int (st.sz : Int)]) m1
          refine ⟨_, rfl, _, rfl, _, _, _, _, rfl, rfl, SqL.of (kk1 _ _ hpc2 (by simp)), atI_nat hpat, And.intro (by show 2 ≤ sizeLine; decide) <| fun u2 m2 => And.intro (by show 2 ≤ sizeLine; decide) <| fun u3 m3 => ?_⟩
          have kk2 := Keep.new (W := []) (o := .tup [.str "did", .int (x : Int)]) m2
          have kk3 := Keep.new (W := []) (o := .tup [.ref u1, .ref u2]) m3
          have kk := (kk1.trans kk2).trans kk3
          refine add_evs (M := [(("move" : Str), [nm S i, (st.sz : Int)]), (("did" : Str), [((x : Nat) : Int)])]) (hv2.tk kk.tk) upd_same (.cons (.tup (kk3 _ _ (kk2 _ _ upd_same (by simp)) (by simp)) (.cons (.str _) (td_ints [_, _]))) (.cons (.tup (kk3 _ _ upd_same (by simp)) (.cons (.str _) (td_ints [_]))) .nil)) (by simp only [List.length_cons, List.length_nil]; omega) fun q H3 k3 hq => ?_
          exact ⟨.ref q, rfl, hq, (k2.trans kk).trans k3⟩
        · have hpl : ¬ st.pl = pl := fun z => h (by rw [z])
          rw [if_neg hpl, List.append_nil]
          exact ⟨v2, rfl, hv2, k2⟩
      rintro σ H3 ⟨v3, rfl, hv3, k3⟩
      have ht4 := k3 _ _ ht0 (by simp)
      have hl3 : ((vw S pl p i ++ rdE S i) ++ (if st.pl = pl then [(("move" : Str), [nm S i, (st.sz : Int)]), (("did" : Str), [((x : Nat) : Int)])] else [])).length ≤ 4 + 4 * i := by
        rw [List.length_append]
        split <;> simp only [List.length_cons, List.length_nil] <;> omega
      generalize hG : ((vw S pl p i ++ rdE S i) ++ (if st.pl = pl then [(("move" : Str), [nm S i, (st.sz : Int)]), (("did" : Str), [((x : Nat) : Int)])] else [])) = G at vwS hv3 hl3
      -- the number of moves
      refine ⟨fun σ H' => H' = H3 ∧ σ = [some (.ref a), some (.ref c), some (.int pl), some v3, some (.int (nm S (i + 1))), some (.int (rn S (i + 1))), some (.int (i : Int)), some (.ref t)], ?_, ?_⟩
      · have en : nm S (i + 1) = nm S i + (if st.pl ≠ 0 then 1 else 0) := by subst hst; rfl
        refine ⟨_, rfl, _, _, _, _, rfl, rfl, SqT.of ht4, rfl, rfl, _, rfl, iteN (fun h => ?_) (fun h => ?_)⟩
        · refine ⟨_, rfl, _, _, rfl, rfl, rfl, ?_⟩
          rw [en, if_pos (fun z => h (by rw [z]; rfl))]; rfl
        · refine ⟨rfl, ?_⟩
          have : ¬ st.pl ≠ 0 := fun z => z (by have := V.int.inj h; omega)
          rw [en, if_neg this, Int.add_zero]
      rintro σ H4 ⟨rfl, rfl⟩
      -- a number told
      rw [vwS]
      have ht5 := k3 _ _ ht0 (by simp)
      have hpc3 := k3 _ _ hp (by simp)
      have stay : ¬ (st.sh = pl ∨ st.sh = 3) → ∃ (v' : V) (o6 o7 : Option V), [some (V.ref a), some (V.ref c), some (V.int pl), some v3, some (V.int (nm S (i + 1))), some (V.int (rn S (i + 1))), some (V.int (i : Int)), some (V.ref t)] = [some (.ref a), some (.ref c), some (.int pl), some v', some (.int (nm S (i + 1))), some (.int (rn S (i + 1))), o6, o7] ∧ TD H4 v' (dView (G ++ (if st.sh = pl ∨ st.sh = 3 then [(("told" : Str), [tl st.sz x])] else []))) ∧ Keep [] H H4 := fun hs => by
        rw [if_neg hs, List.append_nil]
        exact ⟨v3, _, _, rfl, hv3, k3⟩
      have grow : (st.sh = pl ∨ st.sh = 3) → ∀ {u1 u2 : Addr} {H5 : Hp}, Keep [] H4 H5 → H5 u2 = some (.tup [.ref u1]) → H5 u1 = some (.tup [.str "told", .int (tl st.sz x)]) → rCatA K v3 (.ref u2) H5 fun v H6 => ∃ (v' : V) (o6 o7 : Option V), [some (V.ref a), some (V.ref c), some (V.int pl), some v, some (V.int (nm S (i + 1))), some (V.int (rn S (i + 1))), some (V.int (i : Int)), some (V.ref t)] = [some (.ref a), some (.ref c), some (.int pl), some v', some (.int (nm S (i + 1))), some (.int (rn S (i + 1))), o6, o7] ∧ TD H6 v' (dView (G ++ (if st.sh = pl ∨ st.sh = 3 then [(("told" : Str), [tl st.sz x])] else []))) ∧ Keep [] H H6 := fun hs {u1 u2 H5} kk g2 g1 => by
        rw [if_pos hs]
        refine add_evs (M := [(("told" : Str), [tl st.sz x])]) (hv3.tk kk.tk) g2 (.cons (.tup g1 (.cons (.str _) (td_ints [_]))) .nil) (by simp only [List.length_cons, List.length_nil]; omega) fun q H6 k6 hq => ?_
        exact ⟨.ref q, _, _, rfl, hq, (k3.trans kk).trans k6⟩
      have i3 : ∀ {z : Nat}, V.int (st.sh : Int) = V.int (z : Int) → st.sh = z := fun h => by have := V.int.inj h; omega
      refine ⟨_, rfl, _, _, _, _, rfl, rfl, SqT.of ht5, rfl, _, rfl, rfl, _, rfl, iteD (fun h => ?_) (fun h => ⟨_, rfl, _, _, _, _, rfl, rfl, SqT.of ht5, rfl, rfl, _, rfl, iteD (fun h2 => ?_) (fun h2 => stay fun z => z.elim (fun z => h (by rw [z])) (fun z => h2 (by rw [z]; rfl)))⟩)⟩
      all_goals
        first | refine ⟨_, rfl, _, rfl, _, _, _, _, rfl, rfl, SqT.of ht5, rfl, _, _, rfl, rfl, _, rfl, _, rfl, _, _, _, _, rfl, rfl, SqL.of hpc3, atI_nat hpat, _, _, rfl, rfl, And.intro (by show 2 ≤ sizeLine; decide) <| fun u1 m1 => And.intro (by show 1 ≤ sizeLine; decide) <| fun u2 m2 => ?_⟩ | refine ⟨_, rfl, _, rfl, _, rfl, _, _, _, _, rfl, rfl, SqL.of hpc3, atI_nat hpat, And.intro (by show 2 ≤ sizeLine; decide) <| fun u1 m1 => And.intro (by show 1 ≤ sizeLine; decide) <| fun u2 m2 => ?_⟩
        have kk1 := Keep.new (W := []) (o := .tup [.str "told", .int (tl st.sz x)]) m1
        have kk2 := Keep.new (W := []) (o := .tup [.ref u1]) m2
        exact grow (by first | exact .inl (i3 h) | exact .inr (i3 (z := 3) h2)) (kk1.trans kk2) upd_same (kk2 _ _ upd_same (by simp))
    · rintro σ H' ⟨v, o6, o7, rfl, hv, kk⟩
      exact ⟨_, rfl, k _ _ hv kk⟩
theorem rn_sum (S : List Stg) : ∀ n, ((List.range n).map fun j => (if (stg S (j + 1)).rd = true then (1 : Int) else 0)).sum = rn S (n + 1)
  | 0 => rfl
  | n + 1 => by
    rw [List.range_succ, List.map_append, List.sum_append, rn_sum S n]
    show rn S (n + 1) + ((if (stg S (n + 1)).rd = true then (1 : Int) else 0) + 0) = rn S (n + 1) + (if 0 < n + 1 ∧ (stg S (n + 1)).rd = true then 1 else 0)
    have : (0 < n + 1 ∧ (stg S (n + 1)).rd = true) ↔ (stg S (n + 1)).rd = true := ⟨fun h => h.2, fun h => ⟨by omega, h⟩⟩
    simp only [this, Int.add_zero]
theorem cut_take {p : List Nat} {k : Nat} (h : k ≤ p.length) : cutV (p.map nat) none (some (k : Int)) = (p.take k).map nat := by
  show ((p.map nat).drop (HT.sIx (p.map nat).length 0 none)).take (HT.sIx (p.map nat).length (p.map nat).length (some (k : Int)) - HT.sIx (p.map nat).length 0 none) = _
  rw [HT.sIx_none, HT.sIx_nat, List.drop_zero, Nat.sub_zero, List.length_map, Nat.min_eq_left h, List.map_take]
theorem ok_asked {f : Addr} {fd : FuncData} (D : C8.Def K mg "_law_asked" s_law_asked f fd) (b : Binds K fd ["stages", "path"] []) (T : Txt K mg C_Ratio C_Plan C_End C_Lot C_Turn) (c_law_view : C8.Cal P w K mg base 1 "_law_view" sp_view []) : C8.Cal P w K mg base 2 "_law_asked" sp_asked [] := by
  refine cal0 D b .nil sc_law_asked (fun vs H Q E h => ?_) (fun cdv A outer s H vs Q E hr h => ?_)
  · obtain ⟨a, c, S, p, rfl, _⟩ := h
    rfl
  · obtain ⟨a, c, S, p, rfl, hS, hok, hp, hlen, k⟩ := h
    refine ⟨_, (pss_cons (ps_set (i := 2) sc_law_asked.nd rfl (by first | exact Or.inl rfl | exact Or.inr rfl) pe_int)
(pss_cons (ps_for PassesOwn.never rfl (pi_range1 (by rfl) T.n_range (pa_cons (pe_callB call_len_seq (by rfl) T.n_len bo_len (pa_cons (pv 1) pa_nil)) pa_nil)) (pg_name (i := 3) sc_law_asked.nd rfl (by first | exact Or.inl rfl | exact Or.inr rfl))
  (pss_one (ps_set (i := 2) sc_law_asked.nd rfl (by first | exact Or.inl rfl | exact Or.inr rfl) (pe_op op_add (pv 2) (pe_callTy call_int1 (by rfl) T.n_int bo_int (pa_cons (pe_cmpR op_ne (pe_ix ix_tup (pe_ix ix_list (pv 0) (pv 3) (fun _ _ => rfl)) pe_int (fun _ _ => rfl)) pe_int (nomark _)) pa_nil))))))
(pss_cons (ps_set (i := 4) sc_law_asked.nd rfl (by first | exact Or.inl rfl | exact Or.inr rfl) (pe_ix ix_list (pv 0) (pe_callB call_len_seq (by rfl) T.n_len bo_len (pa_cons (pv 1) pa_nil)) (fun _ _ => rfl)))
(pss_cons (ps_set (i := 5) sc_law_asked.nd rfl (by first | exact Or.inl rfl | exact Or.inr rfl) (pe_c c_law_view hr (by first | exact Nat.le_refl _ | decide | omega) rfl (pa_cons (pv 0) (pa_cons (pv 1) (pa_cons (pe_ix ix_tup (pv 4) pe_int (fun _ _ => rfl)) pa_nil)))))
(pss_cut (ps_if (PW.pt (pw_and (pt_cmpR op_gt (pe_callB call_len_seq (by rfl) T.n_len bo_len (pa_cons (pv 1) pa_nil)) pe_int (nomark _)) (pw_and1 (pt_val (pe_ix ix_tup (pv 4) pe_int (fun _ _ => rfl))))))
  (pss_one (ps_set (i := 5) sc_law_asked.nd rfl (by first | exact Or.inl rfl | exact Or.inr rfl) (pe_op op_catA (pv 5) (pe_tup (pa_cons (pe_tup (pa_cons pe_str (pa_cons (pe_callB (cr_sum rfl) (by rfl) T.n_sum bo_sum (pa_cons (pe_lc (own := [("k", 3)]) (g := gName 3) (tt := tYes) rfl sc_law_asked.nd (pi_range2 (by rfl) T.n_range (pa_cons pe_int (pa_cons (pe_op op_add (pe_callB call_len_seq (by rfl) T.n_len bo_len (pa_cons (pv 1) pa_nil)) pe_int) pa_nil))) (blkOk_by (N := ["stages", "path", "number", "k", "stage", "view"]) (sc := fnScope s_law_asked) (by decide +kernel)) (fun _ _ _ _ _ => pg_name (i := 3) sc_law_asked.nd rfl (by first | exact Or.inl rfl | exact Or.inr rfl)) (fun _ _ _ _ _ => pts_nil) (fun _ _ _ _ _ => (pe_callTy call_int1 (by rfl) T.n_int bo_int (pa_cons (pe_ix (ix_tupK (K := K)) (pe_ix (ix_listK (K := K)) (pv 0) (pv 3) (fun _ _ => rfl)) pe_int (fun _ _ => rfl)) pa_nil)))) pa_nil)) pa_nil))) pa_nil)))))
  pss_nil)
(pss_one (ps_ret (pe_op op_catA (pv 5) (pe_tup (pa_cons (pe_tup (pa_cons pe_str (pa_cons (pv 2) (pa_cons (pe_ix ix_tup (pv 4) pe_int (fun _ _ => rfl)) pa_nil)))) pa_nil)))))))))), ?_⟩
    obtain ⟨vs, hvs, hSL⟩ := id hS
    have hl4 := hok.len
    have hpl : (p.map nat).length = p.length := List.length_map _
    refine ⟨_, rfl, _, _, rfl, .inl (SqL.of hp), _, rfl, by omega, by omega, ?_⟩
    rw [hpl]
    refine for_range (lo := 0) (n := p.length) (fun i σ H' => H' = H ∧ ∃ o3, σ = [some (.ref a), some (.ref c), some (.int (nm S i)), o3, none, none]) ⟨rfl, none, rfl⟩ ?_ ?_
    · rintro i σ H' hi ⟨rfl, o3, rfl⟩
      have e0 : (0 : Int) + (i : Int) = (i : Int) := by omega
      rw [e0]
      obtain ⟨t, ht1, ht0⟩ := hSL.get (i := i) (by omega)
      refine ⟨_, rfl, _, rfl, _, rfl, _, _, _, _, rfl, rfl, SqL.of hvs, atI_nat ht1, _, _, _, _, rfl, rfl, SqT.of ht0, rfl, rfl, .inr ⟨_, rfl, _, _, rfl, rfl, rfl, some (.int (i : Int)), ?_⟩⟩
      have en : nm S (i + 1) = nm S i + (if (stg S i).pl ≠ 0 then 1 else 0) := rfl
      have e : (if (!decide (V.int ((stg S i).pl : Int) = V.int 0)) = true then (1 : Int) else 0) = (if (stg S i).pl ≠ 0 then 1 else 0) := by
        by_cases h : (stg S i).pl = 0
        · rw [h]; rfl
        · have : ¬ V.int ((stg S i).pl : Int) = V.int 0 := fun z => h (by have := V.int.inj z; omega)
          rw [decide_eq_false this, if_pos h]; rfl
      rw [e, en]; rfl
    · rintro σ H' ⟨rfl, o3, rfl⟩
      obtain ⟨t, ht1, ht0⟩ := hSL.get (i := p.length) hlen
      refine ⟨_, rfl, _, rfl, _, _, rfl, .inl (SqL.of hp), _, _, _, _, rfl, rfl, SqL.of hvs, atI_nat (by rw [hpl]; exact ht1), ?_⟩
      refine ⟨_, rfl, _, rfl, _, rfl, _, _, _, _, rfl, rfl, SqT.of ht0, rfl, a, c, S, p, (stg S p.length).pl, rfl, hS, hok, hp, by omega, fun v H1 hv K1 => ?_⟩
      have hvl := vw_len S (stg S p.length).pl p p.length
      have ht1' := K1 _ _ ht0 (by simp)
      generalize hst : stg S p.length = st at *
      refine ⟨fun σ H2 => ∃ v', σ = [some (.ref a), some (.ref c), some (.int (nm S p.length)), o3, some (.ref t), some v'] ∧ TD H2 v' (dView (vw S st.pl p p.length ++ rdE S p.length)) ∧ Keep [] H' H2, ?_, ?_⟩
      · have no : ¬ (0 < p.length ∧ st.rd = true) → ∃ v', [some (V.ref a), some (V.ref c), some (V.int (nm S p.length)), o3, some (V.ref t), some v] = [some (.ref a), some (.ref c), some (.int (nm S p.length)), o3, some (.ref t), some v'] ∧ TD H1 v' (dView (vw S st.pl p p.length ++ rdE S p.length)) ∧ Keep [] H' H1 := fun h => by
          unfold rdE
          rw [hst, if_neg h, List.append_nil]
          exact ⟨_, rfl, hv, K1⟩
        refine ⟨_, rfl, _, _, rfl, .inl (SqL.of (K1 _ _ hp (by simp))), _, _, rfl, rfl, _, rfl, iteD (fun h0 => ?_) (fun h0 => no fun z => h0 (by rw [hpl]; omega))⟩
        refine ⟨_, rfl, _, _, _, _, rfl, rfl, SqT.of ht1', rfl, _, rfl, iteB (fun h1 => ?_) (fun h1 => no fun z => by rw [h1] at z; cases z.2)⟩
        have yes : 0 < p.length ∧ st.rd = true := ⟨by omega, h1⟩
        refine ⟨_, rfl, _, rfl, _, _, rfl, .inl (SqL.of (K1 _ _ hp (by simp))), _, _, rfl, rfl, _, _, rfl, ⟨by decide, by decide, by rw [hpl]; omega, by rw [hpl]; omega⟩, fun L nL => ?_⟩
        have en : ((((p.map nat).length : Nat) : Int) + 1 - 1).toNat = p.length := by rw [hpl]; omega
        rw [en]
        have nL0 := K1.free nL
        refine lc_range (lo := 1) (n := p.length) (fun j H2 => H2 L = some (.lst (((List.range j).map fun j => (if (stg S (j + 1)).rd = true then (1 : Int) else 0)).map V.int)) ∧ Keep [] H1 H2) ⟨upd_same, Keep.new nL⟩ ?_ ?_
        · rintro j H2 hj ⟨hD, k2⟩
          obtain ⟨t2, ht21, ht20⟩ := hSL.get (i := j + 1) (by omega)
          have kk := K1.trans k2
          have e1 : (1 : Int) + (j : Int) = ((j + 1 : Nat) : Int) := by omega
          rw [e1]
          refine ⟨rfl, yes_then ⟨_, rfl, _, rfl, _, _, _, _, rfl, rfl, SqL.of (kk _ _ hvs (by simp)), atI_nat ht21, _, _, _, _, rfl, rfl, SqT.of (kk _ _ ht20 (by simp)), rfl, .inr ⟨_, rfl, _, hD, by rw [List.length_map, List.length_map, List.length_range]; exact smallL (by omega), ?_, k2.then_own nL⟩⟩⟩
          rw [upd_same, List.range_succ, List.map_append, List.map_append]; rfl
        · rintro H2 ⟨hD, k2⟩
          refine ⟨L, _, rfl, SqL.of hD, And.intro (by show 2 ≤ sizeLine; decide) <| fun u1 m1 => And.intro (by show 1 ≤ sizeLine; decide) <| fun u2 m2 => ?_⟩
          have ers := rn_sum S p.length
          generalize ((List.range p.length).map fun j => (if (stg S (j + 1)).rd = true then (1 : Int) else 0)).sum = rr at *
          subst ers
          have kk := (Keep.new (W := []) (o := .tup [.str "round", .int (rn S (p.length + 1))]) m1).then_new (o := .tup [.ref u1]) m2
          refine add_evs (M := [(("round" : Str), [rn S (p.length + 1)])]) ((hv.tk k2.tk).tk kk.tk) upd_same (.cons (.tup (Keep.new (W := []) m2 _ _ upd_same (by simp)) (.cons (.str _) (td_ints [_]))) .nil) (by simp only [List.length_cons, List.length_nil]; omega) fun q H3 k3 hq => ?_
          refine ⟨.ref q, rfl, ?_, ((K1.trans k2).trans kk).trans k3⟩
          unfold rdE
          rw [hst, if_pos yes]; exact hq
      rintro σ H2 ⟨v2, rfl, hv2, K2⟩
      have ht2 := K2 _ _ ht0 (by simp)
      have hl2 : (vw S st.pl p p.length ++ rdE S p.length).length ≤ 2 + 4 * p.length := by
        unfold rdE
        rw [List.length_append]
        split <;> simp only [List.length_cons, List.length_nil] <;> omega
      refine ⟨_, rfl, _, rfl, _, rfl, _, _, _, _, rfl, rfl, SqT.of ht2, rfl, And.intro (by show 3 ≤ sizeLine; decide) <| fun u1 m1 => And.intro (by show 1 ≤ sizeLine; decide) <| fun u2 m2 => ?_⟩
      have kk := (Keep.new (W := []) (o := .tup [.str "move", .int (nm S p.length), .int (st.sz : Int)]) m1).then_new (o := .tup [.ref u1]) m2
      refine add_evs (M := [(("move" : Str), [nm S p.length, (st.sz : Int)])]) (hv2.tk kk.tk) upd_same (.cons (.tup (Keep.new (W := []) m2 _ _ upd_same (by simp)) (.cons (.str _) (td_ints [_, _]))) .nil) (by simp only [List.length_cons, List.length_nil]; omega) fun q H3 k3 hq => ?_
      refine k _ _ ?_ ((K2.trans kk).trans k3)
      unfold asked
      rw [hst]; exact hq
theorem metK_len (S : List Stg) (pl : Nat) (p : List Nat) : ∀ k f, (metK S pl p k f).length ≤ f.length + k
  | 0, f => Nat.le_refl _
  | k + 1, f => by
    have := metK_len S pl p k f
    unfold metK
    split
    · unfold insR
      split
      · omega
      · rw [List.length_append]; simp; omega
    · omega
theorem metK_ok (S : List Stg) (pl : Nat) (p : List Nat) : ∀ k f, (∀ r ∈ f, ∀ e ∈ r.1, OkE e) → ∀ r ∈ metK S pl p k f, ∀ e ∈ r.1, OkE e
  | 0, f, h => h
  | k + 1, f, h => by
    have ih := metK_ok S pl p k f h
    unfold metK
    split
    · unfold insR
      split
      · exact ih
      · intro r hr
        rcases List.mem_append.mp hr with q | q
        · exact ih r q
        · rw [List.mem_singleton.mp q]; exact asked_ok S p k
    · exact ih
theorem mem_rows {f : List Row} {r : Row} (hf : ∀ r ∈ f, ∀ e ∈ r.1, OkE e) : ((f.map dRow).any fun z => PyData.eqv z (dRow r)) = decide (r ∈ f) := by
  rw [List.any_map]
  induction f with
  | nil => rfl
  | cons a l ih =>
    rw [List.any_cons, ih fun x hx => hf x (List.mem_cons_of_mem _ hx)]
    show (PyData.eqv (dRow a) (dRow r) || _) = _
    rw [eqv_row (hf a (List.mem_cons_self ..))]
    by_cases h : a = r
    · subst h; simp
    · have h' : ¬ r = a := fun z => h z.symm
      simp [h, h']
theorem TDs.map_dp {H : Hp} {K : PySem.W.Frag} {a : Addr} {xs : List V} {ds : List PyData} (h : H a = some (.lst xs)) (t : TDs H xs ds) : Dp K H (.ref a) (.list ds) := .lst (SqL.of h) t.dp
theorem ok_met {f : Addr} {fd : FuncData} (D : C8.Def K mg "_law_met" s_law_met f fd) (b : Binds K fd ["stages", "player"] []) (T : Txt K mg C_Ratio C_Plan C_End C_Lot C_Turn) (c_law_paths : C8.Cal P w K mg base 1 "_law_paths" sp_paths []) (c_law_asked : C8.Cal P w K mg base 2 "_law_asked" sp_asked []) : C8.Cal P w K mg base 3 "_law_met" sp_met [] := by
  refine cal0 D b .nil sc_law_met (fun vs H Q E h => ?_) (fun cdv A outer s H vs Q E hr h => ?_)
  · obtain ⟨a, S, pl, rfl, _⟩ := h
    rfl
  · obtain ⟨a, S, pl, rfl, hS, hok, k⟩ := h
    refine ⟨_, (pss_cons (ps_set (i := 2) sc_law_met.nd rfl (by first | exact Or.inl rfl | exact Or.inr rfl) (pe_lst pa_nil))
(pss_cons (ps_for PassesOwn.never rfl (pi_list (pe_c c_law_paths hr (by first | exact Nat.le_refl _ | decide | omega) rfl (pa_cons (pv 0) pa_nil))) (pg_name (i := 3) sc_law_met.nd rfl (by first | exact Or.inl rfl | exact Or.inr rfl))
  (pss_one (ps_for PassesOwn.never rfl (pi_range1 (by rfl) T.n_range (pa_cons (pe_callB call_len_seq (by rfl) T.n_len bo_len (pa_cons (pv 0) pa_nil)) pa_nil)) (pg_name (i := 4) sc_law_met.nd rfl (by first | exact Or.inl rfl | exact Or.inr rfl))
    (pss_one (ps_if (pt_cmpR op_eq (pe_ix ix_tup (pe_ix ix_list (pv 0) (pv 4) (fun _ _ => rfl)) pe_int (fun _ _ => rfl)) (pv 1) (nomark _))
      (pss_cons (ps_set (i := 5) sc_law_met.nd rfl (by first | exact Or.inl rfl | exact Or.inr rfl) (pe_c c_law_asked hr (by first | exact Nat.le_refl _ | decide | omega) rfl (pa_cons (pv 0) (pa_cons (pe_slice sl_list (pv 3) po_none (po_some (pv 4))) pa_nil))))
      (pss_one (ps_if (pt_cmpR (op_notInD (un65 hr)) (pe_tup (pa_cons (pv 5) (pa_cons (pe_ix ix_tup (pe_ix ix_list (pv 0) (pv 4) (fun _ _ => rfl)) pe_int (fun _ _ => rfl)) pa_nil))) (pv 2) (by rfl))
        (pss_one (ps_expr (pe_bm PySem.F.plainAttrs_list PySem.F.slot_list_append PySem.F.type_list_append mt_append (pv 2) (pa_cons (pe_tup (pa_cons (pv 5) (pa_cons (pe_ix ix_tup (pe_ix ix_list (pv 0) (pv 4) (fun _ _ => rfl)) pe_int (fun _ _ => rfl)) pa_nil))) pa_nil))))
        pss_nil)))
      pss_nil)))))
(pss_one (ps_ret (pv 2))))), ?_⟩
    obtain ⟨vs, hvs, hSL⟩ := id hS
    have hl4 := hok.len
    have hlS := hSL.len
    refine And.intro (by show 0 ≤ sizeLine; decide) <| fun l nl => ?_
    have k0 : Keep [] H (upd H l (.lst [])) := Keep.new nl
    refine ⟨_, rfl, a, S, rfl, hS.keep k0, hok, fun pa ps H1 npa hpa hps fr K1 => ?_⟩
    have hpl := hps.len
    rw [paths_len] at hpl
    have hp100 := hok.prod
    have hpl' : ps.length = prodS S := by rw [hpl]; show prodS S * 1 = _; omega
    refine ⟨pa, rfl, ⟨_, SqL.of hpa⟩, for_list (K := K) (a := pa) (xs := ps) (fun i σ H' => ∃ (xs : List V) (o3 o4 o5 : Option V), σ = [some (.ref a), some (.int pl), some (.ref l), o3, o4, o5] ∧ H' l = some (.lst xs) ∧ TDs H' xs ((((paths S [[]]).take i).foldl (fun f p => metK S pl p S.length f) []).map dRow) ∧ (((paths S [[]]).take i).foldl (fun f p => metK S pl p S.length f) []).length ≤ 4 * i ∧ (∀ r ∈ ((paths S [[]]).take i).foldl (fun f p => metK S pl p S.length f) [], ∀ e ∈ r.1, OkE e) ∧ Keep [] H H' ∧ (∀ b o, H1 b = some o → b ≠ l → H' b = some o))
      ⟨[], _, _, _, rfl, K1 _ _ upd_same (by simp), .nil, Nat.le_refl _, (fun _ h => by cases h), k0.trans K1, fun b o h _ => h⟩ (fun i σ H' _ ⟨_, _, _, _, _, _, _, _, _, _, kk⟩ => SqL.of (kk _ _ hpa (ne_of_none upd_same npa).symm)) ?_ ?_⟩
    · rintro i v σ H2 hi ⟨xs, o3, o4, o5, rfl, hl, hxs, hlen, hoks, kk, kb⟩
      obtain ⟨u, p, rfl, hp, hu⟩ := hps.get hi
      have hil := (List.getElem?_eq_some_iff.mp hp).1
      have hpn : p.length = S.length := by
        have := paths_each S [[]] 0 (fun q hq => by rw [List.mem_singleton.mp hq]; rfl) p (List.mem_of_getElem? hp)
        omega
      have eti : (paths S [[]]).take (i + 1) = (paths S [[]]).take i ++ [p] := by
        rw [List.take_succ_eq_append_getElem hil]
        rw [List.getElem?_eq_getElem hil] at hp
        rw [Option.some.inj hp]
      rw [eti, List.foldl_append]
      show ∃ _, _
      generalize ((paths S [[]]).take i).foldl (fun f p => metK S pl p S.length f) [] = f0 at *
      have nul : u ≠ l := (ne_of_none upd_same (fr u (List.mem_of_getElem? hi))).symm
      have hu2 := kb _ _ hu nul
      have hib : i < 100 := by
        have := (List.getElem?_eq_some_iff.mp hi).1
        omega
      refine ⟨_, rfl, _, _, rfl, .inl (SqL.of (kk _ _ hvs (by simp))), _, rfl, by rw [hlS]; omega, by rw [hlS]; omega, ?_⟩
      rw [hlS]
      refine for_range (lo := 0) (n := S.length) (fun j σ H' => ∃ (xs : List V) (o4 o5 : Option V), σ = [some (.ref a), some (.int pl), some (.ref l), some (.ref u), o4, o5] ∧ H' l = some (.lst xs) ∧ TDs H' xs ((metK S pl p j f0).map dRow) ∧ Keep [] H H' ∧ (∀ b o, H1 b = some o → b ≠ l → H' b = some o)) ⟨xs, _, _, rfl, hl, hxs, kk, kb⟩ ?_ ?_
      · rintro j σ H3 hj ⟨xs3, o4, o5, rfl, hl3, hxs3, k3, kb3⟩
        have e0 : (0 : Int) + (j : Int) = (j : Int) := by omega
        rw [e0]
        obtain ⟨t, ht1, ht0⟩ := hSL.get hj
        have hfl := metK_len S pl p j f0
        have hfo := metK_ok S pl p j f0 hoks
        have hu3 := kb3 _ _ hu nul
        have emk : metK S pl p (j + 1) f0 = if (stg S j).pl = pl then insR (metK S pl p j f0) (asked S p j, ((stg S j).sz : Int)) else metK S pl p j f0 := rfl
        rw [emk]
        generalize metK S pl p j f0 = f1 at *
        refine ⟨_, rfl, _, rfl, _, _, _, _, rfl, rfl, SqL.of (k3 _ _ hvs (by simp)), atI_nat ht1, _, _, _, _, rfl, rfl, SqT.of (k3 _ _ ht0 (by simp)), rfl, _, rfl, rfl, _, rfl, iteD (fun h => ?_) (fun h => ?_)⟩
        rotate_left
        · have hn : ¬ (stg S j).pl = pl := fun z => h (by rw [z])
          rw [if_neg hn]
          exact ⟨xs3, _, _, rfl, hl3, hxs3, k3, kb3⟩
        have hy : (stg S j).pl = pl := by have := V.int.inj h; omega
        rw [if_pos hy]
        refine ⟨_, rfl, _, rfl, _, rfl, _, rfl, _, _, rfl, SqL.of hu3, fun q nq => ?_⟩
        rw [cut_take (by omega)]
        have kq : Keep [] H3 (upd H3 q (.lst ((p.take j).map nat))) := Keep.new nq
        have hpj : (p.take j).length = j := by rw [List.length_take]; omega
        refine ⟨a, q, S, p.take j, rfl, hS.keep (k3.trans kq), hok, upd_same, by rw [hpj]; exact hj, fun v4 H4 hv4 K4 => ?_⟩
        rw [hpj, asked_take] at hv4
        have kq4 : Keep [] H3 H4 := kq.trans K4
        have hl44 := kq4 _ _ hl3 (by simp)
        have k4 := k3.trans kq4
        refine ⟨_, rfl, _, rfl, _, rfl, _, _, _, _, rfl, rfl, SqL.of (k4 _ _ hvs (by simp)), atI_nat ht1, _, _, _, _, rfl, rfl, SqT.of (k4 _ _ ht0 (by simp)), rfl, And.intro (by show 2 ≤ sizeLine; decide) <| fun t5 nt5 => ?_⟩
        have k5 : Keep [] H4 (upd H4 t5 (.tup [v4, .int ((stg S j).sz : Int)])) := Keep.new nt5
        have hr5 : TD (upd H4 t5 (.tup [v4, .int ((stg S j).sz : Int)])) (.ref t5) (dRow (asked S p j, ((stg S j).sz : Int))) := .tup upd_same (.cons (hv4.tk k5.tk) (.cons (.int _) .nil))
        have hx5 := (hxs3.tk kq4.tk).tk k5.tk
        have hro : ∀ e ∈ (asked S p j, ((stg S j).sz : Int)).1, OkE e := asked_ok S p j
        refine ⟨_, rfl, _, _, hr5.dp, hx5.map_dp (k5 _ _ hl44 (by simp)), shaped_row hro, shaped_list (fun d hd => ?_) (fun d hd => ?_), _, rfl, ?_⟩
        · obtain ⟨r, hr, rfl⟩ := List.mem_map.mp hd
          exact shaped_row (hfo r hr)
        · obtain ⟨r, hr, rfl⟩ := List.mem_map.mp hd
          exact depth_row r
        rw [mem_rows hfo]
        unfold insR
        have kb5 : ∀ b o, H1 b = some o → b ≠ l → upd H4 t5 (.tup [v4, .int ((stg S j).sz : Int)]) b = some o := fun b o hb nb => k5 _ _ (kq4 _ _ (kb3 _ _ hb nb) (by simp)) (by simp)
        refine iteN (fun hm => ?_) (fun hm => ?_)
        · rw [if_neg hm]
          have k35 := kq4.trans k5
          have k05 := k3.trans k35
          refine ⟨_, rfl, .inl ⟨rfl, _, SqL.of (k5 _ _ hl44 (by simp))⟩, _, rfl, _, rfl, _, rfl, _, _, _, _, rfl, rfl, SqL.of (k05 _ _ hvs (by simp)), atI_nat ht1, _, _, _, _, rfl, rfl, SqT.of (k05 _ _ ht0 (by simp)), rfl, And.intro (by show 2 ≤ sizeLine; decide) <| fun t6 nt6 => ?_⟩
          have k6 := Keep.new (W := []) (o := .tup [v4, .int ((stg S j).sz : Int)]) nt6
          have hl6 := k6 _ _ (k5 _ _ hl44 (by simp)) (by simp)
          have hxl := hxs3.length
          rw [List.length_map] at hxl
          have tk6 := k6.tk.trans (TK.lst (o := .lst (xs3 ++ [.ref t6])) hl6)
          refine ⟨_, _, _, rfl, rfl, hl6, smallL (by omega), xs3 ++ [.ref t6], _, _, rfl, upd_same, ?_, (k05.trans k6).then_own nl, fun b o hb nb => by rw [upd_ne nb]; exact k6 _ _ (kb5 b o hb nb) (by simp)⟩
          rw [List.map_append]
          refine (hx5.tk tk6).snoc (.tup ?_ (.cons ((hv4.tk k5.tk).tk tk6) (.cons (.int _) .nil)))
          rw [upd_ne (ne_of_none (k5 _ _ hl44 (by simp)) nt6).symm]; exact upd_same
        · have hm' : (asked S p j, ((stg S j).sz : Int)) ∈ f1 := hm
          rw [if_pos hm']
          exact ⟨xs3, _, _, rfl, k5 _ _ hl44 (by simp), hx5, k4.trans k5, kb5⟩
      · rintro σ H3 ⟨xs3, o4, o5, rfl, hl3, hxs3, k3, kb3⟩
        have hfl := metK_len S pl p S.length f0
        exact ⟨xs3, _, _, _, rfl, hl3, hxs3, by show (metK S pl p S.length f0).length ≤ _; omega, metK_ok S pl p S.length f0 hoks, k3, kb3⟩
    · rintro σ H2 ⟨xs, o3, o4, o5, rfl, hl, hxs, hlen, hoks, kk, kb⟩
      rw [hps.len, List.take_length] at hxs
      exact ⟨_, rfl, k l xs _ nl hl hxs kk⟩
end

/-! the stages of this law -/
section
variable {P : Program} {w : World} {K : PySem.W.Frag} {mg : Str → Option Value} {base : Heap} {C_Ratio : Addr} {C_Plan : Addr} {C_End : Addr} {C_Lot : Addr} {C_Turn : Addr}
theorem ok_stages {f : Addr} {fd : FuncData} (D : C8.Def K mg "_law_stages" s_law_stages f fd) (b : Binds K fd ["script", "most"] []) (T : Txt K mg C_Ratio C_Plan C_End C_Lot C_Turn) (c_law_cell : C8.Cal P w K mg base 1 "_law_cell" (sp_cell K) []) (c_law_row : C8.Cal P w K mg base 1 "_law_row" sp_row []) : C8.Cal P w K mg base 2 "_law_stages" (sp_stages K 36) [] := by
  refine cal0 D b .nil sc_law_stages (fun vs H Q E h => ?_) (fun cdv A outer s H vs Q E hr h => ?_)
  · obtain ⟨a, ns, m, rfl, _⟩ := h
    rfl
  · obtain ⟨a, ns, m, rfl, hm, hS, k⟩ := h
    subst hm
    refine ⟨_, (pss_cons (ps_set (i := 2) sc_law_stages.nd rfl (by first | exact Or.inl rfl | exact Or.inr rfl) (pe_lst pa_nil))
(pss_cons (ps_set (i := 3) sc_law_stages.nd rfl (by first | exact Or.inl rfl | exact Or.inr rfl) pe_int)
(pss_cons (ps_set (i := 4) sc_law_stages.nd rfl (by first | exact Or.inl rfl | exact Or.inr rfl) (pe_c c_law_row hr (by first | exact Nat.le_refl _ | decide | omega) rfl (pa_cons (pe_c c_law_cell hr (by first | exact Nat.le_refl _ | decide | omega) rfl (pa_cons (pv 0) (pa_cons pe_int pa_nil))) (pa_cons pe_int (pa_cons pe_int pa_nil)))))
(pss_cons (ps_for PassesOwn.never rfl (pi_range1 (by rfl) T.n_range (pa_cons (pe_op op_mod (pe_callTy call_int1 (by rfl) T.n_int bo_int (pa_cons (pe_ix ix_list (pv 4) pe_int (fun _ _ => rfl)) pa_nil)) pe_int) pa_nil)) (pg_name (i := 5) sc_law_stages.nd rfl (by first | exact Or.inl rfl | exact Or.inr rfl))
  (pss_cons (ps_set (i := 6) sc_law_stages.nd rfl (by first | exact Or.inl rfl | exact Or.inr rfl) (pe_op op_add pe_int (pe_op op_mod (pe_callTy call_int1 (by rfl) T.n_int bo_int (pa_cons (pe_ix ix_list (pv 4) (pe_op op_add (pe_op op_mul pe_int (pv 5)) pe_int) (fun _ _ => rfl)) pa_nil)) pe_int)))
  (pss_cut (ps_if (pt_cmpR op_gt (pe_op op_mul (pv 3) (pv 6)) (pv 1) (nomark _))
    (pss_one (ps_set (i := 6) sc_law_stages.nd rfl (by first | exact Or.inl rfl | exact Or.inr rfl) pe_int))
    pss_nil)
  (pss_cons (ps_set (i := 3) sc_law_stages.nd rfl (by first | exact Or.inl rfl | exact Or.inr rfl) (pe_op op_mul (pv 3) (pv 6)))
  (pss_cons (ps_set (i := 7) sc_law_stages.nd rfl (by first | exact Or.inl rfl | exact Or.inr rfl) (pe_ix ix_tup (pe_tup (pa_cons pe_int (pa_cons pe_int (pa_cons pe_int (pa_cons pe_int (pa_cons pe_int pa_nil)))))) (pe_op op_mod (pe_callTy call_int1 (by rfl) T.n_int bo_int (pa_cons (pe_ix ix_list (pv 4) (pe_op op_add (pe_op op_mul pe_int (pv 5)) pe_int) (fun _ _ => rfl)) pa_nil)) pe_int) (fun _ _ => rfl)))
  (pss_one (ps_expr (pe_bm PySem.F.plainAttrs_list PySem.F.slot_list_append PySem.F.type_list_append mt_append (pv 2) (pa_cons (pe_tup (pa_cons (pe_op op_mod (pe_callTy call_int1 (by rfl) T.n_int bo_int (pa_cons (pe_ix ix_list (pv 4) (pe_op op_add (pe_op op_mul pe_int (pv 5)) pe_int) (fun _ _ => rfl)) pa_nil)) pe_int) (pa_cons (pv 6) (pa_cons (pv 7) (pa_cons (pe_cmpR op_eq (pe_op op_mod (pe_callTy call_int1 (by rfl) T.n_int bo_int (pa_cons (pe_ix ix_list (pv 4) (pe_op op_add (pe_op op_mul pe_int (pv 5)) pe_int) (fun _ _ => rfl)) pa_nil)) pe_int) pe_int (nomark _)) pa_nil))))) pa_nil)))))))))
(pss_one (ps_ret (pv 2))))))), ?_⟩
    refine And.intro (by show 0 ≤ sizeLine; decide) <| fun l nl => ?_
    have k0 : Keep [] H (upd H l (.lst [])) := Keep.new nl
    refine ⟨_, rfl, a, ns, 0, rfl, k0.seqL hS (by simp), _, 20, 60, rfl, by decide, by decide, by decide, fun g ds H1 ng hg hdl hds K1 => ?_⟩
    have dig : ∀ j : Nat, j < 20 → ∃ z : Nat, (ds.map nat)[j]? = some (nat z) ∧ z < 60 := fun j hj => by
      have hj' : j < ds.length := by omega
      have h := hds _ (List.getElem_mem hj')
      exact ⟨ds[j], by rw [List.getElem?_map, List.getElem?_eq_getElem hj']; rfl, by omega⟩
    obtain ⟨z0, hz0, hz0b⟩ := dig 0 (by decide)
    refine ⟨_, rfl, _, _, _, _, rfl, rfl, SqL.of hg, atI_nat (j := 0) hz0, .inl ⟨_, rfl, _, _, rfl, rfl, by show (0 : Int) < 5; decide, ((z0 : Nat) : Int) % 5, rfl, by omega, by omega, ?_⟩⟩
    have hl1 := K1 _ _ (upd_same (H := H) (a := l) (o := .lst [])) (by simp)
    have hgl : g ≠ l := (ne_of_none upd_same ng).symm
    refine for_range (lo := 0) (n := (((z0 : Nat) : Int) % 5).toNat) (fun i σ H' => ∃ (S : List Stg) (o5 o6 o7 : Option V), σ = [some (.ref a), some (.int (36 : Nat)), some (.ref l), some (.int (prodS S : Nat)), some (.ref g), o5, o6, o7] ∧ StA H' l S ∧ (∀ s ∈ S, s.Ok) ∧ S.length = i ∧ prodS S ≤ 36 ∧ H' g = some (.lst (ds.map nat)) ∧ Keep [] H H')
      ⟨[], _, _, _, rfl, ⟨[], hl1, .nil⟩, (fun _ h => by cases h), rfl, by decide, hg, k0.trans K1⟩ ?_ ?_
    · rintro i σ H2 hi ⟨S, o5, o6, o7, rfl, ⟨vs, hvs, hSL⟩, hoks, hSn, hpr, hg2, k2⟩
      have hi5 : i < 4 := by omega
      have e0 : (0 : Int) + (i : Int) = (i : Int) := by omega
      rw [e0]
      have dg : ∀ j : Nat, j ≤ 4 → ∃ z : Nat, atI (ds.map nat) (((4 * i + j : Nat) : Int)) = some (nat z) ∧ z < 60 := fun j hj => by
        obtain ⟨z, h1, h2⟩ := dig (4 * i + j) (by omega)
        exact ⟨z, atI_nat h1, h2⟩
      obtain ⟨d1, hd1, hd1b⟩ := dg 1 (by decide)
      obtain ⟨d2, hd2, hd2b⟩ := dg 2 (by decide)
      obtain ⟨d3, hd3, hd3b⟩ := dg 3 (by decide)
      obtain ⟨d4, hd4, hd4b⟩ := dg 4 (by decide)
      have c1 : ((4 * i + 1 : Nat) : Int) = 4 * (i : Int) + 1 := by omega
      have c2 : ((4 * i + 2 : Nat) : Int) = 4 * (i : Int) + 2 := by omega
      have c3 : ((4 * i + 3 : Nat) : Int) = 4 * (i : Int) + 3 := by omega
      have c4 : ((4 * i + 4 : Nat) : Int) = 4 * (i : Int) + 4 := by omega
      rw [c1] at hd1
      rw [c2] at hd2
      rw [c3] at hd3
      rw [c4] at hd4
      clear c1 c2 c3 c4
      have mc : (fun i j : Int => True) 0 0 := trivial
      refine ⟨_, rfl, _, rfl, _, _, rfl, rfl, .inl ⟨by decide, by decide⟩, _, _, rfl, rfl, _, _, _, _, rfl, rfl, SqL.of hg2, hd1, .inl ⟨_, rfl, _, _, rfl, rfl, by show (0 : Int) < 3; decide, _, _, rfl, rfl, ?_⟩⟩
      have getd : ∀ {j : Int} {z : Nat} {Q' : VK}, atI (ds.map nat) (4 * (i : Int) + j) = some (nat z) → Q' (nat z) H2 → rIxL K (.ref g) (.int (4 * (i : Int) + j)) H2 Q' := fun h q => ⟨_, _, _, _, rfl, rfl, SqL.of hg2, h, q⟩
      obtain ⟨sz, hsz, s0, s1⟩ : ∃ sz : Nat, (1 : Int) + ((d1 : Nat) : Int) % 3 = ((sz : Nat) : Int) ∧ 1 ≤ sz ∧ sz ≤ 60 := ⟨1 + d1 % 3, by omega, by omega, by omega⟩
      show tCut _ _ _ [some (.ref a), some (.int (36 : Nat)), some (.ref l), some (.int (prodS S : Nat)), some (.ref g), some (.int (i : Int)), some (.int ((1 : Int) + ((d1 : Nat) : Int) % 3)), o7] H2
      rw [hsz]
      -- not too many
      refine ⟨fun σ H' => ∃ sz : Nat, 1 ≤ sz ∧ sz ≤ 60 ∧ prodS S * sz ≤ 36 ∧ H' = H2 ∧ σ = [some (.ref a), some (.int (36 : Nat)), some (.ref l), some (.int (prodS S : Nat)), some (.ref g), some (.int (i : Int)), some (.int (sz : Nat)), o7], ?_, ?_⟩
      · have hmul : ((prodS S : Nat) : Int) * ((sz : Nat) : Int) = ((prodS S * sz : Nat) : Int) := by rw [Int.natCast_mul]
        refine ⟨_, rfl, _, rfl, _, _, rfl, rfl, .inl ⟨by omega, by omega⟩, _, rfl, _, _, rfl, rfl, _, rfl, ?_⟩
        rw [hmul]
        refine iteD (fun h => ⟨1, by decide, by decide, by omega, rfl, rfl⟩) (fun h => ⟨sz, s0, s1, by omega, rfl, rfl⟩)
      rintro σ H4 ⟨sz, s0, s1, hps, rfl, rfl⟩
      have hmul : ((prodS S : Nat) : Int) * ((sz : Nat) : Int) = ((prodS S * sz : Nat) : Int) := by rw [Int.natCast_mul]
      refine ⟨_, rfl, _, rfl, _, _, rfl, rfl, .inl ⟨by omega, by omega⟩, ?_⟩
      obtain ⟨sh, hsh, hshb⟩ : ∃ sh : Nat, atI ([.int 0, .int 0, .int 1, .int 2, .int 3] : List V) (((d2 : Nat) : Int) % 5) = some (.int (sh : Int)) ∧ sh < 4 := by
        have : ((d2 : Nat) : Int) % 5 = 0 ∨ ((d2 : Nat) : Int) % 5 = 1 ∨ ((d2 : Nat) : Int) % 5 = 2 ∨ ((d2 : Nat) : Int) % 5 = 3 ∨ ((d2 : Nat) : Int) % 5 = 4 := by omega
        rcases this with h | h | h | h | h <;> rw [h]
        · exact ⟨0, rfl, by decide⟩
        · exact ⟨0, rfl, by decide⟩
        · exact ⟨1, rfl, by decide⟩
        · exact ⟨2, rfl, by decide⟩
        · exact ⟨3, rfl, by decide⟩
      refine And.intro (by show 5 ≤ sizeLine; decide) <| fun t5 nt5 => ?_
      have k5 : Keep [] H4 (upd H4 t5 (.tup [.int 0, .int 0, .int 1, .int 2, .int 3])) := Keep.new nt5
      have ht5 : upd H4 t5 (.tup [.int 0, .int 0, .int 1, .int 2, .int 3]) t5 = some (.tup [.int 0, .int 0, .int 1, .int 2, .int 3]) := upd_same
      generalize upd H4 t5 (.tup [.int 0, .int 0, .int 1, .int 2, .int 3]) = H5 at *
      have hg5 := k5 _ _ hg2 (by simp)
      have getd5 : ∀ {j : Int} {z : Nat} {Q' : VK}, atI (ds.map nat) (4 * (i : Int) + j) = some (nat z) → Q' (nat z) H5 → rIxL K (.ref g) (.int (4 * (i : Int) + j)) H5 Q' := fun h q => ⟨_, _, _, _, rfl, rfl, SqL.of hg5, h, q⟩
      refine ⟨_, rfl, _, rfl, _, _, rfl, rfl, .inl ⟨by decide, by decide⟩, _, _, rfl, rfl, getd5 hd2 (.inl ⟨_, rfl, _, _, rfl, rfl, by show (0 : Int) < 5; decide, _, _, _, _, rfl, rfl, SqT.of ht5, hsh, ?_⟩)⟩
      have hvs5 := k5 _ _ hvs (by simp)
      refine ⟨_, rfl, .inl ⟨rfl, _, SqL.of hvs5⟩, _, rfl, _, rfl, _, _, rfl, rfl, .inl ⟨by decide, by decide⟩, _, _, rfl, rfl, getd5 hd3 (.inl ⟨_, rfl, _, _, rfl, rfl, by show (0 : Int) < 3; decide, _, rfl, _, rfl, _, rfl, _, rfl, _, _, rfl, rfl, .inl ⟨by decide, by decide⟩, _, _, rfl, rfl, getd5 hd4 (.inl ⟨_, rfl, _, _, rfl, rfl, by show (0 : Int) < 3; decide, rfl, And.intro (by show 4 ≤ sizeLine; decide) <| fun u nu => ?_⟩)⟩)⟩
      have e3 : ((d3 : Nat) : Int) % 3 = ((d3 % 3 : Nat) : Int) := by omega
      have hrow : ([.int (((d3 : Nat) : Int) % 3), .int (sz : Int), .int (sh : Int), .bl (decide (V.int (((d4 : Nat) : Int) % 3) = V.int 1))] : List V) = Stg.row ⟨d3 % 3, sz, sh, decide (V.int (((d4 : Nat) : Int) % 3) = V.int 1)⟩ := by rw [e3]; rfl
      have k6 : Keep [] H5 (upd H5 u (.tup [.int (((d3 : Nat) : Int) % 3), .int (sz : Int), .int (sh : Int), .bl (decide (V.int (((d4 : Nat) : Int) % 3) = V.int 1))])) := Keep.new nu
      have hvs6 := k6 _ _ hvs5 (by simp)
      have hln := hSL.len
      have tk6 := (k5.trans k6).tk.trans (TK.lst (o := .lst (vs ++ [.ref u])) hvs6)
      have hul : u ≠ l := (ne_of_none hvs5 nu).symm
      refine ⟨_, _, _, rfl, rfl, hvs6, smallL (by omega), S ++ [⟨d3 % 3, sz, sh, decide (V.int (((d4 : Nat) : Int) % 3) = V.int 1)⟩], some (.int (i : Int)), some (.int (sz : Int)), some (.int (sh : Int)), ?_, ⟨vs ++ [.ref u], upd_same, (hSL.tk tk6).snoc (by rw [← hrow, upd_ne hul]; exact upd_same)⟩, fun s hs => ?_, by rw [List.length_append, hSn]; rfl, by rw [prod_app]; exact hps, by rw [upd_ne hgl]; exact k6 _ _ hg5 (by simp), (k2.trans (k5.trans k6)).then_own nl⟩
      · rw [prod_app, Int.natCast_mul]; rfl
      · rcases List.mem_append.mp hs with q | q
        · exact hoks s q
        · rw [List.mem_singleton.mp q]
          exact ⟨by show d3 % 3 < 3; omega, s0, by show sz ≤ 100; omega, hshb⟩
    · rintro σ H2 ⟨S, o5, o6, o7, rfl, hst, hoks, hSn, hpr, hg2, k2⟩
      exact ⟨_, rfl, k l S _ nl hst ⟨hoks, by omega, by omega⟩ hpr k2⟩
end

set_option exponentiation.threshold 100000
/-! the law's look whether two values are the same: only the answer True is told -/
def SameV : Nat → Hp → V → V → Prop
  | 0, _, _, _ => False
  | n + 1, H, a, d => (a = d ∧ ((∃ x, d = .str x) ∨ (∃ i, d = .int i) ∨ (∃ b, d = .bl b) ∨ d = .non)) ∨
    ∃ p q xs ys, a = .ref p ∧ d = .ref q ∧ ((H p = some (.lst xs) ∧ H q = some (.lst ys)) ∨ (H p = some (.tup xs) ∧ H q = some (.tup ys))) ∧ xs.length = ys.length ∧ xs.length ≤ sizeLine ∧
      ∀ (i : Nat) x y, xs[i]? = some x → ys[i]? = some y → SameV n H x y
def sp_law_same (n : Nat) : Sp := fun vs H Q _ => ∃ a d, vs = [a, d] ∧ SameV n H a d ∧ Q (.bl true) H
theorem sameV_strs {n : Nat} {H : Hp} {p q : Addr} {ys : List Str} (h1 : H p = some (.lst (ys.map V.str))) (h2 : H q = some (.lst (ys.map V.str))) (hl : ys.length ≤ sizeLine) : SameV (n + 2) H (.ref p) (.ref q) := by
  refine .inr ⟨p, q, _, _, rfl, rfl, .inl ⟨h1, h2⟩, rfl, by rw [List.length_map]; exact hl, fun i x y hx hy => ?_⟩
  rw [hx] at hy; cases hy
  obtain ⟨z, _, rfl⟩ := strs_get hx
  exact .inl ⟨rfl, .inl ⟨z, rfl⟩⟩
theorem sameV_str {n : Nat} {H : Hp} (x : Str) : SameV (n + 1) H (.str x) (.str x) := .inl ⟨rfl, .inl ⟨x, rfl⟩⟩
section
variable {K : PySem.W.Frag}
theorem kLT : PySem.W.kitOne K (.type "list") (.type "tuple") = some false := kit_ty (by decide +kernel)
theorem kLL : PySem.W.kitOne K (.type "list") (.type "list") = some true := kit_ty (by decide +kernel)
theorem kTT : PySem.W.kitOne K (.type "tuple") (.type "tuple") = some true := kit_ty (by decide +kernel)
theorem kTL : PySem.W.kitOne K (.type "tuple") (.type "list") = some false := kit_ty (by decide +kernel)
theorem kST : PySem.W.kitOne K (.type "str") (.type "tuple") = some false := kit_ty (by decide +kernel)
theorem kSL : PySem.W.kitOne K (.type "str") (.type "list") = some false := kit_ty (by decide +kernel)
theorem kSB : PySem.W.kitOne K (.type "str") (.type "bool") = some false := kit_ty (by decide +kernel)
theorem kSI : PySem.W.kitOne K (.type "str") (.type "int") = some false := kit_ty (by decide +kernel)
theorem kSS : PySem.W.kitOne K (.type "str") (.type "str") = some true := kit_ty (by decide +kernel)
theorem kIT : PySem.W.kitOne K (.type "int") (.type "tuple") = some false := kit_ty (by decide +kernel)
theorem kIL : PySem.W.kitOne K (.type "int") (.type "list") = some false := kit_ty (by decide +kernel)
theorem kIB : PySem.W.kitOne K (.type "int") (.type "bool") = some false := kit_ty (by decide +kernel)
theorem kII : PySem.W.kitOne K (.type "int") (.type "int") = some true := kit_ty (by decide +kernel)
theorem kBT : PySem.W.kitOne K (.type "bool") (.type "tuple") = some false := kit_ty (by decide +kernel)
theorem kBL : PySem.W.kitOne K (.type "bool") (.type "list") = some false := kit_ty (by decide +kernel)
theorem kBB : PySem.W.kitOne K (.type "bool") (.type "bool") = some true := kit_ty (by decide +kernel)
theorem kBI : PySem.W.kitOne K (.type "bool") (.type "int") = some true := kit_ty (by decide +kernel)
theorem kNT : PySem.W.kitOne K (.type "NoneType") (.type "tuple") = some false := kit_ty (by decide +kernel)
theorem kNL : PySem.W.kitOne K (.type "NoneType") (.type "list") = some false := kit_ty (by decide +kernel)
theorem kNB : PySem.W.kitOne K (.type "NoneType") (.type "bool") = some false := kit_ty (by decide +kernel)
theorem kNI : PySem.W.kitOne K (.type "NoneType") (.type "int") = some false := kit_ty (by decide +kernel)
end
theorem paired_strs {K : PySem.W.Frag} {H : Hp} {n : Nat} : ∀ ys : List Str, Paired (EqV K H (n + 1)) (ys.map V.str) (ys.map V.str)
  | [] => .nil
  | y :: r => .cons (.inl ⟨rfl, rfl⟩) (paired_strs r)
theorem canLay_intsL : ∀ l : List Int, PyData.canLayAll0 (l.map PyData.int) = true
  | [] => rfl
  | a :: r => by simp [PyData.canLayAll0, PyData.canLay0, canLay_intsL r]
theorem depth_intsL : ∀ l : List Int, PyData.depthAll (l.map PyData.int) ≤ 1
  | [] => by simp [PyData.depthAll]
  | a :: r => by
    have := depth_intsL r
    simp only [List.map_cons, PyData.depthAll, PyData.depth]
    omega
theorem shaped_ints (ys : List Int) : SeqAt.shaped (.list (ys.map PyData.int)) = true := by
  unfold SeqAt.shaped
  have h := depth_intsL ys
  rw [Bool.and_eq_true]
  refine ⟨by simp only [PyData.canLay0]; exact canLay_intsL ys, decide_eq_true ?_⟩
  simp only [PyData.depth]
  omega
theorem eqv_ints (ys : List Int) : PyData.eqv (.list (ys.map PyData.int)) (.list (ys.map PyData.int)) = true := SeqAt.eqv_refl _ (SeqAt.canLay_of_shaped (shaped_ints ys))
theorem dp_ints {K : PySem.W.Frag} {H : Hp} : ∀ (ys : List Int), DpAll K H (ys.map V.int) (ys.map PyData.int)
  | [] => .nil
  | y :: r => .cons (.int y) (dp_ints r)

section
variable {P : Program} {w : World} {K : PySem.W.Frag} {mg : Str → Option Value} {base : Heap} {C_Ratio : Addr} {C_Plan : Addr} {C_End : Addr} {C_Lot : Addr} {C_Turn : Addr}
theorem ok_rat_init {f : Addr} {fd : FuncData} {ds : List Value} {dvs : List V} (M : Mk K C_Ratio f) (F : C8.Fun K "__init__" "Ratio.__init__" s_Ratio___init f fd) (b : Binds K fd ["self", "num", "den"] ds) (d : Vals dvs ds) (T : Txt K mg C_Ratio C_Plan C_End C_Lot C_Turn) :
    C8.Mak P w K mg base 1 "Ratio" C_Ratio (sp_rat C_Ratio) dvs := by
  refine mak0 M T.m_Ratio F b d sc_Ratio___init (fun vs H Q E h => ?_) (fun cdv A outer s H vs Q E hr h => ?_)
  · obtain ⟨x, dx, n, d, rfl, _⟩ := h
    rfl
  · obtain ⟨x, dx, n, d, rfl, hd0, hdb, hx, k⟩ := h
    refine ⟨_, (pss_cons (ps_if (pt_cmpR op_eq (pv 2) pe_int (nomark _))
  (pss_one ps_never)
  pss_nil)
(pss_cons (ps_set (i := 3) sc_Ratio___init.nd rfl (by first | exact Or.inl rfl | exact Or.inr rfl) (pe_callBfun cr_gcd (by rfl) T.f_gcd (pa_cons (pv 1) (pa_cons (pv 2) pa_nil))))
(pss_cut (ps_if (pt_cmpR op_lt (pv 2) pe_int (nomark _))
  (pss_one (ps_set (i := 3) sc_Ratio___init.nd rfl (by first | exact Or.inl rfl | exact Or.inr rfl) (pe_un un_neg (pv 3))))
  pss_nil)
(pss_cons (ps_fld (pv 0) (pe_op op_fdivG (pv 1) (pv 3)) rfl)
(pss_one (ps_fld (pv 0) (pe_op op_fdivG (pv 2) (pv 3)) rfl)))))), ?_⟩
    refine ⟨_, rfl, rfl, _, rfl, iteDF (fun z => hd0 (V.int.inj z)) ?_⟩
    refine ⟨_, rfl, _, rfl, _, _, rfl, ?_⟩
    have hg := gcd_pos_of (n := n) hd0
    have hgb : Nat.gcd n.natAbs d.natAbs < 2 ^ 8000 := Nat.lt_of_le_of_lt (Nat.le_of_dvd (by omega) (Nat.gcd_dvd_right _ _)) hdb
    -- part is the sign's part
    refine ⟨fun σ H' => σ = [some (.ref x), some (.int n), some (.int d), some (.int (sg n d))] ∧ H' = H, ?_, ?_⟩
    · refine ⟨_, rfl, _, _, rfl, rfl, _, rfl, iteD (fun hn => ?_) (fun hn => ?_)⟩
      · refine ⟨_, rfl, _, rfl, ?_, rfl⟩
        unfold sg; rw [if_pos hn]; rfl
      · refine ⟨?_, rfl⟩
        unfold sg; rw [if_neg hn]; rfl
    · rintro σ H' ⟨rfl, rfl⟩
      have hs := sg_ne (n := n) hd0
      have hsb : CDivG n (sg n d) := ⟨hs, by
        refine Nat.lt_trans (log2_lt9 (b := 8000) ?_ (by decide)) (by decide)
        have : (sg n d).natAbs = Nat.gcd n.natAbs d.natAbs := by unfold sg; split <;> omega
        omega⟩
      refine ⟨_, rfl, _, rfl, _, _, rfl, rfl, hsb, _, rfl, x, C_Ratio, dx, [], rfl, hx, T.cl_Ratio, T.a_Ratio_num, by show 0 < 1000; decide, ?_⟩
      refine ⟨_, rfl, _, rfl, _, _, rfl, rfl, hsb, _, rfl, x, C_Ratio, dx, _, rfl, upd_same, T.cl_Ratio, T.a_Ratio_den, by show 1 < 1000; decide, ?_⟩
      exact k _ ((Keep.at_ (List.mem_singleton.mpr rfl)).then_at (List.mem_singleton.mpr rfl)) upd_same
end

/-! the common form -/
abbrev Rt := Int × Int
def lcmD (d : Nat) (r : Rt) : Nat := Nat.lcm d r.2.natAbs
def comD (rs : List Rt) : Nat := rs.foldl lcmD 1
def comN (rs : List Rt) : List Int := rs.map fun r => r.1 * ((comD rs : Nat) : Int).fdiv r.2
theorem comD_snoc (l : List Rt) (r : Rt) : comD (l ++ [r]) = lcmD (comD l) r := by unfold comD; rw [List.foldl_append]; rfl
theorem foldl_dvd_start : ∀ (l : List Rt) (d : Nat), d ∣ l.foldl lcmD d
  | [], d => Nat.dvd_refl d
  | r :: l, d => Nat.dvd_trans (Nat.dvd_lcm_left d r.2.natAbs) (foldl_dvd_start l (lcmD d r))
theorem foldl_dvd_mem : ∀ (l : List Rt) (d : Nat) {r : Rt}, r ∈ l → r.2.natAbs ∣ l.foldl lcmD d
  | r' :: l, d, r, h => by
    rcases List.mem_cons.mp h with e | e
    · subst e
      exact Nat.dvd_trans (Nat.dvd_lcm_right d r.2.natAbs) (foldl_dvd_start l (lcmD d r))
    · exact foldl_dvd_mem l (lcmD d r') e
theorem foldl_dvd_of : ∀ (l : List Rt) (d m : Nat), d ∣ m → (∀ r ∈ l, r.2.natAbs ∣ m) → l.foldl lcmD d ∣ m
  | [], d, m, h, _ => h
  | r :: l, d, m, h, hl => foldl_dvd_of l (lcmD d r) m (Nat.lcm_dvd h (hl r (List.mem_cons_self ..))) fun z hz => hl z (List.mem_cons_of_mem _ hz)
theorem comD_mem {rs : List Rt} {r : Rt} (h : r ∈ rs) : r.2.natAbs ∣ comD rs := foldl_dvd_mem rs 1 h
theorem comD_of {rs : List Rt} {m : Nat} (h : ∀ r ∈ rs, r.2.natAbs ∣ m) : comD rs ∣ m := foldl_dvd_of rs 1 m (Nat.one_dvd m) h
def sp_common (K : PySem.W.Frag) (C : Addr) : Sp := fun vs H Q _ => ∃ (a : Addr) (ps : List Addr) (rs : List Rt) (B : Nat), vs = [.ref a] ∧ SqL K H a (ps.map V.ref) ∧ ps.length = rs.length ∧ (∀ (i : Nat) p r, ps[i]? = some p → rs[i]? = some r → RatAt C H p r.1 r.2) ∧
  (∀ r ∈ rs, 0 < r.2 ∧ r.2.natAbs ∣ B ∧ r.1.natAbs < 2 ^ 300) ∧ 0 < B ∧ B < 2 ^ 1800 ∧ rs.length ≤ 1000 ∧
  ∀ l t H', H l = none → Keep [] H H' → H' l = some (.lst ((comN rs).map V.int)) → H' t = some (.tup [.ref l, .int (comD rs : Nat)]) → Q (.ref t) H'
section
variable {P : Program} {w : World} {K : PySem.W.Frag} {mg : Str → Option Value} {base : Heap} {C_Ratio : Addr} {C_Plan : Addr} {C_End : Addr} {C_Lot : Addr} {C_Turn : Addr}
theorem ok_common {f : Addr} {fd : FuncData} (D : C8.Def K mg "common" s_common f fd) (b : Binds K fd ["ratios"] []) (T : Txt K mg C_Ratio C_Plan C_End C_Lot C_Turn) : C8.Cal P w K mg base 1 "common" (sp_common K C_Ratio) [] := by
  refine cal0 D b .nil sc_common (fun vs H Q E h => ?_) (fun cdv A outer s H vs Q E hr h => ?_)
  · obtain ⟨a, ps, rs, B, rfl, _⟩ := h
    rfl
  · obtain ⟨a, ps, rs, B, rfl, hS, hlen, hrat, hrs, hB0, hB1, hn, k⟩ := h
    refine ⟨_, (pss_cons (ps_set (i := 1) sc_common.nd rfl (by first | exact Or.inl rfl | exact Or.inr rfl) pe_int)
(pss_cons (ps_for PassesOwn.never rfl (pi_list (pv 0)) (pg_name (i := 2) sc_common.nd rfl (by first | exact Or.inl rfl | exact Or.inr rfl))
  (pss_one (ps_set (i := 1) sc_common.nd rfl (by first | exact Or.inl rfl | exact Or.inr rfl) (pe_callBfun cr_lcm (by rfl) T.f_lcm (pa_cons (pv 1) (pa_cons (pe_fld (pv 2) rfl) pa_nil))))))
(pss_one (ps_ret (pe_tup (pa_cons (pe_lc (own := [("ratio", 2)]) (g := gName 2) (tt := tYes) rfl sc_common.nd (pi_list (pv 0)) (blkOk_by (N := ["ratios", "den", "ratio"]) (sc := fnScope s_common) (by decide +kernel)) (fun _ _ _ _ _ => pg_name (i := 2) sc_common.nd rfl (by first | exact Or.inl rfl | exact Or.inr rfl)) (fun _ _ _ _ _ => pts_nil) (fun _ _ _ _ _ => (pe_op op_mulO (pe_fldK (K := K) (pv 2) rfl) (pe_op op_fdivG (pv 1) (pe_fldK (K := K) (pv 2) rfl))))) (pa_cons (pv 1) pa_nil))))))), ?_⟩
    have bound : ∀ i, comD (rs.take i) < 2 ^ 1800 := fun i => Nat.lt_of_le_of_lt (Nat.le_of_dvd hB0 (comD_of fun r hr => (hrs r (List.mem_of_mem_take hr)).2.1)) hB1
    have big : ∀ {n : Nat}, n < 2 ^ 1800 → n < 2 ^ 6000 := fun h => Nat.lt_trans h (Nat.pow_lt_pow_right (by decide) (by decide))
    have rbound : ∀ r ∈ rs, r.2.natAbs < 2 ^ 1800 := fun r hr => Nat.lt_of_le_of_lt (Nat.le_of_dvd hB0 (hrs r hr).2.1) hB1
    refine ⟨_, rfl, a, rfl, ⟨_, hS⟩, for_list (K := K) (a := a) (xs := ps.map V.ref) (fun i σ H' => H' = H ∧ ∃ o2, σ = [some (.ref a), some (.int ((comD (rs.take i) : Nat) : Int)), o2])
      ⟨rfl, none, rfl⟩ (fun i σ H' _ ⟨e, _⟩ => by rw [e]; exact hS) ?_ ?_⟩
    · rintro i x σ H' hi ⟨rfl, o2, rfl⟩
      obtain ⟨p, hp, rfl⟩ : ∃ p, ps[i]? = some p ∧ x = V.ref p := by
        rw [List.getElem?_map] at hi
        cases e : ps[i]? with
        | none => rw [e] at hi; cases hi
        | some p => rw [e] at hi; exact ⟨p, rfl, (Option.some.inj hi).symm⟩
      have hil : i < rs.length := by have := (List.getElem?_eq_some_iff.mp hp).1; omega
      have hr : rs[i]? = some rs[i] := List.getElem?_eq_getElem hil
      obtain ⟨dx, hpx⟩ := hrat i p _ hp hr
      have hm := List.getElem_mem hil
      refine ⟨_, rfl, _, rfl, p, C_Ratio, dx, _, _, rfl, hpx, T.cl_Ratio, T.a_Ratio_den, rf_den _ _, _, _, rfl, big (by rw [Int.natAbs_natCast]; exact bound i), big (rbound _ hm), ?_⟩
      refine ⟨rfl, some (.ref p), ?_⟩
      have e1 : rs.take (i + 1) = rs.take i ++ [rs[i]] := by rw [List.take_add_one, hr]; rfl
      rw [e1, comD_snoc]
      rfl
    · rintro σ H0 ⟨rfl, o2, rfl⟩
      have et : rs.take (ps.map V.ref).length = rs := by rw [List.length_map, hlen, List.take_length]
      rw [et]
      have hD := bound rs.length
      rw [List.take_length] at hD
      refine ⟨_, rfl, a, rfl, ⟨_, hS⟩, fun L hL => ?_⟩
      refine lc_list (K := K) (a := a) (xs := ps.map V.ref) (fun i H' => H' L = some (.lst (((comN rs).take i).map V.int)) ∧ Keep [] H0 H')
        ⟨upd_same, Keep.new hL⟩ (fun i H' _ ⟨_, kk⟩ => kk.seqL hS (by simp)) ?_ ?_
      · rintro i x H' hi ⟨hDL, kk⟩
        obtain ⟨p, hp, rfl⟩ : ∃ p, ps[i]? = some p ∧ x = V.ref p := by
          rw [List.getElem?_map] at hi
          cases e : ps[i]? with
          | none => rw [e] at hi; cases hi
          | some p => rw [e] at hi; exact ⟨p, rfl, (Option.some.inj hi).symm⟩
        have hil : i < rs.length := by have := (List.getElem?_eq_some_iff.mp hp).1; omega
        have hr : rs[i]? = some rs[i] := List.getElem?_eq_getElem hil
        obtain ⟨dx, hpx⟩ := (hrat i p _ hp hr).keep0 kk
        have hm := List.getElem_mem hil
        obtain ⟨hp0, hpd, hpn⟩ := hrs _ hm
        have hfd : ((((comD rs : Nat) : Int).fdiv rs[i].2)).natAbs < 2 ^ 1800 := by
          rw [Int.fdiv_eq_ediv_of_nonneg _ (by omega)]
          refine Nat.lt_of_le_of_lt (Int.natAbs_ediv_le_natAbs _ _) ?_
          rw [Int.natAbs_natCast]; exact hD
        have cd : CDivG ((comD rs : Nat) : Int) rs[i].2 := ⟨by omega, Nat.lt_trans (log2_lt9 (rbound _ hm) (by decide)) (by decide)⟩
        have cm : IntMulOk rs[i].1 (((comD rs : Nat) : Int).fdiv rs[i].2) := IntMulOk.of_le (m := 300) (n := 1800) (intBits_le_iff.mpr hpn) (intBits_le_iff.mpr hfd) (by decide)
        refine ⟨rfl, yes_then ⟨_, rfl, p, C_Ratio, dx, _, _, rfl, hpx, T.cl_Ratio, T.a_Ratio_num, rf_num _ _, _, rfl, _, rfl, p, C_Ratio, dx, _, _, rfl, hpx, T.cl_Ratio, T.a_Ratio_den, rf_den _ _, _, _, rfl, rfl, cd, _, _, rfl, rfl, cm, ?_⟩⟩
        refine ⟨_, hDL, by rw [List.length_map, List.length_take]; exact smallL (by omega), ?_, kk.then_own hL⟩
        have e1 : (comN rs)[i]? = some (rs[i].1 * (((comD rs : Nat) : Int).fdiv rs[i].2)) := by unfold comN; rw [List.getElem?_map, hr]; rfl
        rw [List.take_add_one, e1, List.map_append]
        exact upd_same
      · rintro H' ⟨hDL, kk⟩
        have e2 : (comN rs).take (ps.map V.ref).length = comN rs := by
          refine List.take_of_length_le ?_
          unfold comN; rw [List.length_map, List.length_map, hlen]; exact Nat.le_refl _
        rw [e2] at hDL
        refine ⟨_, rfl, by show 2 ≤ sizeLine; decide, fun t ht => ?_⟩
        exact k L t _ hL (kk.then_new ht) (by rw [upd_ne (ne_of_none hDL ht)]; exact hDL) upd_same
end

/-! trees of chances and turns -/
inductive TM where
  | fin
  | lot (ps : List TM)
  | turn (q : Nat) (es : List Ev) (ps : List TM)
mutual
def TM.hgt : TM → Nat
  | .fin => 0
  | .lot ps => hgts ps + 1
  | .turn _ _ ps => hgts ps + 1
def TM.hgts : List TM → Nat
  | [] => 0
  | m :: ms => Nat.max m.hgt (hgts ms)
end
mutual
def TM.nds : TM → Nat
  | .fin => 1
  | .lot ps => ndss ps + 1
  | .turn _ _ ps => ndss ps + 1
def TM.ndss : List TM → Nat
  | [] => 0
  | m :: ms => m.nds + ndss ms
end
theorem hgts_get : ∀ {ps : List TM} {i : Nat} {m : TM}, ps[i]? = some m → m.hgt ≤ TM.hgts ps
  | p :: ps, 0, m, h => by simp at h; subst h; exact Nat.le_max_left ..
  | p :: ps, i + 1, m, h => by simp at h; exact Nat.le_trans (hgts_get h) (Nat.le_max_right ..)
theorem ndss_app : ∀ ps qs : List TM, TM.ndss (ps ++ qs) = TM.ndss ps + TM.ndss qs
  | [], qs => by show _ = 0 + _; rw [Nat.zero_add]; rfl
  | p :: ps, qs => by show p.nds + TM.ndss (ps ++ qs) = p.nds + TM.ndss ps + TM.ndss qs; rw [ndss_app ps qs]; omega
theorem nds_pos : ∀ m : TM, 1 ≤ m.nds
  | .fin => Nat.le_refl _
  | .lot ps => Nat.le_add_left ..
  | .turn _ _ ps => Nat.le_add_left ..
theorem ndss_len : ∀ ps : List TM, ps.length ≤ TM.ndss ps
  | [] => Nat.le_refl _
  | p :: ps => by
    have h1 := nds_pos p
    have h2 := ndss_len ps
    show ps.length + 1 ≤ p.nds + TM.ndss ps
    omega
theorem ndss_take (ps : List TM) {i : Nat} {m : TM} (h : ps[i]? = some m) : TM.ndss (ps.take i) + m.nds ≤ TM.ndss ps := by
  have hi := (List.getElem?_eq_some_iff.mp h)
  obtain ⟨hi, e⟩ := hi
  have e2 : ps = ps.take i ++ (m :: ps.drop (i + 1)) := by
    rw [← e, List.getElem_cons_drop hi, List.take_append_drop]
  rw [e2, ndss_app]
  have e3 : (ps.take i ++ (m :: ps.drop (i + 1))).take i = ps.take i := by rw [← e2]
  rw [e3]
  show TM.ndss (ps.take i) + m.nds ≤ TM.ndss (ps.take i) + (m.nds + TM.ndss (ps.drop (i + 1)))
  omega
section
variable (CE CL CT : Addr)
mutual
def TA (H : Hp) : TM → V → Prop
  | .fin, v => ∃ p dx z, v = .ref p ∧ H p = some (.ins CE dx [("paid", z)])
  | .lot ps, v => ∃ p dx t vs, v = .ref p ∧ H p = some (.ins CL dx [("parts", .ref t)]) ∧ H t = some (.tup vs) ∧ TAs H ps vs
  | .turn q es ps, v => ∃ p dx w t vs, v = .ref p ∧ H p = some (.ins CT dx [("player", .int q), ("view", w), ("parts", .ref t)]) ∧ TD H w (dView es) ∧ H t = some (.tup vs) ∧ TAs H ps vs
def TAs (H : Hp) : List TM → List V → Prop
  | [], vs => vs = []
  | m :: ms, vs => ∃ v r, vs = v :: r ∧ TA H m v ∧ TAs H ms r
end
end
theorem Keep.made {H : Hp} {x d : Addr} {o : HO} (hx : H x = none) (hd : H d = none) : Keep [] H (upd (upd H d (.own x)) x o) := fun b u q _ => by
  rw [upd_ne (ne_of_none q hx), upd_ne (ne_of_none q hd)]; exact q
/-- tuples and instances stand -/
def KI (H H' : Hp) : Prop := (∀ b xs, H b = some (.tup xs) → H' b = some (.tup xs)) ∧ ∀ b C dx fs, H b = some (.ins C dx fs) → H' b = some (.ins C dx fs)
theorem KI.tk {H H' : Hp} (k : KI H H') : TK H H' := k.1
theorem KI.of {H H' : Hp} (k : Keep [] H H') : KI H H' := ⟨fun b xs h => k _ _ h (by simp), fun b C dx fs h => k _ _ h (by simp)⟩
theorem KI.trans {H H1 H2 : Hp} (a : KI H H1) (b : KI H1 H2) : KI H H2 := ⟨fun c xs h => b.1 _ _ (a.1 _ _ h), fun c C dx fs h => b.2 _ _ _ _ (a.2 _ _ _ _ h)⟩
theorem KI.at_ {H H' : Hp} {d : Addr} {o : HO} (hd : H d = some o) (k : Keep [d] H H') (h1 : ∀ xs, o ≠ .tup xs) (h2 : ∀ C dx fs, o ≠ .ins C dx fs) : KI H H' :=
  ⟨fun b xs h => k _ _ h (by intro z; rw [List.mem_singleton.mp z] at h; exact h1 _ (Option.some.inj (hd.symm.trans h))), fun b C dx fs h => k _ _ h (by intro z; rw [List.mem_singleton.mp z] at h; exact h2 _ _ _ (Option.some.inj (hd.symm.trans h)))⟩
theorem KI.lst {H : Hp} {d : Addr} {o : HO} {xs : List V} (hd : H d = some (.lst xs)) : KI H (upd H d o) := KI.at_ hd (Keep.at_ (by simp)) (fun _ z => nomatch z) (fun _ _ _ z => nomatch z)
mutual
theorem TA.ki {CE CL CT : Addr} {H H' : Hp} (k : KI H H') : ∀ (m : TM) {v : V}, TA CE CL CT H m v → TA CE CL CT H' m v
  | .fin, _, ⟨p, dx, z, e, h⟩ => ⟨p, dx, z, e, k.2 _ _ _ _ h⟩
  | .lot ps, _, ⟨p, dx, t, vs, e, h, ht, hs⟩ => ⟨p, dx, t, vs, e, k.2 _ _ _ _ h, k.1 _ _ ht, TAs.ki k ps hs⟩
  | .turn q es ps, _, ⟨p, dx, w, t, vs, e, h, hw, ht, hs⟩ => ⟨p, dx, w, t, vs, e, k.2 _ _ _ _ h, hw.tk k.1, k.1 _ _ ht, TAs.ki k ps hs⟩
theorem TAs.ki {CE CL CT : Addr} {H H' : Hp} (k : KI H H') : ∀ (ms : List TM) {vs : List V}, TAs CE CL CT H ms vs → TAs CE CL CT H' ms vs
  | [], _, h => h
  | m :: ms, _, ⟨v, r, e, h, hs⟩ => ⟨v, r, e, TA.ki k m h, TAs.ki k ms hs⟩
end
theorem TAs.get {CE CL CT : Addr} {H : Hp} : ∀ {ms : List TM} {vs : List V} {i : Nat} {v : V}, TAs CE CL CT H ms vs → vs[i]? = some v → ∃ m, ms[i]? = some m ∧ TA CE CL CT H m v
  | [], vs, i, v, h, e => by rw [show vs = [] from h] at e; simp at e
  | m :: ms, vs, 0, v, ⟨u, r, e1, h, hs⟩, e => by subst e1; simp at e; subst e; exact ⟨m, rfl, h⟩
  | m :: ms, vs, i + 1, v, ⟨u, r, e1, h, hs⟩, e => by subst e1; simp at e; obtain ⟨n, a, b⟩ := TAs.get hs e; exact ⟨n, by simpa using a, b⟩
theorem TAs.len {CE CL CT : Addr} {H : Hp} : ∀ {ms : List TM} {vs : List V}, TAs CE CL CT H ms vs → vs.length = ms.length
  | [], vs, h => by rw [show vs = [] from h]; rfl
  | m :: ms, vs, ⟨u, r, e1, h, hs⟩ => by rw [e1, List.length_cons, List.length_cons, TAs.len hs]
theorem TAs.app {CE CL CT : Addr} {H : Hp} : ∀ {ms ns : List TM} {vs ws : List V}, TAs CE CL CT H ms vs → TAs CE CL CT H ns ws → TAs CE CL CT H (ms ++ ns) (vs ++ ws)
  | [], ns, vs, ws, h, g => by rw [show vs = [] from h]; exact g
  | m :: ms, ns, vs, ws, ⟨u, r, e1, h, hs⟩, g => ⟨u, r ++ ws, by rw [e1]; rfl, h, TAs.app hs g⟩
theorem TAs.snoc {CE CL CT : Addr} {H : Hp} {ms : List TM} {vs : List V} {m : TM} {v : V} (h : TAs CE CL CT H ms vs) (g : TA CE CL CT H m v) : TAs CE CL CT H (ms ++ [m]) (vs ++ [v]) := h.app ⟨v, [], rfl, g, rfl⟩
theorem TAs.rev {CE CL CT : Addr} {H : Hp} : ∀ {ms : List TM} {vs : List V}, TAs CE CL CT H ms vs → TAs CE CL CT H ms.reverse vs.reverse
  | [], vs, h => by rw [show vs = [] from h]; rfl
  | m :: ms, vs, ⟨u, r, e1, h, hs⟩ => by rw [e1, List.reverse_cons, List.reverse_cons]; exact (TAs.rev hs).snoc h
/-! the views that one player meets, in order -/
def insV (f : List Row) (r : Row) : List Row := if f.any (fun x => decide (x.1 = r.1)) = true then f else f ++ [r]
mutual
def coll (pl : Nat) : TM → List Row → List Row
  | .fin, f => f
  | .lot ps, f => colls pl ps f
  | .turn q es ps, f => colls pl ps (if q = pl then insV f (es, (ps.length : Int)) else f)
def colls (pl : Nat) : List TM → List Row → List Row
  | [], f => f
  | m :: ms, f => colls pl ms (coll pl m f)
end
theorem colls_app (pl : Nat) : ∀ (ps qs : List TM) (f : List Row), colls pl (ps ++ qs) f = colls pl qs (colls pl ps f)
  | [], _, _ => rfl
  | _ :: ps, qs, f => colls_app pl ps qs _
theorem insV_len (f : List Row) (r : Row) : (insV f r).length ≤ f.length + 1 := by
  unfold insV
  split
  · omega
  · simp
mutual
theorem coll_len (pl : Nat) : ∀ (m : TM) (f : List Row), (coll pl m f).length ≤ f.length + m.nds
  | .fin, f => Nat.le_add_right ..
  | .lot ps, f => by
    have := colls_len pl ps f
    show (colls pl ps f).length ≤ f.length + (TM.ndss ps + 1)
    omega
  | .turn q es ps, f => by
    have := colls_len pl ps (if q = pl then insV f (es, (ps.length : Int)) else f)
    have h2 : (if q = pl then insV f (es, (ps.length : Int)) else f).length ≤ f.length + 1 := by
      split
      · exact insV_len ..
      · omega
    show (colls pl ps _).length ≤ f.length + (TM.ndss ps + 1)
    omega
theorem colls_len (pl : Nat) : ∀ (ms : List TM) (f : List Row), (colls pl ms f).length ≤ f.length + TM.ndss ms
  | [], f => Nat.le_add_right ..
  | m :: ms, f => by
    have h1 := coll_len pl m f
    have h2 := colls_len pl ms (coll pl m f)
    show (colls pl ms (coll pl m f)).length ≤ f.length + (m.nds + TM.ndss ms)
    omega
end
/-! a tree whose players remember: their last rows at each turn are the given ones -/
mutual
def keepsM : TM → Option Row → Option Row → Bool
  | .fin, _, _ => true
  | .lot ps, a, b => keepsL ps a b
  | .turn q es ps, a, b => decide (lastRow es = if q = 1 then a else b) && keepsT q es 0 ps a b
def keepsL : List TM → Option Row → Option Row → Bool
  | [], _, _ => true
  | m :: ms, a, b => keepsM m a b && keepsL ms a b
def keepsT (q : Nat) (es : List Ev) : Nat → List TM → Option Row → Option Row → Bool
  | _, [], _, _ => true
  | k, m :: ms, a, b => (if q = 1 then keepsM m (some (es, (k : Int))) b else keepsM m a (some (es, (k : Int)))) && keepsT q es (k + 1) ms a b
end
/-! keys -/
def keyE (e : Ev) : NestedKey := .tup (.text e.1 :: e.2.map .num)
def keyV (L : List Ev) : NestedKey := .tup (L.map keyE)
theorem nk_ints {H : Hp} : ∀ l : List Int, NKs H (l.map NestedKey.num) (l.map V.int)
  | [] => .nil
  | a :: r => .cons (.num a) (nk_ints r)
theorem tds_ints {H : Hp} : ∀ {l : List Int} {vs : List V}, TDs H vs (l.map PyData.int) → vs = l.map V.int
  | [], _, h => by cases h; rfl
  | a :: r, _, h => by
    cases h with
    | cons h1 h2 => cases h1; rw [tds_ints h2]; rfl
theorem nk_ev {H : Hp} {v : V} {e : Ev} (h : TD H v (dEv e)) : NK H (keyE e) v := by
  unfold dEv at h
  cases h with
  | tup h1 h2 =>
    cases h2 with
    | cons h3 h4 =>
      cases h3
      rw [tds_ints h4] at h1
      exact .tup h1 (.cons (.text _) (nk_ints _))
theorem nk_evs {H : Hp} : ∀ {L : List Ev} {vs : List V}, TDs H vs (L.map dEv) → NKs H (L.map keyE) vs
  | [], _, h => by cases h; exact .nil
  | e :: L, _, h => by
    cases h with
    | cons h1 h2 => exact .cons (nk_ev h1) (nk_evs h2)
theorem nk_view {H : Hp} {v : V} {L : List Ev} (h : TD H v (dView L)) : NK H (keyV L) v := by
  unfold dView at h
  cases h with
  | tup h1 h2 => exact .tup h1 (nk_evs h2)
theorem keyI_inj : ∀ {l m : List Int}, l.map NestedKey.num = m.map NestedKey.num → l = m
  | [], [], _ => rfl
  | [], _ :: _, h => by simp at h
  | _ :: _, [], h => by simp at h
  | a :: l, b :: m, h => by
    simp only [List.map_cons, List.cons.injEq, NestedKey.num.injEq] at h
    rw [h.1, keyI_inj h.2]
theorem keyE_inj {e f : Ev} (h : keyE e = keyE f) : e = f := by
  unfold keyE at h
  simp only [NestedKey.tup.injEq, List.cons.injEq, NestedKey.text.injEq] at h
  exact Prod.ext h.1 (keyI_inj h.2)
theorem keyEs_inj : ∀ {l m : List Ev}, l.map keyE = m.map keyE → l = m
  | [], [], _ => rfl
  | [], _ :: _, h => by simp at h
  | _ :: _, [], h => by simp at h
  | a :: l, b :: m, h => by
    simp only [List.map_cons, List.cons.injEq] at h
    rw [keyE_inj h.1, keyEs_inj h.2]
theorem keyV_inj {l m : List Ev} (h : keyV l = keyV m) : l = m := keyEs_inj (NestedKey.tup.inj h)
theorem depth_ks : ∀ l : List Int, NestedKey.depthAll (l.map NestedKey.num) = 0
  | [] => rfl
  | a :: r => by
    show max 0 (NestedKey.depthAll (r.map NestedKey.num)) = 0
    rw [depth_ks r]; rfl
theorem depth_ke (e : Ev) : (keyE e).depth = 1 := by
  show max 0 (NestedKey.depthAll (e.2.map NestedKey.num)) + 1 = 1
  rw [depth_ks]; rfl
theorem depth_kes : ∀ L : List Ev, NestedKey.depthAll (L.map keyE) ≤ 1
  | [] => Nat.zero_le _
  | e :: L => by
    show max (keyE e).depth (NestedKey.depthAll (L.map keyE)) ≤ 1
    rw [depth_ke]
    exact Nat.max_le.mpr ⟨Nat.le_refl _, depth_kes L⟩
theorem depth_kv (L : List Ev) : (keyV L).depth ≤ 8 := by
  have := depth_kes L
  show NestedKey.depthAll (L.map keyE) + 1 ≤ 8
  omega
/-! the dict of views -/
inductive FE (H : Hp) : List Ent → List Row → Prop
  | nil : FE H [] []
  | cons {b : Addr} {xs : List Ent} {f : List Row} {r : Row} : TD H (.ref b) (dView r.1) → FE H xs f → FE H ((keyV r.1, b, .int r.2) :: xs) (r :: f)
theorem FE.tk {H H' : Hp} (k : TK H H') {xs : List Ent} {f : List Row} (h : FE H xs f) : FE H' xs f := by
  induction h with
  | nil => exact .nil
  | cons h _ ih => exact .cons (h.tk k) ih
theorem FE.len {H : Hp} {xs : List Ent} {f : List Row} (h : FE H xs f) : xs.length = f.length := by
  induction h with
  | nil => rfl
  | cons _ _ ih => rw [List.length_cons, List.length_cons, ih]
theorem FE.snoc {H : Hp} {xs : List Ent} {f : List Row} {b : Addr} {r : Row} (h : FE H xs f) (hb : TD H (.ref b) (dView r.1)) : FE H (xs ++ [(keyV r.1, b, .int r.2)]) (f ++ [r]) := by
  induction h with
  | nil => exact .cons hb .nil
  | cons h _ ih => exact .cons h ih
theorem FE.get {H : Hp} {xs : List Ent} {f : List Row} (h : FE H xs f) : ∀ {i : Nat} {x : Ent}, xs[i]? = some x → ∃ r, f[i]? = some r ∧ x.2.2 = .int r.2 ∧ TD H (.ref x.2.1) (dView r.1) := by
  induction h with
  | nil => intro i x e; simp at e
  | @cons b xs f r h _ ih =>
    intro i x e
    cases i with
    | zero => simp at e; subst e; exact ⟨r, rfl, rfl, h⟩
    | succ j => simp at e; obtain ⟨q, a, b⟩ := ih e; exact ⟨q, by simpa using a, b⟩
theorem FE.val {H : Hp} {xs : List Ent} {f : List Row} (h : FE H xs f) (L : List Ev) : (valN xs (keyV L)).isSome = f.any (fun x => decide (x.1 = L)) := by
  induction h with
  | nil => rfl
  | @cons b xs f r h _ ih =>
    by_cases e : r.1 = L
    · have e1 : keyV r.1 = keyV L := by rw [e]
      rw [valN_pos (p := (keyV r.1, b, .int r.2)) e1]
      simp [e]
    · have e1 : ¬ keyV r.1 = keyV L := fun z => e (keyV_inj z)
      rw [valN_neg (p := (keyV r.1, b, .int r.2)) e1, ih]
      simp [e]
def FD (P : Program) (w : World) (H : Hp) (d : Addr) (f : List Row) : Prop := ∃ xs, H d = some (ndO P w d xs) ∧ FE H xs f
theorem FE.nk {H : Hp} {xs : List Ent} {f : List Row} (h : FE H xs f) : ∀ x ∈ xs, NK H x.1 (.ref x.2.1) ∧ x.1.depth ≤ 8 := by
  induction h with
  | nil => intro x hx; cases hx
  | @cons b xs f r h _ ih =>
    intro x hx
    rcases List.mem_cons.mp hx with e | e
    · subst e; exact ⟨nk_view h, depth_kv _⟩
    · exact ih x e
theorem FD.keep {P : Program} {w : World} {H H' : Hp} {d : Addr} {f : List Row} (h : FD P w H d f) (k : Keep [] H H') : FD P w H' d f := by
  obtain ⟨xs, h1, h2⟩ := h
  exact ⟨xs, k _ _ h1 (by simp), h2.tk k.tk⟩
theorem FD.ki {P : Program} {w : World} {H H' : Hp} {d : Addr} {f : List Row} (h : FD P w H d f) (k : Keep [d] H H') : KI H H' := by
  obtain ⟨xs, h1, h2⟩ := h
  exact KI.at_ h1 k (fun _ z => nomatch z) (fun _ _ _ z => nomatch z)
theorem TA.form {CE CL CT : Addr} {H : Hp} : ∀ {tm : TM} {v : V}, TA CE CL CT H tm v → (tm = .fin ∧ ∃ p dx z, v = .ref p ∧ H p = some (.ins CE dx [("paid", z)])) ∨
    ∃ C p dx t fs vs ps, v = .ref p ∧ H p = some (.ins C dx fs) ∧ fs.lookup ("parts" : Str) = some (.ref t) ∧ H t = some (.tup vs) ∧ TAs CE CL CT H ps vs ∧ TM.hgts ps < tm.hgt ∧ TM.ndss ps < tm.nds ∧
      ((C = CL ∧ tm = .lot ps) ∨ (C = CT ∧ ∃ q es wv, tm = .turn q es ps ∧ fs.lookup ("player" : Str) = some (.int (q : Nat)) ∧ fs.lookup ("view" : Str) = some wv ∧ TD H wv (dView es)))
  | .fin, v, ⟨p, dx, z, e, h⟩ => .inl ⟨rfl, p, dx, z, e, h⟩
  | .lot ps, v, ⟨p, dx, t, vs, e, h, ht, hs⟩ => .inr ⟨CL, p, dx, t, _, vs, ps, e, h, rfl, ht, hs, Nat.lt_succ_self _, Nat.lt_succ_self _, .inl ⟨rfl, rfl⟩⟩
  | .turn q es ps, v, ⟨p, dx, w, t, vs, e, h, hw, ht, hs⟩ => .inr ⟨CT, p, dx, t, _, vs, ps, e, h, rfl, ht, hs, Nat.lt_succ_self _, Nat.lt_succ_self _, .inr ⟨rfl, q, es, w, rfl, rfl, rfl, hw⟩⟩

/-! lots and plans -/
structure RtOk (r : Rt) : Prop where
  pos : 0 < r.2
  one : Nat.gcd r.1.natAbs r.2.natAbs = 1
  n : r.1.natAbs < 2 ^ 300
  d : r.2.natAbs < 2 ^ 300
inductive RL (C : Addr) (H : Hp) : List V → List Rt → Prop
  | nil : RL C H [] []
  | cons {p : Addr} {r : Rt} {vs : List V} {rs : List Rt} : RatAt C H p r.1 r.2 → RL C H vs rs → RL C H (.ref p :: vs) (r :: rs)
theorem RL.keep {C : Addr} {H H' : Hp} (k : KI H H') {vs : List V} {rs : List Rt} (h : RL C H vs rs) : RL C H' vs rs := by
  induction h with
  | nil => exact .nil
  | cons h _ ih =>
    obtain ⟨dx, h⟩ := h
    exact .cons ⟨dx, k.2 _ _ _ _ h⟩ ih
theorem RL.keepx {C CP x dx : Addr} {H H' : Hp} (k : Keep [x] H H') (hx : H x = some (.ins CP dx [])) {vs : List V} {rs : List Rt} (h : RL C H vs rs) : RL C H' vs rs := by
  induction h with
  | nil => exact .nil
  | @cons p r vs rs h _ ih =>
    obtain ⟨dx', h⟩ := h
    refine .cons ⟨dx', k _ _ h ?_⟩ ih
    intro z
    rw [List.mem_singleton.mp z, hx] at h
    have e := (HO.ins.inj (Option.some.inj h)).2.2
    have := rf_num r.1 r.2
    rw [← e] at this
    cases this
theorem RL.len {C : Addr} {H : Hp} {vs : List V} {rs : List Rt} (h : RL C H vs rs) : vs.length = rs.length := by
  induction h with
  | nil => rfl
  | cons _ _ ih => rw [List.length_cons, List.length_cons, ih]
theorem RL.snoc {C : Addr} {H : Hp} {vs : List V} {rs : List Rt} {p : Addr} {r : Rt} (h : RL C H vs rs) (hp : RatAt C H p r.1 r.2) : RL C H (vs ++ [.ref p]) (rs ++ [r]) := by
  induction h with
  | nil => exact .cons hp .nil
  | cons h _ ih => exact .cons h ih
theorem RL.get {C : Addr} {H : Hp} {vs : List V} {rs : List Rt} (h : RL C H vs rs) : ∀ {i : Nat} {r : Rt}, rs[i]? = some r → ∃ p, vs[i]? = some (.ref p) ∧ RatAt C H p r.1 r.2 := by
  induction h with
  | nil => intro i r e; simp at e
  | @cons p r vs rs h _ ih =>
    intro i q e
    cases i with
    | zero => simp at e; subst e; exact ⟨p, rfl, h⟩
    | succ j => simp at e; obtain ⟨p', a, b⟩ := ih e; exact ⟨p', by simpa using a, b⟩
theorem RL.refs {C : Addr} {H : Hp} {vs : List V} {rs : List Rt} (h : RL C H vs rs) : ∃ ps : List Addr, vs = ps.map V.ref ∧ ps.length = rs.length ∧ ∀ (i : Nat) p r, ps[i]? = some p → rs[i]? = some r → RatAt C H p r.1 r.2 := by
  induction h with
  | nil => exact ⟨[], rfl, rfl, fun i p r e => by simp at e⟩
  | @cons p r vs rs h _ ih =>
    obtain ⟨ps, h1, h2, h3⟩ := ih
    refine ⟨p :: ps, by rw [h1]; rfl, by rw [List.length_cons, List.length_cons, h2], fun i q s e1 e2 => ?_⟩
    cases i with
    | zero => simp at e1 e2; subst e1 e2; exact h
    | succ j => exact h3 j q s (by simpa using e1) (by simpa using e2)
def LA (C : Addr) (H : Hp) (a : Addr) (rs : List Rt) : Prop := ∃ vs, H a = some (.lst vs) ∧ RL C H vs rs
theorem LA.keep {C : Addr} {H H' : Hp} {a : Addr} {rs : List Rt} (h : LA C H a rs) (k : Keep [] H H') : LA C H' a rs := by
  obtain ⟨vs, h1, h2⟩ := h
  exact ⟨vs, k _ _ h1 (by simp), h2.keep (KI.of k)⟩
/-- lots that a plan takes -/
structure LotsOk (rs : List Rt) : Prop where
  B : ∃ B : Nat, 0 < B ∧ B < 2 ^ 1800 ∧ ∀ r ∈ rs, 0 < r.2 ∧ r.2.natAbs ∣ B ∧ r.1.natAbs < 2 ^ 300
  sum : (comN rs).sum = (comD rs : Nat)
  nn : ∀ n ∈ comN rs, 0 ≤ n
  ne : rs ≠ []
  len : rs.length ≤ 1000
abbrev Ent2 := List Ev × List Rt
inductive PE (C : Addr) (H : Hp) : List Ent → List Ent2 → Prop
  | nil : PE C H [] []
  | cons {b l : Addr} {xs : List Ent} {t : List Ent2} {L : List Ev} {rs : List Rt} : TD H (.ref b) (dView L) → LA C H l rs → PE C H xs t → PE C H ((keyV L, b, .ref l) :: xs) ((L, rs) :: t)
def look (t : List Ent2) (L : List Ev) : Option (List Rt) := (t.find? fun e => decide (e.1 = L)).map (·.2)
theorem PE.look {C : Addr} {H : Hp} {xs : List Ent} {t : List Ent2} (h : PE C H xs t) (L : List Ev) : (∃ rs l, look t L = some rs ∧ valN xs (keyV L) = some (.ref l) ∧ LA C H l rs) ∨ (look t L = none ∧ valN xs (keyV L) = none) := by
  induction h with
  | nil => exact .inr ⟨rfl, rfl⟩
  | @cons b l xs t M rs hb hl _ ih =>
    by_cases e : M = L
    · have e1 : keyV M = keyV L := by rw [e]
      refine .inl ⟨rs, l, ?_, valN_pos (p := (keyV M, b, .ref l)) e1, hl⟩
      unfold My.look
      rw [List.find?_cons, decide_eq_true e]; rfl
    · have e1 : ¬ keyV M = keyV L := fun z => e (keyV_inj z)
      rw [valN_neg (p := (keyV M, b, .ref l)) e1]
      have e2 : My.look ((M, rs) :: t) L = My.look t L := by
        unfold My.look
        rw [List.find?_cons, decide_eq_false e]
      rw [e2]
      exact ih
theorem PE.nk {C : Addr} {H : Hp} {xs : List Ent} {t : List Ent2} (h : PE C H xs t) : ∀ x ∈ xs, NK H x.1 (.ref x.2.1) ∧ x.1.depth ≤ 8 := by
  induction h with
  | nil => intro x hx; cases hx
  | cons hb _ _ ih =>
    intro x hx
    rcases List.mem_cons.mp hx with e | e
    · subst e; exact ⟨nk_view hb, depth_kv _⟩
    · exact ih x e
theorem PE.keep {C : Addr} {H H' : Hp} (k : KI H H') (kl : ∀ b ys, H b = some (.lst ys) → H' b = some (.lst ys)) {xs : List Ent} {t : List Ent2} (h : PE C H xs t) : PE C H' xs t := by
  induction h with
  | nil => exact .nil
  | cons hb hl _ ih =>
    obtain ⟨vs, h1, h2⟩ := hl
    exact .cons (hb.tk k.tk) ⟨vs, kl _ _ h1, h2.keep k⟩ ih
theorem PE.snoc {C : Addr} {H : Hp} {xs : List Ent} {t : List Ent2} {b l : Addr} {L : List Ev} {rs : List Rt} (h : PE C H xs t) (hb : TD H (.ref b) (dView L)) (hl : LA C H l rs) : PE C H (xs ++ [(keyV L, b, .ref l)]) (t ++ [(L, rs)]) := by
  induction h with
  | nil => exact .cons hb hl .nil
  | cons a b' _ ih => exact .cons a b' ih
theorem PE.len {C : Addr} {H : Hp} {xs : List Ent} {t : List Ent2} (h : PE C H xs t) : xs.length = t.length := by
  induction h with
  | nil => rfl
  | cons _ _ _ ih => rw [List.length_cons, List.length_cons, ih]
def PlanAt (P : Program) (w : World) (CP CR : Addr) (H : Hp) (x : Addr) (t : List Ent2) : Prop := ∃ dx d xs, H x = some (.ins CP dx [("table", .ref d)]) ∧ H d = some (ndO P w d xs) ∧ PE CR H xs t
theorem PlanAt.keep {P : Program} {w : World} {CP CR : Addr} {H H' : Hp} {x : Addr} {t : List Ent2} (h : PlanAt P w CP CR H x t) (k : Keep [] H H') : PlanAt P w CP CR H' x t := by
  obtain ⟨dx, d, xs, h1, h2, h3⟩ := h
  exact ⟨dx, d, xs, k _ _ h1 (by simp), k _ _ h2 (by simp), h3.keep (KI.of k) fun b ys q => k _ _ q (by simp)⟩
/-- the entries that are given: pairs of a view and a list of lots -/
inductive GL (C : Addr) (H : Hp) : List V → List Ent2 → Prop
  | nil : GL C H [] []
  | cons {q l : Addr} {vw : V} {vs : List V} {t : List Ent2} {L : List Ev} {rs : List Rt} : H q = some (.tup [vw, .ref l]) → TD H vw (dView L) → LA C H l rs → GL C H vs t → GL C H (.ref q :: vs) ((L, rs) :: t)
theorem GL.keep {C : Addr} {H H' : Hp} (k : KI H H') (kl : ∀ b ys, H b = some (.lst ys) → H' b = some (.lst ys)) {vs : List V} {t : List Ent2} (h : GL C H vs t) : GL C H' vs t := by
  induction h with
  | nil => exact .nil
  | cons hq hv hl _ ih =>
    obtain ⟨us, h1, h2⟩ := hl
    exact .cons (k.1 _ _ hq) (hv.tk k.tk) ⟨us, kl _ _ h1, h2.keep k⟩ ih
theorem GL.len {C : Addr} {H : Hp} {vs : List V} {t : List Ent2} (h : GL C H vs t) : vs.length = t.length := by
  induction h with
  | nil => rfl
  | cons _ _ _ _ ih => rw [List.length_cons, List.length_cons, ih]
theorem GL.snoc {C : Addr} {H : Hp} {vs : List V} {t : List Ent2} {q l : Addr} {vw : V} {L : List Ev} {rs : List Rt} (h : GL C H vs t) (hq : H q = some (.tup [vw, .ref l])) (hv : TD H vw (dView L)) (hl : LA C H l rs) : GL C H (vs ++ [.ref q]) (t ++ [(L, rs)]) := by
  induction h with
  | nil => exact .cons hq hv hl .nil
  | cons a b c _ ih => exact .cons a b c ih
theorem GL.get {C : Addr} {H : Hp} {vs : List V} {t : List Ent2} (h : GL C H vs t) : ∀ {i : Nat} {v : V}, vs[i]? = some v → ∃ q l vw L rs, v = .ref q ∧ t[i]? = some (L, rs) ∧ H q = some (.tup [vw, .ref l]) ∧ TD H vw (dView L) ∧ LA C H l rs := by
  induction h with
  | nil => intro i v e; simp at e
  | @cons q l vw vs t L rs a b c _ ih =>
    intro i v e
    cases i with
    | zero => simp at e; subst e; exact ⟨q, l, vw, L, rs, rfl, rfl, a, b, c⟩
    | succ j => simp at e; obtain ⟨q', l', vw', L', rs', e1, e2, e3, e4, e5⟩ := ih e; exact ⟨q', l', vw', L', rs', e1, by simpa using e2, e3, e4, e5⟩
def rs0 (c : Nat) : List Rt := (List.range c).map fun k => (if k = 0 then (1 : Int) else 0, (1 : Int))
def lotsAt (t : List Ent2) (L : List Ev) (c : Nat) : List Rt := match look t L with
  | some rs => if rs.length = c then rs else rs0 c
  | none => rs0 c
def sp_are_lots (C : Addr) : Sp := fun vs H Q _ => ∃ (a : Addr) (rs : List Rt), vs = [.ref a] ∧ LA C H a rs ∧ LotsOk rs ∧ ∀ H', Keep [] H H' → Q (.bl true) H'
def sp_plan (P : Program) (w : World) (CP CR : Addr) : Sp := fun vs H Q _ => ∃ (x dx a : Addr) (es : List V) (t : List Ent2), vs = [.ref x, .ref a] ∧ H x = some (.ins CP dx []) ∧ H a = some (.lst es) ∧ GL CR H es t ∧ (∀ e ∈ t, LotsOk e.2) ∧ (t.map (·.1)).Nodup ∧ t.length ≤ 1000 ∧ ∀ H', PlanAt P w CP CR H' x t → Keep [x] H H' → Q .non H'
def sp_lots_at (P : Program) (w : World) (CP CR : Addr) : Sp := fun vs H Q _ => ∃ (x : Addr) (v : V) (t : List Ent2) (L : List Ev) (c : Nat), vs = [.ref x, v, .int c] ∧ PlanAt P w CP CR H x t ∧ TD H v (dView L) ∧ c ≤ 1000 ∧ (∀ e ∈ t, e.2.length ≤ 1000) ∧ ∀ l H', H l = none → LA CR H' l (lotsAt t L c) → Keep [] H H' → Q (.ref l) H'
theorem red_one (n : Int) : redN n 1 = n ∧ redD n 1 = 1 := by
  have e : sg n 1 = 1 := by unfold sg; rw [if_neg (by decide)]; show ((Nat.gcd n.natAbs 1 : Nat) : Int) = 1; rw [Nat.gcd_one_right]; rfl
  unfold redN redD
  rw [e]
  exact ⟨Int.fdiv_one n, rfl⟩
theorem rs0_succ (i : Nat) : rs0 (i + 1) = rs0 i ++ [(if i = 0 then (1 : Int) else 0, (1 : Int))] := by
  unfold rs0
  rw [List.range_succ, List.map_append]; rfl
theorem rs0_len (c : Nat) : (rs0 c).length = c := by unfold rs0; rw [List.length_map, List.length_range]
theorem lotsAt_some {t : List Ent2} {L : List Ev} {c : Nat} {rs : List Rt} (h : look t L = some rs) (hl : rs.length = c) : lotsAt t L c = rs := by unfold lotsAt; rw [h]; exact if_pos hl
theorem lotsAt_not {t : List Ent2} {L : List Ev} {c : Nat} {rs : List Rt} (h : look t L = some rs) (hl : rs.length ≠ c) : lotsAt t L c = rs0 c := by unfold lotsAt; rw [h]; exact if_neg hl
theorem lotsAt_none {t : List Ent2} {L : List Ev} {c : Nat} (h : look t L = none) : lotsAt t L c = rs0 c := by unfold lotsAt; rw [h]

section
variable {P : Program} {w : World} {K : PySem.W.Frag} {mg : Str → Option Value} {base : Heap} {C_Ratio : Addr} {C_Plan : Addr} {C_End : Addr} {C_Lot : Addr} {C_Turn : Addr}
theorem ok_are_lots {f : Addr} {fd : FuncData} (D : C8.Def K mg "are_lots" s_are_lots f fd) (b : Binds K fd ["ratios"] []) (T : Txt K mg C_Ratio C_Plan C_End C_Lot C_Turn) (c_common : C8.Cal P w K mg base 1 "common" (sp_common K C_Ratio) []) : C8.Cal P w K mg base 2 "are_lots" (sp_are_lots C_Ratio) [] := by
  refine cal0 D b .nil sc_are_lots (fun vs H Q E h => ?_) (fun cdv A outer s H vs Q E hr h => ?_)
  · obtain ⟨a, rs, rfl, _⟩ := h
    rfl
  · obtain ⟨a, rs, rfl, ⟨vs, ha, hrl⟩, hok, k⟩ := h
    refine ⟨_, (pss_cons (ps_asg (pe_c c_common hr (by first | exact Nat.le_refl _ | decide | omega) rfl (pa_cons (pv 0) pa_nil)) (pg_tup (by rfl) (pgs_cons (pg_name (i := 1) sc_are_lots.nd rfl (by first | exact Or.inl rfl | exact Or.inr rfl)) (pgs_cons (pg_name (i := 2) sc_are_lots.nd rfl (by first | exact Or.inl rfl | exact Or.inr rfl)) pgs_nil))))
(pss_one (ps_ret (pe_and (pe_cmpR op_eq (pe_callB (cr_sum rfl) (by rfl) T.n_sum bo_sum (pa_cons (pv 1) pa_nil)) (pv 2) (nomark _)) (pe_one (pe_callB (cr_all rfl) (by rfl) T.n_all bo_all (pa_cons (pe_lc (own := [("weight", 3)]) (g := gName 3) (tt := tYes) rfl sc_are_lots.nd (pi_list (pv 1)) (blkOk_by (N := ["ratios", "weights", "den", "weight"]) (sc := fnScope s_are_lots) (by decide +kernel)) (fun _ _ _ _ _ => pg_name (i := 3) sc_are_lots.nd rfl (by first | exact Or.inl rfl | exact Or.inr rfl)) (fun _ _ _ _ _ => pts_nil) (fun _ _ _ _ _ => (pe_cmpR op_ge (pv 3) pe_int (nomark _)))) pa_nil))))))), ?_⟩
    obtain ⟨ps, rfl, hpl, hpr⟩ := hrl.refs
    obtain ⟨B, hB0, hB, hBr⟩ := hok.B
    refine ⟨_, rfl, a, ps, rs, B, rfl, SqL.of ha, hpl, hpr, hBr, hB0, hB, hok.len, fun l t H1 nl K1 hl ht => ?_⟩
    refine ⟨t, _, rfl, SqT.of ht, rfl, _, _, rfl, _, _, rfl, rfl, ?_⟩
    refine ⟨_, rfl, l, _, rfl, SqL.of hl, _, rfl, rfl, _, rfl, ?_⟩
    rw [hok.sum]
    refine iteDT rfl ⟨_, rfl, l, rfl, ⟨_, SqL.of hl⟩, fun D nD => ?_⟩
    have hcl : (comN rs).length = rs.length := by unfold comN; rw [List.length_map]
    refine lc_list (K := K) (a := l) (xs := (comN rs).map V.int) (fun i H' => H' D = some (.lst ((List.replicate i true).map V.bl)) ∧ Keep [] H1 H') ⟨upd_same, Keep.new nD⟩ (fun i H' _ ⟨_, kk⟩ => SqL.of (kk _ _ hl (by simp))) ?_ ?_
    · rintro i x H' hx ⟨hD, kk⟩
      obtain ⟨z, hz, rfl⟩ := ints_get hx
      have h0 := hok.nn z (List.mem_of_getElem? hz)
      have hi := (List.getElem?_eq_some_iff.mp hx).1
      rw [List.length_map, hcl] at hi
      refine ⟨rfl, yes_then ⟨_, rfl, _, _, rfl, rfl, _, hD, smallL (by have := hok.len; simp; omega), ?_, kk.then_own nD⟩⟩
      rw [List.replicate_succ', List.map_append]
      show upd H' D (.lst (_ ++ [V.bl (decide (0 ≤ z))])) D = _
      rw [decide_eq_true h0]; exact upd_same
    · rintro H' ⟨hD, kk⟩
      refine ⟨D, _, rfl, SqL.of hD, ?_⟩
      rw [show (List.replicate ((comN rs).map V.int).length true).all id = true by rw [List.all_replicate]; simp]
      exact k _ (K1.trans kk)
theorem ok_plan {f : Addr} {fd : FuncData} (M : Mk K C_Plan f) (F : C8.Fun K "__init__" "Plan.__init__" s_Plan___init f fd) (b : Binds K fd ["self", "entries"] []) (T : Txt K mg C_Ratio C_Plan C_End C_Lot C_Turn) (c_are_lots : C8.Cal P w K mg base 2 "are_lots" (sp_are_lots C_Ratio) []) : C8.Mak P w K mg base 3 "Plan" C_Plan (sp_plan P w C_Plan C_Ratio) [] := by
  refine mak0 M T.m_Plan F b .nil sc_Plan___init (fun vs H Q E h => ?_) (fun cdv A outer s H vs Q E hr h => ?_)
  · obtain ⟨x, dx, a, es, t, rfl, _⟩ := h
    rfl
  · obtain ⟨x, dx, a, es, t, rfl, hx, ha, hg, hok, hnd, hlen, k⟩ := h
    refine ⟨_, (pss_cons (ps_fld (pv 0) (pe_nnew (P := P) (w := w)) rfl)
(pss_one (ps_for PassesOwn.never rfl (pi_enum (by rfl) T.n_enumerate (pa_cons (pv 1) pa_nil)) (pg_tup (by rfl) (pgs_cons (pg_name (i := 2) sc_Plan___init.nd rfl (by first | exact Or.inl rfl | exact Or.inr rfl)) (pgs_cons (pg_name (i := 3) sc_Plan___init.nd rfl (by first | exact Or.inl rfl | exact Or.inr rfl)) pgs_nil)))
  (pss_cons (ps_asg (pv 3) (pg_tup (by rfl) (pgs_cons (pg_name (i := 4) sc_Plan___init.nd rfl (by first | exact Or.inl rfl | exact Or.inr rfl)) (pgs_cons (pg_name (i := 5) sc_Plan___init.nd rfl (by first | exact Or.inl rfl | exact Or.inr rfl)) pgs_nil))))
  (pss_cons (ps_if (PW.pt (pw_or (pt_cmp (pc_nin (P := P) (w := w) (un65 hr) (pv 4) (pe_fld (pv 0) rfl))) (pw_or (pt_not (pt_truth (pv 5) (by intro _; rfl))) (pw_or1 (pt_not (pt_val (pe_c c_are_lots hr (by first | exact Nat.le_refl _ | decide | omega) rfl (pa_cons (pv 5) pa_nil))))))))
    (pss_one ps_never)
    pss_nil)
  (pss_one (ps_nput (P := P) (w := w) (un65 hr) (pe_fld (pv 0) rfl) (pv 4) (pe_callTy call_list_of (by rfl) T.n_list bo_list (pa_cons (pv 5) pa_nil)) (by rfl)))))))), ?_⟩
    refine fun d nd => ?_
    have k0 : Keep [] H (upd H d (ndO P w d [])) := Keep.new nd
    have hx0 := k0 _ _ hx (by simp)
    refine ⟨_, rfl, x, C_Plan, dx, [], rfl, hx0, T.cl_Plan, T.a_Plan_table, by show 0 < 1000; decide, ?_⟩
    have nxd : x ≠ d := ne_of_none hx nd
    have k1 : Keep [x] H (upd (upd H d (ndO P w d [])) x (.ins C_Plan dx [("table", .ref d)])) := (k0.mono (by simp)).then_at (by simp)
    have hx1 : upd (upd H d (ndO P w d [])) x (.ins C_Plan dx [("table", .ref d)]) x = some (.ins C_Plan dx [("table", .ref d)]) := upd_same
    have hd1 : upd (upd H d (ndO P w d [])) x (.ins C_Plan dx [("table", .ref d)]) d = some (ndO P w d []) := by rw [upd_ne nxd.symm]; exact upd_same
    have hxl : ∀ {b : Addr} {ys : List V}, H b = some (.lst ys) → b ≠ x := fun h => ne_of h hx (by intro z; cases z)
    have ha1 := k1 _ _ ha (by simpa using hxl ha)
    refine ⟨_, rfl, a, es, rfl, SqL.of ha1, for_it walk_enum (fun i σ H' => ∃ xs o2 o3 o4 o5, σ = [some (.ref x), some (.ref a), o2, o3, o4, o5] ∧ H' x = some (.ins C_Plan dx [("table", .ref d)]) ∧ H' d = some (ndO P w d xs) ∧ PE C_Ratio H' xs (t.take i) ∧ Keep [x] H H') ⟨[], _, _, _, _, rfl, hx1, hd1, .nil, k1⟩ (fun i σ H' _ ⟨_, _, _, _, _, _, _, _, _, kk⟩ => SqL.of (kk _ _ ha (by simpa using hxl ha))) ?_ ?_⟩
    · rintro i v σ H2 H3 hi ⟨xs, o2, o3, o4, o5, rfl, hx2, hd2, hpe, k2⟩ ⟨T1, y1, y2, rfl, nT, rfl, hy1, hy2⟩
      obtain ⟨q, l, vw, L, rs, rfl, hti, hq, hvw, ⟨ys, hl, hrl⟩⟩ := hg.get hy2
      obtain rfl : V.int ((i : Nat) : Int) = y1 := Option.some.inj hy1
      have kT := Keep.new (W := []) (o := .tup [.int (i : Nat), .ref q]) nT
      have hT : upd H2 T1 (.tup [.int (i : Nat), .ref q]) T1 = some (.tup [.int (i : Nat), .ref q]) := upd_same
      generalize upd H2 T1 (.tup [.int (i : Nat), .ref q]) = H3 at *
      have k3 := k2.trans (kT.mono (by simp))
      have nq : q ≠ x := ne_of hq hx (by intro z; cases z)
      have hq3 := k3 _ _ hq (by simpa using nq)
      have hl3 := k3 _ _ hl (by simpa using hxl hl)
      have hx3 := kT _ _ hx2 (by simp)
      have hd3 := kT _ _ hd2 (by simp)
      have tk3 : TK H H3 := fun b zs hb => k3 _ _ hb (by simpa using (show b ≠ x from ne_of hb hx (by intro z; cases z)))
      have hvw3 := hvw.tk tk3
      have hpe3 := hpe.keep (KI.of kT) fun b zs hb => kT _ _ hb (by simp)
      refine ⟨T1, _, rfl, SqT.of hT, rfl, _, _, rfl, _, _, rfl, rfl, ?_⟩
      refine ⟨_, rfl, q, _, rfl, SqT.of hq3, rfl, _, _, rfl, _, _, rfl, rfl, ?_⟩
      obtain ⟨bb, vxs, rfl, hbb, hvv, hvl⟩ := td_grow hvw3
      have hnd3 : NDat P w H3 d xs := ⟨.inl hd3, hpe3.nk⟩
      have hnone : valN xs (keyV L) = none := by
        rcases hpe3.look L with ⟨rs', l', h1, h2, _⟩ | ⟨_, h2⟩
        · exfalso
          unfold look at h1
          obtain ⟨e, he, _⟩ := Option.map_eq_some_iff.mp h1
          have hm := List.mem_of_find?_eq_some he
          have hL := List.find?_some he
          obtain ⟨j, hj⟩ := List.getElem?_of_mem hm
          have hjt : j < i ∧ t[j]? = some e := by
            have := (List.getElem?_eq_some_iff.mp hj).1
            rw [List.length_take] at this
            refine ⟨by omega, ?_⟩
            rw [List.getElem?_take_of_lt (by omega)] at hj; exact hj
          have e1 : (t.map (·.1))[j]? = some L := by rw [List.getElem?_map, hjt.2]; exact congrArg some (of_decide_eq_true hL)
          have e2 : (t.map (·.1))[i]? = some L := by rw [List.getElem?_map, hti]; rfl
          have := (List.getElem?_inj (by have := (List.getElem?_eq_some_iff.mp e1).1; exact this) hnd).mp (e1.trans e2.symm)
          omega
        · exact h2
      have hlo := hok (L, rs) (List.mem_of_getElem? hti)
      have hrl3 : RL C_Ratio H3 ys rs := hrl.keepx k3 hx
      have hne : ys ≠ [] := fun z => hlo.ne (by have := hrl.len; rw [z] at this; exact List.length_eq_zero_iff.mp this.symm)
      refine ⟨_, rfl, _, rfl, x, C_Plan, dx, _, _, rfl, hx3, T.cl_Plan, T.a_Plan_table, rfl, d, _, rfl, ⟨xs, keyV L, bb, hnd3, rfl, nk_view hvw3, depth_kv _, rfl⟩, _, rfl, ?_⟩
      rw [hnone]
      refine iteF ⟨_, rfl, true, ?_, iteF ⟨_, rfl, l, rs, rfl, ⟨ys, hl3, hrl3⟩, hlo, fun H4 k4 => ⟨_, rfl, iteF ?_⟩⟩⟩
      · refine .inl ⟨ys, SqL.of hl3, ?_⟩
        cases ys with
        | nil => exact absurd rfl hne
        | cons _ _ => rfl
      have hl4 := k4 _ _ hl3 (by simp)
      refine ⟨_, rfl, l, ys, rfl, .inl (SqL.of hl4), fun l2 nl2 => ?_⟩
      have k5 := k4.trans (Keep.new (W := []) (o := .lst ys) nl2)
      have hl5 : upd H4 l2 (.lst ys) l2 = some (.lst ys) := upd_same
      have nl23 : H3 l2 = none := k4.free nl2
      generalize upd H4 l2 (.lst ys) = H5 at *
      have hx5 := k5 _ _ hx3 (by simp)
      have hd5 := k5 _ _ hd3 (by simp)
      have hv5 := hvw3.tk k5.tk
      have hpe5 := hpe3.keep (KI.of k5) fun b zs hb => k5 _ _ hb (by simp)
      have hrl5 := hrl3.keep (KI.of k5)
      have hpl := hpe5.len
      rw [List.length_take] at hpl
      refine ⟨_, rfl, x, C_Plan, dx, _, _, rfl, hx5, T.cl_Plan, T.a_Plan_table, rfl, _, rfl, d, _, rfl, ⟨xs, keyV L, bb, ⟨.inl hd5, hpe5.nk⟩, hd5, rfl, nk_view hv5, depth_kv _, smallL (by omega), rfl⟩, ?_⟩
      have kd : Keep [d] H5 (upd H5 d (ndO P w d (putN xs (keyV L) bb (.ref l2)))) := Keep.at_ (by simp)
      have ki := KI.at_ hd5 kd (fun _ z => nomatch z) (fun _ _ _ z => nomatch z)
      have kl : ∀ b zs, H5 b = some (.lst zs) → upd H5 d (ndO P w d (putN xs (keyV L) bb (.ref l2))) b = some (.lst zs) := fun b zs hb => by
        rw [upd_ne (ne_of hb hd5 (by intro z; cases z))]; exact hb
      refine ⟨putN xs (keyV L) bb (.ref l2), _, _, _, _, rfl, ki.2 _ _ _ _ hx5, upd_same, ?_, ?_⟩
      · have et : t.take (i + 1) = t.take i ++ [(L, rs)] := by
          obtain ⟨hil, hie⟩ := List.getElem?_eq_some_iff.mp hti
          rw [List.take_succ_eq_append_getElem hil, hie]
        rw [et, putN_new hnone]
        rw [putN_new hnone] at ki kl
        exact (hpe5.keep ki kl).snoc (hv5.tk ki.tk) ⟨ys, kl _ _ hl5, hrl5.keep ki⟩
      · intro b o hb hbx
        have hbd : b ≠ d := ne_of_none hb nd
        rw [upd_ne hbd]
        exact k5 _ _ (k3 _ _ hb hbx) (by simp)
    · rintro σ H2 ⟨xs, o2, o3, o4, o5, rfl, hx2, hd2, hpe, k2⟩
      rw [hg.len, List.take_length] at hpe
      exact k _ ⟨dx, d, xs, hx2, hd2, hpe⟩ k2
end

/-! weights -/
def wr (ws : List Nat) : List Rt := ws.map fun (w : Nat) => (redN (w : Int) (ws.sum : Int), redD (w : Int) (ws.sum : Int))
structure WOk (ws : List Nat) : Prop where
  pos : 0 < ws.sum
  small : ∀ w ∈ ws, w ≤ 10
  len : ws.length ≤ 150
theorem sum_le {n : Nat} : ∀ {ws : List Nat}, (∀ w ∈ ws, w ≤ n) → ws.sum ≤ ws.length * n
  | [], _ => Nat.zero_le _
  | w :: ws, h => by
    have h1 := h w (List.mem_cons_self ..)
    have h2 := sum_le fun x hx => h x (List.mem_cons_of_mem _ hx)
    rw [List.sum_cons, List.length_cons, Nat.add_mul, Nat.one_mul]
    omega
theorem WOk.le {ws : List Nat} (h : WOk ws) : ws.sum ≤ 1500 := by
  have h1 := sum_le h.small
  have h2 := h.len
  omega
theorem sum_cast : ∀ ws : List Nat, (ws.map fun (w : Nat) => (w : Int)).sum = ((ws.sum : Nat) : Int)
  | [] => rfl
  | w :: ws => by rw [List.map_cons, List.sum_cons, List.sum_cons, sum_cast ws]; push_cast; rfl
theorem scaled {W D : Int} {f : Nat → Int} (hf : ∀ w, f w * W = w * D) : ∀ ws : List Nat, (ws.map f).sum * W = ((ws.sum : Nat) : Int) * D
  | [] => by simp
  | w :: ws => by
    rw [List.map_cons, List.sum_cons, List.sum_cons, Int.add_mul, scaled hf ws, hf w]
    push_cast
    rw [Int.add_mul]
theorem wr_lots {ws : List Nat} (h : WOk ws) : LotsOk (wr ws) := by
  have hp := h.pos
  have hW : (0 : Int) < (ws.sum : Nat) := by omega
  have hle := h.le
  have big : (1500 : Nat) < 2 ^ 300 := by decide
  have hdv : ∀ r ∈ wr ws, r.2 ∣ ((ws.sum : Nat) : Int) := fun r hr => by
    obtain ⟨w, _, rfl⟩ := List.mem_map.mp hr
    exact red_dvd (by omega)
  have hD : comD (wr ws) ∣ ws.sum := comD_of fun r hr => by
    have := hdv r hr
    rw [← Int.natAbs_dvd_natAbs] at this
    simpa using this
  have hD0 : 0 < comD (wr ws) := Nat.pos_of_dvd_of_pos hD hp
  have term : ∀ w : Nat, w ∈ ws → redN (w : Int) (ws.sum : Nat) * ((comD (wr ws) : Nat) : Int).fdiv (redD (w : Int) (ws.sum : Nat)) * ((ws.sum : Nat) : Int) = (w : Int) * ((comD (wr ws) : Nat) : Int) := fun w hw => by
    have hr : (redN (w : Int) (ws.sum : Nat), redD (w : Int) (ws.sum : Nat)) ∈ wr ws := List.mem_map.mpr ⟨w, hw, rfl⟩
    have h1 : (redD (w : Int) (ws.sum : Nat)).natAbs ∣ comD (wr ws) := comD_mem hr
    have h2 : redD (w : Int) (ws.sum : Nat) ∣ ((comD (wr ws) : Nat) : Int) := by
      rw [← Int.natAbs_dvd_natAbs]; simpa using h1
    obtain ⟨q, hq⟩ := h2
    have hne : redD (w : Int) (ws.sum : Nat) ≠ 0 := by have := redD_pos (n := (w : Int)) (d := (ws.sum : Nat)) (by omega); omega
    rw [fdiv_of_mul hne hq]
    have hc := red_cross (n := (w : Int)) (d := (ws.sum : Nat)) (by omega)
    rw [hq]
    calc redN (w : Int) (ws.sum : Nat) * q * ((ws.sum : Nat) : Int) = (redN (w : Int) (ws.sum : Nat) * ((ws.sum : Nat) : Int)) * q := by rw [Int.mul_assoc, Int.mul_comm q, ← Int.mul_assoc]
      _ = ((w : Int) * redD (w : Int) (ws.sum : Nat)) * q := by rw [hc]
      _ = (w : Int) * (redD (w : Int) (ws.sum : Nat) * q) := Int.mul_assoc ..
  have eN : comN (wr ws) = ws.map fun (w : Nat) => redN (w : Int) (ws.sum : Nat) * ((comD (wr ws) : Nat) : Int).fdiv (redD (w : Int) (ws.sum : Nat)) := by
    show (ws.map _).map _ = _
    rw [List.map_map]; rfl
  have all : ∀ us : List Nat, (∀ u ∈ us, u ∈ ws) → (us.map fun (w : Nat) => redN (w : Int) (ws.sum : Nat) * ((comD (wr ws) : Nat) : Int).fdiv (redD (w : Int) (ws.sum : Nat))).sum * ((ws.sum : Nat) : Int) = ((us.sum : Nat) : Int) * ((comD (wr ws) : Nat) : Int) := by
    intro us
    induction us with
    | nil => intro _; simp
    | cons u us ih =>
      intro hu
      rw [List.map_cons, List.sum_cons, List.sum_cons, Int.add_mul, ih fun x hx => hu x (List.mem_cons_of_mem _ hx), term u (hu u (List.mem_cons_self ..))]
      push_cast
      rw [Int.add_mul]
  refine ⟨⟨ws.sum, hp, ?_, fun r hr => ?_⟩, ?_, fun n hn => ?_, fun z => ?_, ?_⟩
  · exact Nat.lt_of_le_of_lt hle (by decide)
  · obtain ⟨w, hw, rfl⟩ := List.mem_map.mp hr
    refine ⟨redD_pos (by omega), ?_, ?_⟩
    · have := hdv _ hr
      rw [← Int.natAbs_dvd_natAbs] at this
      simpa using this
    · have := red_abs_n (n := (w : Int)) (d := (ws.sum : Nat)) (by omega)
      have := h.small w hw
      show (redN (w : Int) (ws.sum : Nat)).natAbs < 2 ^ 300
      omega
  · have := all ws (fun _ h => h)
    rw [eN]
    have h2 : (ws.map fun (w : Nat) => redN (w : Int) (ws.sum : Nat) * ((comD (wr ws) : Nat) : Int).fdiv (redD (w : Int) (ws.sum : Nat))).sum * ((ws.sum : Nat) : Int) = ((comD (wr ws) : Nat) : Int) * ((ws.sum : Nat) : Int) := by rw [this, Int.mul_comm]
    exact Int.eq_of_mul_eq_mul_right (by omega) h2
  · rw [eN] at hn
    obtain ⟨w, hw, rfl⟩ := List.mem_map.mp hn
    have ht := term w hw
    have h0 : (0 : Int) ≤ (w : Int) * ((comD (wr ws) : Nat) : Int) := Int.mul_nonneg (by omega) (by omega)
    rw [← ht] at h0
    rcases Int.lt_or_le (redN (w : Int) (ws.sum : Nat) * ((comD (wr ws) : Nat) : Int).fdiv (redD (w : Int) (ws.sum : Nat))) 0 with z | z
    · have := Int.mul_neg_of_neg_of_pos z hW
      omega
    · exact z
  · have : ws.length = 0 := by
      have := congrArg List.length z
      unfold wr at this
      simpa using this
    rw [List.length_eq_zero_iff.mp this] at hp
    cases hp
  · unfold wr
    rw [List.length_map]
    have := h.len
    omega
theorem wr_rt {ws : List Nat} (h : WOk ws) : ∀ r ∈ wr ws, RtOk r := fun r hr => by
  have hp := h.pos
  have hle := h.le
  have big : (1500 : Nat) < 2 ^ 300 := by decide
  obtain ⟨w, hw, rfl⟩ := List.mem_map.mp hr
  refine ⟨redD_pos (by omega), red_gcd (by omega), ?_, ?_⟩
  · have := red_abs_n (n := (w : Int)) (d := (ws.sum : Nat)) (by omega)
    have := h.small w hw
    show (redN (w : Int) (ws.sum : Nat)).natAbs < 2 ^ 300
    omega
  · have h1 := red_dvd (n := (w : Int)) (d := (ws.sum : Nat)) (by omega)
    rw [← Int.natAbs_dvd_natAbs] at h1
    have := Nat.le_of_dvd (by simpa using hp) h1
    show (redD (w : Int) (ws.sum : Nat)).natAbs < 2 ^ 300
    have e : (((ws.sum : Nat) : Int)).natAbs = ws.sum := Int.natAbs_natCast _
    omega
theorem rs0_rt (c : Nat) : ∀ r ∈ rs0 c, RtOk r := fun r hr => by
  obtain ⟨k, _, rfl⟩ := List.mem_map.mp hr
  by_cases h : k = 0
  · rw [if_pos h]; exact ⟨by decide, by decide, by decide, by decide⟩
  · rw [if_neg h]; exact ⟨by decide, by decide, by decide, by decide⟩
abbrev WE := List Ev × List Nat
inductive WL (N : Addr → Prop) (H : Hp) : List V → List WE → Prop
  | nil : WL N H [] []
  | cons {q l : Addr} {vw : V} {vs : List V} {t : List WE} {L : List Ev} {ws : List Nat} : H q = some (.tup [vw, .ref l]) → TD H vw (dView L) → H l = some (.lst (ws.map nat)) → N l → WL N H vs t → WL N H (.ref q :: vs) ((L, ws) :: t)
theorem WL.keep {N : Addr → Prop} {H H' : Hp} (tk : TK H H') (kl : ∀ b ys, N b → H b = some (.lst ys) → H' b = some (.lst ys)) {vs : List V} {t : List WE} (h : WL N H vs t) : WL N H' vs t := by
  induction h with
  | nil => exact .nil
  | cons a b c n _ ih => exact .cons (tk _ _ a) (b.tk tk) (kl _ _ n c) n ih
theorem WL.keep0 {N : Addr → Prop} {H H' : Hp} (k : Keep [] H H') {vs : List V} {t : List WE} (h : WL N H vs t) : WL N H' vs t := h.keep k.tk fun b ys _ hb => k _ _ hb (by simp)
theorem WL.mono {N M : Addr → Prop} {H : Hp} (f : ∀ b ys, H b = some (.lst ys) → N b → M b) {vs : List V} {t : List WE} (h : WL N H vs t) : WL M H vs t := by
  induction h with
  | nil => exact .nil
  | cons a b c n _ ih => exact .cons a b c (f _ _ c n) ih
theorem WL.len {N : Addr → Prop} {H : Hp} {vs : List V} {t : List WE} (h : WL N H vs t) : vs.length = t.length := by
  induction h with
  | nil => rfl
  | cons _ _ _ _ _ ih => rw [List.length_cons, List.length_cons, ih]
theorem WL.snoc {N : Addr → Prop} {H : Hp} {vs : List V} {t : List WE} {q l : Addr} {vw : V} {L : List Ev} {ws : List Nat} (h : WL N H vs t) (hq : H q = some (.tup [vw, .ref l])) (hv : TD H vw (dView L)) (hl : H l = some (.lst (ws.map nat))) (n : N l) : WL N H (vs ++ [.ref q]) (t ++ [(L, ws)]) := by
  induction h with
  | nil => exact .cons hq hv hl n .nil
  | cons a b c m _ ih => exact .cons a b c m ih
theorem WL.get {N : Addr → Prop} {H : Hp} {vs : List V} {t : List WE} (h : WL N H vs t) : ∀ {i : Nat} {v : V}, vs[i]? = some v → ∃ q l vw L ws, v = .ref q ∧ t[i]? = some (L, ws) ∧ H q = some (.tup [vw, .ref l]) ∧ TD H vw (dView L) ∧ H l = some (.lst (ws.map nat)) ∧ N l := by
  induction h with
  | nil => intro i v e; simp at e
  | @cons q l vw vs t L ws a b c n _ ih =>
    intro i v e
    cases i with
    | zero => simp at e; subst e; exact ⟨q, l, vw, L, ws, rfl, rfl, a, b, c, n⟩
    | succ j => simp at e; obtain ⟨q', l', vw', L', ws', e1, e2, e3, e4, e5⟩ := ih e; exact ⟨q', l', vw', L', ws', e1, by simpa using e2, e3, e4, e5⟩
inductive GN (C : Addr) (N : Addr → Prop) (H : Hp) : List V → List Ent2 → Prop
  | nil : GN C N H [] []
  | cons {q l : Addr} {vw : V} {vs : List V} {t : List Ent2} {L : List Ev} {rs : List Rt} : H q = some (.tup [vw, .ref l]) → TD H vw (dView L) → LA C H l rs → N l → GN C N H vs t → GN C N H (.ref q :: vs) ((L, rs) :: t)
theorem GN.keep {C : Addr} {N : Addr → Prop} {H H' : Hp} (k : KI H H') (kl : ∀ b ys, N b → H b = some (.lst ys) → H' b = some (.lst ys)) {vs : List V} {t : List Ent2} (h : GN C N H vs t) : GN C N H' vs t := by
  induction h with
  | nil => exact .nil
  | cons hq hv hl n _ ih =>
    obtain ⟨us, h1, h2⟩ := hl
    exact .cons (k.1 _ _ hq) (hv.tk k.tk) ⟨us, kl _ _ n h1, h2.keep k⟩ n ih
theorem GN.gl {C : Addr} {N : Addr → Prop} {H : Hp} {vs : List V} {t : List Ent2} (h : GN C N H vs t) : GL C H vs t := by
  induction h with
  | nil => exact .nil
  | cons a b c _ _ ih => exact .cons a b c ih
theorem GN.len {C : Addr} {N : Addr → Prop} {H : Hp} {vs : List V} {t : List Ent2} (h : GN C N H vs t) : vs.length = t.length := h.gl.len
theorem GN.snoc {C : Addr} {N : Addr → Prop} {H : Hp} {vs : List V} {t : List Ent2} {q l : Addr} {vw : V} {L : List Ev} {rs : List Rt} (h : GN C N H vs t) (hq : H q = some (.tup [vw, .ref l])) (hv : TD H vw (dView L)) (hl : LA C H l rs) (n : N l) : GN C N H (vs ++ [.ref q]) (t ++ [(L, rs)]) := by
  induction h with
  | nil => exact .cons hq hv hl n .nil
  | cons a b c m _ ih => exact .cons a b c m ih
theorem cut_nat (ds : List Nat) (a b : Option Int) : ∃ m n, cutV (ds.map nat) a b = ((ds.drop m).take n).map nat := by
  refine ⟨HT.sIx (ds.map nat).length 0 a, HT.sIx (ds.map nat).length (ds.map nat).length b - HT.sIx (ds.map nat).length 0 a, ?_⟩
  show ((ds.map nat).drop _).take _ = _
  rw [← List.map_drop, ← List.map_take]

def sp_pentries (P : Program) (w : World) (CP CR : Addr) : Sp := fun vs H Q _ => ∃ (x : Addr) (t : List Ent2), vs = [.ref x] ∧ PlanAt P w CP CR H x t ∧ t.length ≤ 1000 ∧ ∀ l gs H', H l = none → H' l = some (.lst gs) → GL CR H' gs t → Keep [] H H' → Q (.ref l) H'
theorem PE.get {C : Addr} {H : Hp} {xs : List Ent} {t : List Ent2} (h : PE C H xs t) : ∀ {i : Nat} {x : Ent}, xs[i]? = some x → ∃ L rs l, t[i]? = some (L, rs) ∧ TD H (.ref x.2.1) (dView L) ∧ x.2.2 = .ref l ∧ LA C H l rs := by
  induction h with
  | nil => intro i x e; simp at e
  | @cons b l xs t L rs hb hl _ ih =>
    intro i x e
    cases i with
    | zero => simp at e; subst e; exact ⟨L, rs, l, rfl, hb, rfl, hl⟩
    | succ j => simp at e; obtain ⟨L', rs', l', e1, e2, e3, e4⟩ := ih e; exact ⟨L', rs', l', by simpa using e1, e2, e3, e4⟩
section
variable {P : Program} {w : World} {K : PySem.W.Frag} {mg : Str → Option Value} {base : Heap} {C_Ratio : Addr} {C_Plan : Addr} {C_End : Addr} {C_Lot : Addr} {C_Turn : Addr}
theorem ok_pentries {f : Addr} {fd : FuncData} (M : Meth K C_Plan "entries" f) (F : C8.Fun K "entries" "Plan.entries" s_Plan_entries f fd) (b : Binds K fd ["self"] []) (T : Txt K mg C_Ratio C_Plan C_End C_Lot C_Turn) : C8.Met P w K mg base 1 C_Plan "entries" (sp_pentries P w C_Plan C_Ratio) [] := by
  refine met0 T.cl_Plan M F b sc_Plan_entries (fun vs H Q E h => ?_) (fun cdv A outer s H vs Q E hr h => ?_)
  · obtain ⟨x, t, rfl, _⟩ := h
    rfl
  · obtain ⟨x, t, rfl, hP, ht, k⟩ := h
    refine ⟨_, (pss_one (ps_ret (pe_lock (pe_lc (own := [("view", 1), ("lots", 2)]) (g := (gTup K 2 (gCons (gName 1) (gCons (gName 2) gNil)))) (tt := tYes) rfl sc_Plan_entries.nd (pi_itemsN (P := P) (w := w) (pe_fldK (K := K) (pv 0) rfl)) (blkOk_by (N := ["self", "view", "lots"]) (sc := fnScope s_Plan_entries) (by decide +kernel)) (fun _ _ _ _ _ => pg_tupK (K := K) (n := 2) (t := (gCons (gName 1) (gCons (gName 2) gNil))) (pgs_cons (pg_name (i := 1) sc_Plan_entries.nd rfl (by first | exact Or.inl rfl | exact Or.inr rfl)) (pgs_cons (pg_name (i := 2) sc_Plan_entries.nd rfl (by first | exact Or.inl rfl | exact Or.inr rfl)) pgs_nil))) (fun _ _ _ _ _ => pts_nil) (fun _ _ _ _ _ => (pe_tup (pa_cons (pv 1) (pa_cons (pe_callTy (call_list_ofK (K := K)) (by rfl) T.n_list bo_list (pa_cons (pv 2) pa_nil)) pa_nil)))))))), ?_⟩
    obtain ⟨dx, d, xs, hx, hd, hpe⟩ := hP
    refine ⟨d, _, hd, trivial, fun od => ?_⟩
    have kd : Keep [d] H (upd H d (.frz od (ndO P w d xs))) := Keep.at_ (by simp)
    have ki := KI.at_ hd kd (fun _ z => nomatch z) (fun _ _ _ z => nomatch z)
    have kl : ∀ b ys, H b = some (.lst ys) → upd H d (.frz od (ndO P w d xs)) b = some (.lst ys) := fun b ys hb => by rw [upd_ne (ne_of hb hd (by intro z; cases z))]; exact hb
    have hpe2 := hpe.keep ki kl
    have hx2 := ki.2 _ _ _ _ hx
    have hd2 : upd H d (.frz od (ndO P w d xs)) d = some (.frz od (ndO P w d xs)) := upd_same
    have back : ∀ b o, H b = some o → b ≠ d → upd H d (.frz od (ndO P w d xs)) b = some o := fun b o hb nb => by rw [upd_ne nb]; exact hb
    generalize upd H d (.frz od (ndO P w d xs)) = H2 at *
    refine ⟨_, rfl, x, C_Plan, dx, _, _, rfl, hx2, T.cl_Plan, T.a_Plan_table, rfl, d, od, xs, rfl, hd2, fun D nD => ?_⟩
    have hpl := hpe.len
    refine lc_it walk_itemsN (fun i H' => ∃ gs, H' D = some (.lst gs) ∧ GN C_Ratio (fun b => b ≠ D) H' gs (t.take i) ∧ Keep [] H2 H') ⟨[], upd_same, .nil, Keep.new nD⟩ (fun i H' _ ⟨_, _, _, kk⟩ => kk _ _ hd2 (by simp)) ?_ ?_
    · rintro i y H3 H4 hi ⟨gs, hgs, hgn, k3⟩ ⟨T1, y1, y2, rfl, nT, rfl, hy1, hy2⟩
      have hxi : xs[i]? = some xs[i] := List.getElem?_eq_getElem hi
      obtain ⟨L, rs, l0, hti, hvw, hyl, ⟨ys, hys, hrl⟩⟩ := hpe2.get hxi
      replace hy1 : (xs[i]?).map (fun x => V.ref x.2.1) = some y1 := hy1
      replace hy2 : (xs[i]?).map (fun x => x.2.2) = some y2 := hy2
      rw [hxi] at hy1 hy2
      have e1 : y1 = .ref xs[i].2.1 := (Option.some.inj hy1).symm
      have e2 : y2 = .ref l0 := by rw [← hyl]; exact (Option.some.inj hy2).symm
      subst e1 e2
      have k4 := Keep.new (W := []) (o := .tup [.ref xs[i].2.1, .ref l0]) nT
      have hys4 := (k3.trans k4) _ _ hys (by simp)
      refine ⟨T1, _, rfl, SqT.of upd_same, rfl, _, _, rfl, _, _, rfl, rfl, rfl, yes_then ⟨_, rfl, _, rfl, l0, ys, rfl, .inl (SqL.of hys4), fun l2 nl2 => And.intro (by show 2 ≤ sizeLine; decide) <| fun q nq => ?_⟩⟩
      have k5 := Keep.new (W := []) (o := .lst ys) nl2
      have k6 := Keep.new (W := []) (o := .tup [.ref xs[i].2.1, .ref l2]) nq
      have k46 := (k4.trans k5).trans k6
      have hgs6 := k46 _ _ hgs (by simp)
      have n2D : l2 ≠ D := (ne_of_none (k4 _ _ hgs (by simp)) nl2).symm
      have ki6 := KI.lst (o := .lst (gs ++ [.ref q])) hgs6
      have hgl := hgn.len
      rw [List.length_take] at hgl
      obtain ⟨hil, hie⟩ := List.getElem?_eq_some_iff.mp hti
      refine ⟨gs, hgs6, smallL (by omega), gs ++ [.ref q], upd_same, ?_, (k3.trans k46).then_own nD⟩
      rw [List.take_succ_eq_append_getElem hil, hie]
      refine ((hgn.keep (KI.of k46) fun b zs _ hb => k46 _ _ hb (by simp)).keep ki6 fun b zs nb hb => by rw [upd_ne nb]; exact hb).snoc (ki6.1 _ _ upd_same) (((hvw.tk k3.tk).tk k46.tk).tk ki6.1) ⟨ys, ?_, ((hrl.keep (KI.of k3)).keep (KI.of k46)).keep ki6⟩ n2D
      rw [upd_ne n2D]
      exact k6 _ _ upd_same (by simp)
    · rintro H3 ⟨gs, hgs, hgn, k3⟩
      have hd3 := k3 _ _ hd2 (by simp)
      refine ⟨hd3, ?_⟩
      have nDd : D ≠ d := (ne_of_none hd2 nD).symm
      have kout : Keep [] H (upd H3 d (ndO P w d xs)) := fun b o hb _ => by
        by_cases e : b = d
        · subst e; rw [upd_same]; rw [hd] at hb; exact hb
        · rw [upd_ne e]; exact k3 _ _ (back b o hb e) (by simp)
      have nDH : H D = none := by
        cases e : H D with
        | none => rfl
        | some o => have := back D o e nDd; rw [nD] at this; cases this
      have kiO : KI H3 (upd H3 d (ndO P w d xs)) := KI.at_ hd3 (Keep.at_ (by simp)) (fun _ z => nomatch z) (fun _ _ _ z => nomatch z)
      have klO : ∀ b ys, H3 b = some (.lst ys) → upd H3 d (ndO P w d xs) b = some (.lst ys) := fun b ys hb => by rw [upd_ne (ne_of hb hd3 (by intro z; cases z))]; exact hb
      rw [hpl, List.take_length] at hgn
      exact k D gs _ nDH (klO _ _ hgs) (hgn.gl.keep kiO klO) kout
end

def sp_ini1 (C : Addr) (f : Str) : Sp := fun vs H Q _ => ∃ x dx v, vs = [.ref x, v] ∧ H x = some (.ins C dx []) ∧ Q .non (upd H x (.ins C dx [(f, v)]))
def sp_ini3 (C : Addr) (f g h : Str) : Sp := fun vs H Q _ => ∃ x dx u v w, vs = [.ref x, u, v, w] ∧ H x = some (.ins C dx []) ∧ Q .non (upd H x (.ins C dx [(f, u), (g, v), (h, w)]))
def sp_collect (P : Program) (w : World) (CE CL CT : Addr) (n : Nat) : Sp := fun vs H Q _ => ∃ (v : V) (tm : TM) (pl : Nat) (d : Addr) (f : List Row), vs = [v, .int pl, .ref d] ∧ TA CE CL CT H tm v ∧ tm.hgt < n ∧ FD P w H d f ∧ f.length + tm.nds ≤ 100000 ∧ ∀ H', FD P w H' d (coll pl tm f) → Keep [d] H H' → Q .non H'
section
variable {P : Program} {w : World} {K : PySem.W.Frag} {mg : Str → Option Value} {base : Heap} {C_Ratio : Addr} {C_Plan : Addr} {C_End : Addr} {C_Lot : Addr} {C_Turn : Addr}
theorem ok_end {f : Addr} {fd : FuncData} (M : Mk K C_End f) (F : C8.Fun K "__init__" "End.__init__" s_End___init f fd) (b : Binds K fd ["self", "paid"] []) (T : Txt K mg C_Ratio C_Plan C_End C_Lot C_Turn) : C8.Mak P w K mg base 1 "End" C_End (sp_ini1 C_End "paid") [] := by
  refine mak0 M T.m_End F b .nil sc_End___init (fun vs H Q E h => ?_) (fun cdv A outer s H vs Q E hr h => ?_)
  · obtain ⟨x, dx, v, rfl, _⟩ := h
    rfl
  · obtain ⟨x, dx, v, rfl, hx, k⟩ := h
    refine ⟨_, (pss_one (ps_fld (pv 0) (pv 1) rfl)), ?_⟩
    exact ⟨_, rfl, _, rfl, x, C_End, dx, [], rfl, hx, T.cl_End, T.a_End_paid, by show 0 < 1000; decide, k⟩
theorem ok_lot {f : Addr} {fd : FuncData} (M : Mk K C_Lot f) (F : C8.Fun K "__init__" "Lot.__init__" s_Lot___init f fd) (b : Binds K fd ["self", "parts"] []) (T : Txt K mg C_Ratio C_Plan C_End C_Lot C_Turn) : C8.Mak P w K mg base 1 "Lot" C_Lot (sp_ini1 C_Lot "parts") [] := by
  refine mak0 M T.m_Lot F b .nil sc_Lot___init (fun vs H Q E h => ?_) (fun cdv A outer s H vs Q E hr h => ?_)
  · obtain ⟨x, dx, v, rfl, _⟩ := h
    rfl
  · obtain ⟨x, dx, v, rfl, hx, k⟩ := h
    refine ⟨_, (pss_one (ps_fld (pv 0) (pv 1) rfl)), ?_⟩
    exact ⟨_, rfl, _, rfl, x, C_Lot, dx, [], rfl, hx, T.cl_Lot, T.a_Lot_parts, by show 0 < 1000; decide, k⟩
theorem ok_turn {f : Addr} {fd : FuncData} (M : Mk K C_Turn f) (F : C8.Fun K "__init__" "Turn.__init__" s_Turn___init f fd) (b : Binds K fd ["self", "player", "view", "parts"] []) (T : Txt K mg C_Ratio C_Plan C_End C_Lot C_Turn) : C8.Mak P w K mg base 1 "Turn" C_Turn (sp_ini3 C_Turn "player" "view" "parts") [] := by
  refine mak0 M T.m_Turn F b .nil sc_Turn___init (fun vs H Q E h => ?_) (fun cdv A outer s H vs Q E hr h => ?_)
  · obtain ⟨x, dx, u, v, w, rfl, _⟩ := h
    rfl
  · obtain ⟨x, dx, u, v, w, rfl, hx, k⟩ := h
    refine ⟨_, (pss_cons (ps_fld (pv 0) (pv 1) rfl)
(pss_cons (ps_fld (pv 0) (pv 2) rfl)
(pss_one (ps_fld (pv 0) (pv 3) rfl)))), ?_⟩
    refine ⟨_, rfl, _, rfl, x, C_Turn, dx, [], rfl, hx, T.cl_Turn, T.a_Turn_player, by show 0 < 1000; decide, ?_⟩
    refine ⟨_, rfl, _, rfl, x, C_Turn, dx, _, rfl, upd_same, T.cl_Turn, T.a_Turn_view, by show 1 < 1000; decide, ?_⟩
    refine ⟨_, rfl, _, rfl, x, C_Turn, dx, _, rfl, upd_same, T.cl_Turn, T.a_Turn_parts, by show 2 < 1000; decide, ?_⟩
    rw [upd_upd, upd_upd]; exact k
theorem tyI {C : Addr} (i : InsC K C) {H : Hp} {p dx : Addr} {fs : List (Str × V)} (h : H p = some (.ins C dx fs)) : TyX K H (.ref p) (.ref C) := .base (.ins h i.cl i.ha i.hn i.htk i.hm)
theorem ok_collect0 {f : Addr} {fd : FuncData} (D : C8.Def K mg "_collect" s_collect f fd) (b : Binds K fd ["tree", "player", "found"] []) : C8.Cal P w K mg base 1 "_collect" (sp_collect P w C_End C_Lot C_Turn 0) [] :=
  ⟨f, fd, ["tree", "player", "found"], [], ⟨fun vs H Q E h => (by obtain ⟨v, tm, pl, d, f, rfl, _⟩ := h; rfl), fun A outer s H args us vs Q E _ _ _ _ h => (by obtain ⟨v, tm, pl, d, f, _, _, z, _⟩ := h; exact absurd z (Nat.not_lt_zero _))⟩, D.mgf, D.kp, b, .nil⟩
theorem ok_collect {f : Addr} {fd : FuncData} (D : C8.Def K mg "_collect" s_collect f fd) (b : Binds K fd ["tree", "player", "found"] []) (T : Txt K mg C_Ratio C_Plan C_End C_Lot C_Turn) {m k : Nat} (c_collect : C8.Cal P w K mg base k "_collect" (sp_collect P w C_End C_Lot C_Turn m) []) : C8.Cal P w K mg base (k + 1) "_collect" (sp_collect P w C_End C_Lot C_Turn (m + 1)) [] := by
  refine cal0 D b .nil sc_collect (fun vs H Q E h => ?_) (fun cdv A outer s H vs Q E hr h => ?_)
  · obtain ⟨v, tm, pl, d, f, rfl, _⟩ := h
    rfl
  · obtain ⟨v, tm, pl, d, f, rfl, hT, hh, hf, hn, k⟩ := h
    refine ⟨_, (pss_cons (ps_if (pt_val (pe_callB call_isi (by rfl) T.n_isinstance bo_isinstance (pa_cons (pv 0) (pa_cons (pe_glob (v := .ref _) rfl T.m_End rfl) pa_nil))))
  (pss_one ps_retN)
  pss_nil)
(pss_cut (ps_if (PW.pt (pw_and (pt_val (pe_callB call_isi (by rfl) T.n_isinstance bo_isinstance (pa_cons (pv 0) (pa_cons (pe_glob (v := .ref _) rfl T.m_Turn rfl) pa_nil)))) (pw_and1 (pt_cmpR op_eq (pe_fld (pv 0) rfl) (pv 1) (nomark _)))))
  (pss_one (ps_if (pt_cmp (pc_nnotin (P := P) (w := w) (un65 hr) (pe_fld (pv 0) rfl) (pv 2)))
    (pss_one (ps_nput (P := P) (w := w) (un65 hr) (pv 2) (pe_fld (pv 0) rfl) (pe_callB call_len_seq (by rfl) T.n_len bo_len (pa_cons (pe_fld (pv 0) rfl) pa_nil)) (by rfl)))
    pss_nil))
  pss_nil)
(pss_one (ps_for PassesOwn.never rfl (pi_tup (pe_fld (pv 0) rfl)) (pg_name (i := 3) sc_collect.nd rfl (by first | exact Or.inl rfl | exact Or.inr rfl))
  (pss_one (ps_expr (pe_c c_collect hr (by first | exact Nat.le_refl _ | decide | omega) rfl (pa_cons (pv 3) (pa_cons (pv 1) (pa_cons (pv 2) pa_nil)))))))))), ?_⟩
    rcases hT.form with ⟨rfl, p, dx, z, rfl, hp⟩ | ⟨C, p, dx, t, fs, vs, ps, rfl, hp, hpa, ht, hs, hlt, hnd, hC⟩
    · exact ⟨_, rfl, _, _, _, _, _, rfl, .own _, tyI T.i_End hp, T.i_End.me, _, rfl, iteT (k _ hf (Keep.refl _ _))⟩
    obtain ⟨cl, na, ki, ty⟩ : Cls K C ∧ NoAttr K C "parts" ∧ PySem.W.kitOne K (.ref C) (.ref C_End) = some false ∧ TyX K H (.ref p) (.ref C) := by
      rcases hC with ⟨rfl, _⟩ | ⟨rfl, _⟩
      · exact ⟨T.cl_Lot, T.a_Lot_parts, T.kLE, tyI T.i_Lot hp⟩
      · exact ⟨T.cl_Turn, T.a_Turn_parts, T.kTE, tyI T.i_Turn hp⟩
    refine ⟨_, rfl, _, _, _, _, _, rfl, .own _, ty, ki, _, rfl, iteF ?_⟩
    refine ⟨fun σ H' => ∃ f1, σ = [some (.ref p), some (.int pl), some (.ref d), none] ∧ coll pl tm f = colls pl ps f1 ∧ FD P w H' d f1 ∧ Keep [d] H H' ∧ f1.length + TM.ndss ps ≤ 100000, ?_, ?_⟩
    · rcases hC with ⟨rfl, rfl⟩ | ⟨rfl, q, es, wv, rfl, hq, hvw, htd⟩
      · refine ⟨_, rfl, _, _, _, _, _, rfl, .own _, ty, T.kLT, _, rfl, ?_⟩
        refine iteF ⟨f, rfl, rfl, hf, Keep.refl _ _, by omega⟩
      · refine ⟨_, rfl, _, _, _, _, _, rfl, .own _, ty, T.i_Turn.me, _, rfl, ?_⟩
        refine iteT ⟨_, rfl, p, C, dx, _, _, rfl, hp, T.cl_Turn, T.a_Turn_player, hq, _, rfl, rfl, _, rfl, ?_⟩
        obtain ⟨a, xs, rfl, ha, hxs, hxl⟩ := td_grow htd
        obtain ⟨ens, he, hfe⟩ := id hf
        have hnk : NDat P w H d ens := ⟨.inl he, hfe.nk⟩
        refine iteD (fun e => ?_) (fun e => ?_)
        · have e' : q = pl := by have := V.int.inj e; omega
          refine ⟨_, rfl, p, C, dx, _, _, rfl, hp, T.cl_Turn, T.a_Turn_view, hvw, _, rfl, d, _, rfl, ⟨ens, _, _, hnk, rfl, nk_view htd, depth_kv _, rfl⟩, _, rfl, ?_⟩
          rw [hfe.val]
          have hcoll : coll pl (.turn q es ps) f = colls pl ps (insV f (es, (ps.length : Int))) := by
            show colls pl ps (if q = pl then insV f (es, (ps.length : Int)) else f) = _
            rw [if_pos e']
          cases hany : f.any (fun x => decide (x.1 = es)) with
          | true =>
            refine iteF ⟨f, rfl, ?_, hf, Keep.refl _ _, by omega⟩
            rw [hcoll]; unfold insV; rw [if_pos hany]
          | false =>
            have hnone : valN ens (keyV es) = none := by
              have := hfe.val es
              rw [hany] at this
              cases z : valN ens (keyV es) with
              | none => rfl
              | some v => rw [z] at this; cases this
            have hel := hfe.len
            have hvl := hs.len
            have hnl : ps.length ≤ TM.ndss ps := ndss_len ps
            have kd : Keep [d] H (upd H d (ndO P w d (putN ens (keyV es) a (.int (vs.length : Int))))) := Keep.at_ (by simp)
            refine iteT ⟨_, rfl, p, C, dx, _, _, rfl, hp, T.cl_Turn, T.a_Turn_parts, hpa, t, vs, rfl, .inr (SqT.of ht), _, rfl, _, rfl, p, C, dx, _, _, rfl, hp, T.cl_Turn, T.a_Turn_view, hvw, d, _, rfl, ⟨ens, keyV es, a, hnk, he, rfl, nk_view htd, depth_kv _, smallL (by omega), rfl⟩, ?_⟩
            refine ⟨f ++ [(es, (ps.length : Int))], rfl, ?_, ⟨_, upd_same, ?_⟩, kd, ?_⟩
            · rw [hcoll]; unfold insV; rw [hany]; rfl
            · rw [putN_new hnone, hvl]
              have tk : TK H (upd H d (ndO P w d (putN ens (keyV es) a (.int (vs.length : Int))))) := (hf.ki kd).tk
              rw [putN_new hnone, hvl] at tk
              exact (hfe.tk tk).snoc (r := (es, (ps.length : Int))) (htd.tk tk)
            · rw [List.length_append]; simp only [List.length_cons, List.length_nil]; omega
        · have e' : ¬ q = pl := fun z => e (by rw [z])
          refine ⟨f, rfl, ?_, hf, Keep.refl _ _, by omega⟩
          show colls pl ps (if q = pl then insV f (es, (ps.length : Int)) else f) = _
          rw [if_neg e']
    · rintro σ H1 ⟨f1, rfl, ec, hf1, k1, hn1⟩
      have ki1 := hf.ki k1
      have hp1 := ki1.2 _ _ _ _ hp
      have ht1 := ki1.1 _ _ ht
      refine ⟨_, rfl, p, C, dx, _, _, rfl, hp1, cl, na, hpa, t, rfl, ⟨_, SqT.of ht1⟩, for_tup (K := K) (a := t) (xs := vs) (fun i σ H' => ∃ o4, σ = [some (.ref p), some (.int pl), some (.ref d), o4] ∧ FD P w H' d (colls pl (ps.take i) f1) ∧ Keep [d] H H') ⟨none, rfl, hf1, k1⟩ ?_ ?_ ?_⟩
      · rintro i σ H' _ ⟨o4, rfl, hf2, k2⟩
        exact SqT.of ((hf.ki k2).1 _ _ ht)
      · rintro i x σ H' hx ⟨o4, rfl, hf2, k2⟩
        obtain ⟨m1, hm1, hTA⟩ := hs.get hx
        have h1 := hgts_get hm1
        have h2 := ndss_take ps hm1
        have h3 := colls_len pl (ps.take i) f1
        have him := (List.getElem?_eq_some_iff.mp hm1)
        obtain ⟨hil, hie⟩ := him
        have et : colls pl (ps.take (i + 1)) f1 = coll pl m1 (colls pl (ps.take i) f1) := by
          rw [List.take_succ_eq_append_getElem hil, hie, colls_app]; rfl
        refine ⟨_, rfl, _, rfl, _, rfl, x, m1, pl, d, _, rfl, hTA.ki (hf.ki k2), by omega, hf2, by omega, fun H3 hf3 k3 => ?_⟩
        rw [← et] at hf3
        exact ⟨_, rfl, hf3, k2.trans k3⟩
      · rintro σ H' ⟨o4, rfl, hf2, k2⟩
        rw [hs.len, List.take_length, ← ec] at hf2
        exact k _ hf2 k2
theorem collect_all {f : Addr} {fd : FuncData} (D : C8.Def K mg "_collect" s_collect f fd) (b : Binds K fd ["tree", "player", "found"] []) (T : Txt K mg C_Ratio C_Plan C_End C_Lot C_Turn) : ∀ m, C8.Cal P w K mg base (m + 1) "_collect" (sp_collect P w C_End C_Lot C_Turn m) []
  | 0 => ok_collect0 D b
  | m + 1 => ok_collect D b T (collect_all D b T m)
end

section
variable {P : Program} {w : World} {K : PySem.W.Frag} {mg : Str → Option Value} {base : Heap} {C_Ratio : Addr} {C_Plan : Addr} {C_End : Addr} {C_Lot : Addr} {C_Turn : Addr}
def sp_views (CE CL CT : Addr) (n : Nat) : Sp := fun vs H Q _ => ∃ (v : V) (tm : TM) (pl : Nat), vs = [v, .int pl] ∧ TA CE CL CT H tm v ∧ tm.hgt < n ∧ tm.nds ≤ 100000 ∧ ∀ l xs H', H l = none → H' l = some (.lst xs) → TDs H' xs ((coll pl tm []).map dRow) → Keep [] H H' → Q (.ref l) H'
theorem ok_views_of {f : Addr} {fd : FuncData} (D : C8.Def K mg "views_of" s_views_of f fd) (b : Binds K fd ["tree", "player"] []) (T : Txt K mg C_Ratio C_Plan C_End C_Lot C_Turn) {n k : Nat} (c_collect : C8.Cal P w K mg base k "_collect" (sp_collect P w C_End C_Lot C_Turn n) []) : C8.Cal P w K mg base (k + 1) "views_of" (sp_views C_End C_Lot C_Turn n) [] := by
  refine cal0 D b .nil sc_views_of (fun vs H Q E h => ?_) (fun cdv A outer s H vs Q E hr h => ?_)
  · obtain ⟨v, tm, pl, rfl, _⟩ := h
    rfl
  · obtain ⟨v, tm, pl, rfl, hT, hh, hn, k⟩ := h
    refine ⟨_, (pss_cons (ps_set (i := 2) sc_views_of.nd rfl (by first | exact Or.inl rfl | exact Or.inr rfl) (pe_nnew (P := P) (w := w)))
(pss_cons (ps_expr (pe_c c_collect hr (by first | exact Nat.le_refl _ | decide | omega) rfl (pa_cons (pv 0) (pa_cons (pv 1) (pa_cons (pv 2) pa_nil)))))
(pss_one (ps_ret (pe_lock (pe_lc (own := [("view", 3), ("count", 4)]) (g := (gTup K 2 (gCons (gName 3) (gCons (gName 4) gNil)))) (tt := tYes) rfl sc_views_of.nd (pi_itemsN (P := P) (w := w) (pv 2)) (blkOk_by (N := ["tree", "player", "found", "view", "count"]) (sc := fnScope s_views_of) (by decide +kernel)) (fun _ _ _ _ _ => pg_tupK (K := K) (n := 2) (t := (gCons (gName 3) (gCons (gName 4) gNil))) (pgs_cons (pg_name (i := 3) sc_views_of.nd rfl (by first | exact Or.inl rfl | exact Or.inr rfl)) (pgs_cons (pg_name (i := 4) sc_views_of.nd rfl (by first | exact Or.inl rfl | exact Or.inr rfl)) pgs_nil))) (fun _ _ _ _ _ => pts_nil) (fun _ _ _ _ _ => (pe_tup (pa_cons (pv 3) (pa_cons (pv 4) pa_nil)))))))))), ?_⟩
    refine fun d nd => ?_
    have k0 : Keep [] H (upd H d (ndO P w d [])) := Keep.new nd
    refine ⟨_, rfl, _, rfl, _, rfl, v, tm, pl, d, [], rfl, hT.ki (KI.of k0), hh, ⟨[], upd_same, .nil⟩, by simp; omega, fun H1 hf1 k1 => ?_⟩
    obtain ⟨xs, hd1, hfe⟩ := id hf1
    generalize hfeq : coll pl tm [] = f at *
    have hfl : f.length ≤ 100000 := by
      have := coll_len pl tm []
      rw [hfeq] at this
      simp only [List.length_nil] at this
      omega
    refine ⟨d, _, hd1, trivial, fun od => ?_⟩
    have kd1 : Keep [d] H1 (upd H1 d (.frz od (ndO P w d xs))) := Keep.at_ (by simp)
    have ki1 := hf1.ki kd1
    have hfe1 := hfe.tk ki1.tk
    generalize hH2 : upd H1 d (.frz od (ndO P w d xs)) = H2 at *
    have hd2 : H2 d = some (.frz od (ndO P w d xs)) := by rw [← hH2]; exact upd_same
    refine ⟨_, rfl, d, od, xs, rfl, hd2, fun D nD => ?_⟩
    have kD : Keep [] H2 (upd H2 D (.lst [])) := Keep.new nD
    refine lc_it walk_itemsN (fun i H' => ∃ zs, H' D = some (.lst zs) ∧ TDs H' zs ((f.take i).map dRow) ∧ Keep [] H2 H') ⟨[], upd_same, .nil, kD⟩ (fun i H' _ ⟨zs, _, _, kk⟩ => kk _ _ hd2 (by simp)) ?_ ?_
    · rintro i x H3 H4 hi ⟨zs, hzs, htd, k3⟩ ⟨T1, y1, y2, rfl, nT, rfl, hy1, hy2⟩
      have hx : xs[i]? = some xs[i] := List.getElem?_eq_getElem hi
      obtain ⟨r, hr, er, hrt⟩ := hfe1.get hx
      replace hy1 : (xs[i]?).map (fun x => V.ref x.2.1) = some y1 := hy1
      replace hy2 : (xs[i]?).map (fun x => x.2.2) = some y2 := hy2
      rw [hx] at hy1 hy2
      have e1 : y1 = .ref xs[i].2.1 := (Option.some.inj hy1).symm
      have e2 : y2 = .int r.2 := by rw [← er]; exact (Option.some.inj hy2).symm
      subst e1 e2
      have k4 : Keep [] H3 (upd H3 T1 (.tup [.ref xs[i].2.1, .int r.2])) := Keep.new nT
      refine ⟨T1, _, rfl, SqT.of upd_same, rfl, _, _, rfl, _, _, rfl, rfl, rfl, yes_then ⟨_, rfl, _, rfl, And.intro (by show 2 ≤ sizeLine; decide) <| fun q nq => ?_⟩⟩
      have k5 := Keep.new (W := []) (o := .tup [.ref xs[i].2.1, .int r.2]) nq
      have hz5 := k5 _ _ (k4 _ _ hzs (by simp)) (by simp)
      have tk5 := (k4.trans k5).tk.trans (TK.lst (o := .lst (zs ++ [.ref q])) hz5)
      have hil := (List.getElem?_eq_some_iff.mp hr)
      obtain ⟨hil, her⟩ := hil
      have hzl := htd.length
      rw [List.length_map, List.length_take] at hzl
      refine ⟨zs, hz5, smallL (by omega), zs ++ [.ref q], upd_same, ?_, ((k3.trans k4).trans k5).then_own nD⟩
      rw [List.take_succ_eq_append_getElem hil, her, List.map_append]
      refine (htd.tk tk5).snoc (.tup ?_ (.cons ((hrt.tk k3.tk).tk tk5) (.cons (.int _) .nil)))
      rw [upd_ne (ne_of_none (k4 _ _ hzs (by simp)) nq).symm]; exact upd_same
    · rintro H3 ⟨zs, hzs, htd, k3⟩
      have hd3 := k3 _ _ hd2 (by simp)
      refine ⟨hd3, ?_⟩
      have hne : D ≠ d := ne_of_none hd2 nD |>.symm
      have kout : Keep [] H (upd H3 d (ndO P w d xs)) := by
        intro b o hb _
        have hbd : b ≠ d := ne_of_none hb nd
        rw [upd_ne hbd]
        refine k3 _ _ ?_ (by simp)
        rw [← hH2, upd_ne hbd]
        exact k1 _ _ (k0 _ _ hb (by simp)) (by simpa using hbd)
      have tkout : TK H3 (upd H3 d (ndO P w d xs)) := fun b ys hb => by
        rw [upd_ne (ne_of hb hd3 (by intro z; cases z))]; exact hb
      rw [hfe.len, List.take_length] at htd
      have nDH : H D = none := by
        cases e : H D with
        | none => rfl
        | some o =>
          have e1 := k1 _ _ (k0 _ _ e (by simp)) (by simpa using hne)
          rw [← hH2, upd_ne hne, e1] at nD
          cases nD
      exact k D zs _ nDH (by rw [upd_ne hne]; exact hzs) (htd.tk tkout) kout
end

/-- the tree of the stages, the parts of one stage turned round -/
def treeM (S : List Stg) (rv : Option Nat) : Nat → List Nat → TM
  | 0, _ => .fin
  | n + 1, p =>
    let ps := (List.range (stg S p.length).sz).map fun k => treeM S rv n (p ++ [k])
    let qs := if rv = some p.length then ps.reverse else ps
    if (stg S p.length).pl = 0 then .lot qs else .turn (stg S p.length).pl (asked S p p.length) qs
def VP (S : List Stg) (p : List Nat) : Prop := p.length ≤ S.length ∧ ∀ i, i < p.length → p.getD i 0 < (stg S i).sz
theorem VP.snoc {S : List Stg} {p : List Nat} {k : Nat} (h : VP S p) (hl : p.length < S.length) (hk : k < (stg S p.length).sz) : VP S (p ++ [k]) := by
  refine ⟨by rw [List.length_append]; exact hl, fun i hi => ?_⟩
  rw [List.length_append] at hi
  simp only [List.length_cons, List.length_nil] at hi
  rcases Nat.lt_or_ge i p.length with z | z
  · rw [List.getD_eq_getElem?_getD, List.getElem?_append_left z, ← List.getD_eq_getElem?_getD]; exact h.2 i z
  · have : i = p.length := by omega
    subst this
    rw [List.getD_eq_getElem?_getD, List.getElem?_append_right (Nat.le_refl _)]
    simpa using hk
def ixOf (S : List Stg) (p : List Nat) : Nat → Nat
  | 0 => 0
  | k + 1 => ixOf S p k * (stg S k).sz + p.getD k 0
theorem stg_take {S : List Stg} {k : Nat} (h : k < S.length) : S.take (k + 1) = S.take k ++ [stg S k] := by
  rw [List.take_succ_eq_append_getElem h]
  unfold stg
  rw [List.getD_eq_getElem?_getD, List.getElem?_eq_getElem h]; rfl
theorem ix_lt {S : List Stg} {p : List Nat} (h : VP S p) : ∀ k, k ≤ p.length → ixOf S p k < prodS (S.take k)
  | 0, _ => by rw [List.take_zero]; exact Nat.one_pos
  | k + 1, hk => by
    have ih := ix_lt h k (by omega)
    have hv := h.2 k (by omega)
    rw [stg_take (by have := h.1; omega), prod_app]
    show ixOf S p k * (stg S k).sz + p.getD k 0 < prodS (S.take k) * (stg S k).sz
    have : (ixOf S p k + 1) * (stg S k).sz ≤ prodS (S.take k) * (stg S k).sz := Nat.mul_le_mul_right _ ih
    rw [Nat.add_mul, Nat.one_mul] at this
    omega
theorem path_at {p : List Nat} {i : Nat} (h : i < p.length) : atI (p.map nat) ((i : Nat) : Int) = some (nat (p.getD i 0)) := by
  refine atI_nat ?_
  rw [List.getElem?_map, List.getElem?_eq_getElem h, List.getD_eq_getElem?_getD, List.getElem?_eq_getElem h]; rfl
section
variable {P : Program} {w : World} {K : PySem.W.Frag} {mg : Str → Option Value} {base : Heap} {C_Ratio : Addr} {C_Plan : Addr} {C_End : Addr} {C_Lot : Addr} {C_Turn : Addr}
def sp_node (CE CL CT : Addr) (n : Nat) : Sp := fun vs H Q _ => ∃ (a pd b : Addr) (S : List Stg) (p : List Nat) (zs : List V), vs = [.ref a, .ref pd, .ref b] ∧ StA H a S ∧ SOk S ∧ PaA H b p ∧ VP S p ∧ S.length < p.length + n ∧ H pd = some (.lst zs) ∧ zs.length = prodS S ∧ ∀ v H', TA CE CL CT H' (treeM S none (S.length - p.length) p) v → Keep [] H H' → Q v H'
theorem ok_node0 {f : Addr} {fd : FuncData} (D : C8.Def K mg "_law_node" s_law_node f fd) (b : Binds K fd ["stages", "paid", "path"] []) : C8.Cal P w K mg base 2 "_law_node" (sp_node C_End C_Lot C_Turn 0) [] :=
  ⟨f, fd, ["stages", "paid", "path"], [], ⟨fun vs H Q E h => (by obtain ⟨a, pd, b, S, p, zs, rfl, _⟩ := h; rfl), fun A outer s H args us vs Q E _ _ _ _ h => (by obtain ⟨a, pd, b, S, p, zs, _, _, _, _, hv, z, _⟩ := h; have := hv.1; omega)⟩, D.mgf, D.kp, b, .nil⟩
theorem ok_node {f : Addr} {fd : FuncData} (D : C8.Def K mg "_law_node" s_law_node f fd) (b : Binds K fd ["stages", "paid", "path"] []) (T : Txt K mg C_Ratio C_Plan C_End C_Lot C_Turn) (c_End : C8.Mak P w K mg base 1 "End" C_End (sp_ini1 C_End "paid") []) (c_Lot : C8.Mak P w K mg base 1 "Lot" C_Lot (sp_ini1 C_Lot "parts") []) (c_Turn : C8.Mak P w K mg base 1 "Turn" C_Turn (sp_ini3 C_Turn "player" "view" "parts") [])
    (c_law_asked : C8.Cal P w K mg base 2 "_law_asked" sp_asked []) {m k : Nat} (hk : 2 ≤ k) (c_law_node : C8.Cal P w K mg base k "_law_node" (sp_node C_End C_Lot C_Turn m) []) : C8.Cal P w K mg base (k + 1) "_law_node" (sp_node C_End C_Lot C_Turn (m + 1)) [] := by
  refine cal0 D b .nil sc_law_node (fun vs H Q E h => ?_) (fun cdv A outer s H vs Q E hr h => ?_)
  · obtain ⟨a, pd, b, S, p, zs, rfl, _⟩ := h
    rfl
  · obtain ⟨a, pd, b, S, p, zs, rfl, hS, hok, hb, hvp, hf, hpd, hzl, k⟩ := h
    refine ⟨_, (pss_cons (ps_if (pt_cmpR op_eq (pe_callB call_len_seq (by rfl) T.n_len bo_len (pa_cons (pv 2) pa_nil)) (pe_callB call_len_seq (by rfl) T.n_len bo_len (pa_cons (pv 0) pa_nil)) (nomark _))
  (pss_cons (ps_set (i := 3) sc_law_node.nd rfl (by first | exact Or.inl rfl | exact Or.inr rfl) pe_int)
  (pss_cons (ps_for PassesOwn.never rfl (pi_range1 (by rfl) T.n_range (pa_cons (pe_callB call_len_seq (by rfl) T.n_len bo_len (pa_cons (pv 2) pa_nil)) pa_nil)) (pg_name (i := 4) sc_law_node.nd rfl (by first | exact Or.inl rfl | exact Or.inr rfl))
    (pss_one (ps_set (i := 3) sc_law_node.nd rfl (by first | exact Or.inl rfl | exact Or.inr rfl) (pe_op op_add (pe_op op_mul (pv 3) (pe_ix ix_tup (pe_ix ix_list (pv 0) (pv 4) (fun _ _ => rfl)) pe_int (fun _ _ => rfl))) (pe_ix ix_list (pv 2) (pv 4) (fun _ _ => rfl))))))
  (pss_one (ps_ret (pe_mk c_End hr (by first | exact Nat.le_refl _ | decide | omega) rfl (pa_cons (pe_ix ix_list (pv 1) (pv 3) (fun _ _ => rfl)) pa_nil))))))
  pss_nil)
(pss_cons (ps_set (i := 5) sc_law_node.nd rfl (by first | exact Or.inl rfl | exact Or.inr rfl) (pe_ix ix_list (pv 0) (pe_callB call_len_seq (by rfl) T.n_len bo_len (pa_cons (pv 2) pa_nil)) (fun _ _ => rfl)))
(pss_cons (ps_set (i := 6) sc_law_node.nd rfl (by first | exact Or.inl rfl | exact Or.inr rfl) (pe_lst pa_nil))
(pss_cons (ps_for PassesOwn.never rfl (pi_range1 (by rfl) T.n_range (pa_cons (pe_ix ix_tup (pv 5) pe_int (fun _ _ => rfl)) pa_nil)) (pg_name (i := 4) sc_law_node.nd rfl (by first | exact Or.inl rfl | exact Or.inr rfl))
  (pss_one (ps_expr (pe_bm PySem.F.plainAttrs_list PySem.F.slot_list_append PySem.F.type_list_append mt_append (pv 6) (pa_cons (pe_c c_law_node hr (by first | exact Nat.le_refl _ | decide | omega) rfl (pa_cons (pv 0) (pa_cons (pv 1) (pa_cons (pe_op op_cat (pv 2) (pe_lst (pa_cons (pv 4) pa_nil))) pa_nil)))) pa_nil)))))
(pss_cons (ps_if (pt_cmpR op_eq (pe_ix ix_tup (pv 5) pe_int (fun _ _ => rfl)) pe_int (nomark _))
  (pss_one (ps_ret (pe_mk c_Lot hr (by first | exact Nat.le_refl _ | decide | omega) rfl (pa_cons (pe_callTy call_tuple_of (by rfl) T.n_tuple bo_tuple (pa_cons (pv 6) pa_nil)) pa_nil))))
  pss_nil)
(pss_one (ps_ret (pe_mk c_Turn hr (by first | exact Nat.le_refl _ | decide | omega) rfl (pa_cons (pe_ix ix_tup (pv 5) pe_int (fun _ _ => rfl)) (pa_cons (pe_c c_law_asked hr (by first | exact Nat.le_refl _ | decide | omega) rfl (pa_cons (pv 0) (pa_cons (pv 2) pa_nil))) (pa_cons (pe_callTy call_tuple_of (by rfl) T.n_tuple bo_tuple (pa_cons (pv 6) pa_nil)) pa_nil))))))))))), ?_⟩
    obtain ⟨vs, hvs, hSL⟩ := id hS
    have hlS := hSL.len
    have hplen : (p.map nat).length = p.length := List.length_map ..
    refine ⟨_, rfl, _, _, rfl, .inl (SqL.of hb), _, rfl, _, _, rfl, .inl (SqL.of hvs), rfl, _, rfl, iteD (fun e => ?_) (fun e => ?_)⟩
    · have e1 : p.length = S.length := by have := V.int.inj e; rw [hplen, hlS] at this; omega
      have h4 := hok.len
      refine ⟨_, rfl, _, _, rfl, .inl (SqL.of hb), _, rfl, by rw [hplen]; omega, by rw [hplen]; omega, ?_⟩
      rw [hplen]
      refine for_range (lo := 0) (n := p.length) (fun j σ H' => ∃ o4, σ = [some (.ref a), some (.ref pd), some (.ref b), some (.int (ixOf S p j)), o4, none, none] ∧ H' = H) ⟨none, rfl, rfl⟩ ?_ ?_
      · rintro j σ H' hj ⟨o4, rfl, rfl⟩
        have e0 : (0 : Int) + (j : Int) = (j : Int) := by omega
        rw [e0]
        obtain ⟨t, ht1, ht0⟩ := hSL.get (i := j) (by omega)
        have hix := ix_lt hvp j (by omega)
        have hpr : prodS (S.take j) ≤ 100 := Nat.le_trans (prod_take hok.all _) hok.prod
        have hsz := (stg_ok hok j).sz1
        refine ⟨_, rfl, _, rfl, _, rfl, _, _, _, _, rfl, rfl, SqL.of hvs, atI_nat ht1, _, _, _, _, rfl, rfl, SqT.of ht0, rfl, _, _, rfl, rfl, ?_⟩
        refine ⟨.inr ⟨by omega, by omega⟩, _, rfl, _, rfl, _, _, _, _, rfl, rfl, SqL.of hb, path_at (by omega), _, _, rfl, rfl, ?_⟩
        have hpj := hvp.2 j hj
        refine ⟨some (.int (j : Nat)), ?_, rfl⟩
        show _ = ([some (V.ref a), some (V.ref pd), some (V.ref b), some (V.int ((ixOf S p j * (stg S j).sz + p.getD j 0 : Nat) : Int)), some (V.int (j : Nat)), none, none] : List (Option V))
        push_cast
        rfl
      · rintro σ H' ⟨o4, rfl, rfl⟩
        have hix := ix_lt hvp p.length (Nat.le_refl _)
        rw [e1, List.take_length] at hix
        have hzx : atI zs ((ixOf S p p.length : Nat) : Int) = some (zs[ixOf S p p.length]'(by rw [e1]; omega)) := atI_nat (List.getElem?_eq_getElem _)
        have en : S.length - p.length = 0 := by omega
        rw [en] at k
        refine ⟨_, rfl, _, rfl, _, _, _, _, rfl, rfl, SqL.of hpd, hzx, fun q dq nq ndq neq => ⟨q, dq, _, rfl, upd_same, ?_⟩⟩
        rw [upd_upd]
        exact ⟨rfl, k _ _ ⟨q, dq, _, rfl, upd_same⟩ (Keep.made nq ndq)⟩
    · have e1 : p.length < S.length := by
        rcases Nat.lt_or_ge p.length S.length with z | z
        · exact z
        · exact absurd (by rw [hplen, hlS]; have := hvp.1; congr 1; omega) e
      obtain ⟨t, ht1, ht0⟩ := hSL.get e1
      refine ⟨_, rfl, _, rfl, _, _, rfl, .inl (SqL.of hb), _, _, _, _, rfl, rfl, SqL.of hvs, atI_nat (by rw [hplen]; exact ht1), ?_⟩
      have hok1 := stg_ok hok p.length
      obtain ⟨n1, en⟩ : ∃ n1, S.length - p.length = n1 + 1 := ⟨S.length - p.length - 1, by omega⟩
      rw [en] at k
      have hpr := hok.prod
      refine And.intro (by show 0 ≤ sizeLine; decide) <| fun l nl => ?_
      have k0 : Keep [] H (upd H l (.lst [])) := Keep.new nl
      refine ⟨_, rfl, _, _, _, _, rfl, rfl, SqT.of (k0 _ _ ht0 (by simp)), rfl, _, rfl, by omega, by have := hok1.sz1; omega, ?_⟩
      refine for_range (lo := 0) (n := ((stg S p.length).sz : Int).toNat) (fun j σ H' => ∃ xs o5, σ = [some (.ref a), some (.ref pd), some (.ref b), none, o5, some (.ref t), some (.ref l)] ∧ H' l = some (.lst xs) ∧ TAs C_End C_Lot C_Turn H' ((List.range j).map fun k => treeM S none n1 (p ++ [k])) xs ∧ Keep [] H H') ⟨[], none, rfl, upd_same, rfl, k0⟩ ?_ ?_
      · rintro j σ H1 hj ⟨xs, o5, rfl, hl, hxs, k1⟩
        have e0 : (0 : Int) + (j : Int) = (j : Int) := by omega
        rw [e0]
        have hj' : j < (stg S p.length).sz := by omega
        have hxl := hxs.len
        rw [List.length_map, List.length_range] at hxl
        have hsz := hok1.sz1
        refine ⟨_, rfl, .inl ⟨rfl, _, SqL.of hl⟩, _, rfl, _, rfl, _, rfl, _, rfl, And.intro (by show 1 ≤ sizeLine; decide) <| fun g ng => ?_⟩
        have ks : Keep [] H1 (upd H1 g (.lst [.int (j : Int)])) := Keep.new ng
        have hb1 := k1 _ _ hb (by simp)
        have hp4 : p.length ≤ 100 := by have := hok.len; omega
        refine ⟨b, g, _, _, rfl, rfl, ks _ _ hb1 (by simp), upd_same, smallM (by rw [List.length_map]; simp; omega), fun r nr => ?_⟩
        have kr := ks.then_new (o := .lst (p.map nat ++ [.int (j : Int)])) nr
        have k1r := k1.trans kr
        refine ⟨a, pd, r, S, p ++ [j], zs, rfl, hS.keep k1r, hok, ?_, hvp.snoc e1 hj', by rw [List.length_append]; simp; omega, k1r _ _ hpd (by simp), hzl, fun v H2 hv k2 => ?_⟩
        · show upd _ r _ r = _
          rw [upd_same, List.map_append]; rfl
        · have en1 : S.length - (p ++ [j]).length = n1 := by rw [List.length_append]; simp; omega
          rw [en1] at hv
          have hl2 := k2 _ _ (kr _ _ hl (by simp)) (by simp)
          refine ⟨_, _, _, rfl, rfl, hl2, smallL (by omega), xs ++ [v], _, rfl, upd_same, ?_, ((k1r.trans k2).then_own nl)⟩
          rw [List.range_succ, List.map_append]
          exact (TAs.ki ((KI.of (kr.trans k2)).trans (KI.lst hl2)) _ hxs).snoc (TA.ki (KI.lst hl2) _ hv)
      · rintro σ H1 ⟨xs, o5, rfl, hl, hxs, k1⟩
        rw [Int.toNat_natCast] at hxs
        have ht1' := k1 _ _ ht0 (by simp)
        have hlen : xs.length ≤ 1000000 := by
          have := hxs.len
          rw [List.length_map, List.length_range] at this
          have := hok1.sz1
          omega
        refine ⟨_, rfl, _, _, _, _, rfl, rfl, SqT.of ht1', rfl, rfl, _, rfl, iteD (fun e => ?_) (fun e => ?_)⟩
        · have e2 : (stg S p.length).pl = 0 := by have := V.int.inj e; omega
          refine ⟨_, rfl, l, xs, rfl, .inl ⟨SqL.of hl, fun q nq => fun x dx nx ndx ne => ⟨x, dx, _, rfl, upd_same, rfl, ?_⟩⟩⟩
          have kq := Keep.new (W := []) (o := .tup xs) nq
          have km := Keep.made (o := .ins C_Lot dx [("parts", .ref q)]) nx ndx
          rw [upd_upd]
          refine k _ _ ?_ ((k1.trans kq).trans km)
          have ee : treeM S none (n1 + 1) p = .lot ((List.range (stg S p.length).sz).map fun k => treeM S none n1 (p ++ [k])) := by
            show (if (stg S p.length).pl = 0 then _ else _) = _
            rw [if_pos e2]; rfl
          rw [ee]
          exact ⟨x, dx, q, xs, rfl, upd_same, km _ _ upd_same (by simp), TAs.ki (KI.of (kq.trans km)) _ hxs⟩
        · have e2 : ¬ (stg S p.length).pl = 0 := fun z => e (by rw [z]; rfl)
          refine ⟨_, rfl, _, _, _, _, rfl, rfl, SqT.of ht1', rfl, _, rfl, _, rfl, a, b, S, p, rfl, hS.keep k1, hok, k1 _ _ hb (by simp), e1, fun v H2 hv k2 => ?_⟩
          refine ⟨_, rfl, l, xs, rfl, .inl ⟨SqL.of (k2 _ _ hl (by simp)), fun q nq => fun x dx nx ndx ne => ⟨x, dx, _, _, _, rfl, upd_same, rfl, ?_⟩⟩⟩
          have kq := Keep.new (W := []) (o := .tup xs) nq
          have km := Keep.made (o := .ins C_Turn dx [("player", .int ((stg S p.length).pl : Nat)), ("view", v), ("parts", .ref q)]) nx ndx
          rw [upd_upd]
          refine k _ _ ?_ (((k1.trans k2).trans kq).trans km)
          have ee : treeM S none (n1 + 1) p = .turn (stg S p.length).pl (asked S p p.length) ((List.range (stg S p.length).sz).map fun k => treeM S none n1 (p ++ [k])) := by
            show (if (stg S p.length).pl = 0 then _ else _) = _
            rw [if_neg e2]; rfl
          rw [ee]
          exact ⟨x, dx, v, q, xs, rfl, upd_same, hv.tk (kq.trans km).tk, km _ _ upd_same (by simp), TAs.ki (KI.of ((k2.trans kq).trans km)) _ hxs⟩
theorem node_all {f : Addr} {fd : FuncData} (D : C8.Def K mg "_law_node" s_law_node f fd) (b : Binds K fd ["stages", "paid", "path"] []) (T : Txt K mg C_Ratio C_Plan C_End C_Lot C_Turn) (c_End : C8.Mak P w K mg base 1 "End" C_End (sp_ini1 C_End "paid") []) (c_Lot : C8.Mak P w K mg base 1 "Lot" C_Lot (sp_ini1 C_Lot "parts") []) (c_Turn : C8.Mak P w K mg base 1 "Turn" C_Turn (sp_ini3 C_Turn "player" "view" "parts") [])
    (c_law_asked : C8.Cal P w K mg base 2 "_law_asked" sp_asked []) : ∀ m, C8.Cal P w K mg base (m + 2) "_law_node" (sp_node C_End C_Lot C_Turn m) []
  | 0 => ok_node0 D b
  | m + 1 => ok_node D b T c_End c_Lot c_Turn c_law_asked (by omega) (node_all D b T c_End c_Lot c_Turn c_law_asked m)
end

theorem cr_sumK {X : Cx} {K : PySem.W.Frag} (hc : X.calm = true) (hK : X.K = K := by rfl) : CallR X (.builtin "sum") (rSum K) := hK ▸ cr_sum hc
def evenW (R : List Row) : List WE := R.map fun r => (r.1, List.replicate r.2.toNat 1)
def tab (es : List WE) : List Ent2 := es.map fun e => (e.1, wr e.2)
theorem sum_ones (n : Nat) : (List.replicate n 1).sum = n := by
  induction n with
  | zero => rfl
  | succ m ih => rw [List.replicate_succ, List.sum_cons, ih]; omega
theorem wok_ones {n : Nat} (h : 1 ≤ n) (h2 : n ≤ 100) : WOk (List.replicate n 1) := ⟨by rw [sum_ones]; omega, fun w hw => by rw [List.eq_of_mem_replicate hw]; decide, by rw [List.length_replicate]; omega⟩
theorem wr_ones (n : Nat) : wr (List.replicate n 1) = List.replicate n (redN 1 (n : Nat), redD 1 (n : Nat)) := by
  unfold wr
  rw [sum_ones, List.map_replicate]; rfl
def sp_even (P : Program) (w : World) (CP CR : Addr) : Sp := fun vs H Q _ => ∃ (a : Addr) (xs : List V) (R : List Row), vs = [.ref a] ∧ H a = some (.lst xs) ∧ TDs H xs (R.map dRow) ∧ (∀ r ∈ R, 1 ≤ r.2 ∧ r.2 ≤ 100) ∧ (R.map (·.1)).Nodup ∧ R.length ≤ 300 ∧ ∀ p H', PlanAt P w CP CR H' p (tab (evenW R)) → Keep [] H H' → Q (.ref p) H'
section
variable {P : Program} {w : World} {K : PySem.W.Frag} {mg : Str → Option Value} {base : Heap} {C_Ratio : Addr} {C_Plan : Addr} {C_End : Addr} {C_Lot : Addr} {C_Turn : Addr}
theorem ok_even {f : Addr} {fd : FuncData} (D : C8.Def K mg "even" s_even f fd) (b : Binds K fd ["views"] []) (T : Txt K mg C_Ratio C_Plan C_End C_Lot C_Turn) (c_Ratio2 : C8.Mak P w K mg base 1 "Ratio" C_Ratio (sp_rat C_Ratio) []) (c_Plan : C8.Mak P w K mg base 3 "Plan" C_Plan (sp_plan P w C_Plan C_Ratio) []) : C8.Cal P w K mg base 5 "even" (sp_even P w C_Plan C_Ratio) [] := by
  refine cal0 D b .nil sc_even (fun vs H Q E h => ?_) (fun cdv A outer s H vs Q E hr h => ?_)
  · obtain ⟨a, xs, R, rfl, _⟩ := h
    rfl
  · obtain ⟨a, xs, R, rfl, ha, hxs, hR, hnd, hlen, k⟩ := h
    refine ⟨_, (pss_one (ps_ret (pe_mk c_Plan hr (by first | exact Nat.le_refl _ | decide | omega) rfl (pa_cons (pe_lc (own := [("view", 1), ("count", 2)]) (g := (gTup K 2 (gCons (gName 1) (gCons (gName 2) gNil)))) (tt := tYes) rfl sc_even.nd (pi_list (pv 0)) (blkOk_by (N := ["views", "view", "count", "k"]) (sc := fnScope s_even) (by decide +kernel)) (fun _ _ _ _ _ => pg_tupK (K := K) (n := 2) (t := (gCons (gName 1) (gCons (gName 2) gNil))) (pgs_cons (pg_name (i := 1) sc_even.nd rfl (by first | exact Or.inl rfl | exact Or.inr rfl)) (pgs_cons (pg_name (i := 2) sc_even.nd rfl (by first | exact Or.inl rfl | exact Or.inr rfl)) pgs_nil))) (fun _ _ _ _ _ => pts_nil) (fun _ _ _ _ _ => (pe_tup (pa_cons (pv 1) (pa_cons (pe_lc (own := [("k", 3)]) (g := gName 3) (tt := tYes) rfl sc_even.nd (pi_range1 (by rfl) T.n_range (pa_cons (pv 2) pa_nil)) (blkOk_by (N := ["views", "view", "count", "k"]) (sc := ⟨.function, [(".0", .local), ("view", .local), ("count", .cell), ("range", .globalImplicit)], false, false, []⟩) (by decide +kernel)) (fun _ _ _ _ _ => pg_name (i := 3) sc_even.nd rfl (by first | exact Or.inl rfl | exact Or.inr rfl)) (fun _ _ _ _ _ => pts_nil) (fun _ _ _ _ _ => (pe_mk c_Ratio2 hr (by first | exact Nat.le_refl _ | decide | omega) rfl (pa_cons pe_int (pa_cons (pv 2) pa_nil))))) pa_nil))))) pa_nil)))), ?_⟩
    have hxl := hxs.length
    rw [List.length_map] at hxl
    refine ⟨_, rfl, a, rfl, ⟨_, SqL.of ha⟩, fun D nD => ?_⟩
    refine lc_list (K := K) (a := a) (xs := xs) (fun i H' => ∃ gs, H' D = some (.lst gs) ∧ GN C_Ratio (fun b => b ≠ D) H' gs (tab (evenW (R.take i))) ∧ Keep [] H H') ⟨[], upd_same, .nil, Keep.new nD⟩ (fun i H' _ ⟨_, _, _, kk⟩ => SqL.of (kk _ _ ha (by simp))) ?_ ?_
    · rintro i x H1 hx ⟨gs, hD, hgn, k1⟩
      have hi := (List.getElem?_eq_some_iff.mp hx).1
      have hiR : i < R.length := by omega
      obtain ⟨x', hx', hxd⟩ := hxs.get (i := i) (d := dRow R[i]) (by rw [List.getElem?_map, List.getElem?_eq_getElem hiR]; rfl)
      rw [hx] at hx'
      cases hx'
      obtain ⟨tt, tes, rfl, htt, htes⟩ := td_view hxd
      cases htes with
      | @cons v0 _ _ _ h0 hr1 =>
        cases hr1 with
        | cons h1 hr2 =>
          cases hr2
          cases h1
          obtain ⟨hs0, hs1⟩ := hR R[i] (List.getElem_mem hiR)
          have hgl := hgn.len
          obtain ⟨c, hc⟩ : ∃ c : Nat, R[i].2 = (c : Int) := ⟨R[i].2.toNat, by omega⟩
          refine ⟨tt, _, rfl, SqT.of (k1 _ _ htt (by simp)), rfl, _, _, rfl, _, _, rfl, rfl, rfl, yes_then ⟨_, rfl, _, rfl, R[i].2, rfl, by omega, by omega, fun D2 nD2 => ?_⟩⟩
          refine lc_range (lo := 0) (n := R[i].2.toNat) (fun j H' => ∃ us, H' D2 = some (.lst us) ∧ RL C_Ratio H' us (List.replicate j (redN 1 R[i].2, redD 1 R[i].2)) ∧ Keep [] H1 H') ⟨[], upd_same, .nil, Keep.new nD2⟩ ?_ ?_
          · rintro j H2 hj ⟨us, hD2, hur, k2⟩
            have hul := hur.len
            rw [List.length_replicate] at hul
            refine ⟨rfl, yes_then ⟨_, rfl, fun x' dx' nx ndx ne => ⟨x', dx', 1, R[i].2, rfl, by omega, by
              have : R[i].2.natAbs ≤ 100 := by omega
              exact Nat.lt_of_le_of_lt this (Nat.lt_of_lt_of_le (show 100 < 2 ^ 7 by decide) (Nat.pow_le_pow_right (by decide) (by decide))), upd_same, fun H3 K3 hx3 => ⟨rfl, ?_⟩⟩⟩⟩
            have km := keep_made nx ndx K3
            have hD3 := km _ _ hD2 (by simp)
            refine ⟨us, hD3, smallL (by omega), ⟨us ++ [.ref x'], upd_same, ?_, (k2.trans km).then_own nD2⟩⟩
            rw [List.replicate_succ']
            exact ((hur.keep (KI.of km)).keep (KI.lst hD3)).snoc ⟨dx', (KI.lst (o := .lst (us ++ [.ref x'])) hD3).2 _ _ _ _ hx3⟩
          · rintro H2 ⟨us, hD2, hur, k2⟩
            refine And.intro (by show 2 ≤ sizeLine; decide) <| fun t nt => ?_
            have kt := Keep.new (W := []) (o := .tup [v0, .ref D2]) nt
            have ht : upd H2 t (.tup [v0, .ref D2]) t = some (.tup [v0, .ref D2]) := upd_same
            generalize upd H2 t (.tup [v0, .ref D2]) = H3 at *
            have k13 := k2.trans kt
            have hD3 := k13 _ _ hD (by simp)
            have nDD : D2 ≠ D := (ne_of_none hD nD2).symm
            have ki := KI.lst (o := .lst (gs ++ [.ref t])) hD3
            have kl : ∀ b ys, b ≠ D → H3 b = some (.lst ys) → upd H3 D (.lst (gs ++ [.ref t])) b = some (.lst ys) := fun b ys nb hb => by rw [upd_ne nb]; exact hb
            have ew : wr (List.replicate R[i].2.toNat 1) = List.replicate R[i].2.toNat (redN 1 R[i].2, redD 1 R[i].2) := by
              rw [wr_ones, Int.toNat_of_nonneg (by omega)]
            have et : tab (evenW (R.take (i + 1))) = tab (evenW (R.take i)) ++ [(R[i].1, List.replicate R[i].2.toNat (redN 1 R[i].2, redD 1 R[i].2))] := by
              unfold tab evenW
              rw [List.take_succ_eq_append_getElem hiR, List.map_append, List.map_append, ← ew]; rfl
            have hgl2 : gs.length ≤ 1000 := by
              rw [hgl]; unfold tab evenW; rw [List.length_map, List.length_map, List.length_take]; omega
            refine ⟨gs, hD3, smallL (by omega), gs ++ [.ref t], upd_same, ?_, (k1.trans k13).then_own nD⟩
            rw [et]
            exact ((hgn.keep (KI.of k13) fun b ys _ hb => k13 _ _ hb (by simp)).keep ki kl).snoc (ki.1 _ _ ht) (((h0.tk k1.tk).tk k13.tk).tk ki.1) ⟨us, kl _ _ nDD (kt _ _ hD2 (by simp)), (hur.keep (KI.of kt)).keep ki⟩ nDD
    · rintro H1 ⟨gs, hD, hgn, k1⟩
      rw [hxl, List.take_length] at hgn
      refine fun x dx nx ndx ne => ?_
      have km := Keep.made (o := .ins C_Plan dx []) nx ndx
      refine ⟨x, dx, D, gs, tab (evenW R), rfl, upd_same, km _ _ hD (by simp), (hgn.keep (KI.of km) fun b ys _ hb => km _ _ hb (by simp)).gl, fun e he => ?_, ?_, ?_, fun H2 hP K2 => ⟨rfl, k x H2 hP (k1.trans (keep_made nx ndx K2))⟩⟩
      · obtain ⟨e0, he0, rfl⟩ := List.mem_map.mp he
        obtain ⟨r0, hr0, rfl⟩ := List.mem_map.mp he0
        have := hR r0 hr0
        exact wr_lots (wok_ones (by omega) (by omega))
      · have : (tab (evenW R)).map (·.1) = R.map (·.1) := by unfold tab evenW; rw [List.map_map, List.map_map]; rfl
        rw [this]; exact hnd
      · unfold tab evenW; rw [List.length_map, List.length_map]; omega
end

def pureL (c m : Nat) : List Nat := (List.range c).map fun k => if k = m then 1 else 0
def pureW (R : List Row) (ms : List Nat) : List WE := (R.zip ms).map fun p => (p.1.1, pureL p.1.2.toNat p.2)
theorem pureL_succ (i m : Nat) : pureL (i + 1) m = pureL i m ++ [if i = m then 1 else 0] := by unfold pureL; rw [List.range_succ, List.map_append]; rfl
theorem pureL_sum (m : Nat) : ∀ c, (pureL c m).sum = if m < c then 1 else 0
  | 0 => rfl
  | c + 1 => by
    rw [pureL_succ, List.sum_append, pureL_sum m c]
    by_cases h : m < c
    · have e1 : ¬ c = m := by omega
      have e2 : m < c + 1 := by omega
      simp [h, e1, e2]
    · by_cases e : c = m
      · have e2 : m < c + 1 := by omega
        simp [h, e, e2]
      · have e2 : ¬ m < c + 1 := by omega
        simp [h, e, e2]
theorem wok_pure {c m : Nat} (h : m < c) (h2 : c ≤ 100) : WOk (pureL c m) := ⟨by rw [pureL_sum, if_pos h]; decide, fun w hw => by
  obtain ⟨k, _, rfl⟩ := List.mem_map.mp hw
  split <;> decide, by unfold pureL; rw [List.length_map, List.length_range]; omega⟩
theorem wr_pure {c m : Nat} (h : m < c) : wr (pureL c m) = (pureL c m).map fun (w : Nat) => ((w : Int), (1 : Int)) := by
  unfold wr
  rw [pureL_sum, if_pos h]
  refine List.map_congr_left fun w _ => ?_
  rw [show (((1 : Nat) : Int)) = (1 : Int) from rfl, (red_one _).1, (red_one _).2]
def fitsB (R : List Row) (t : List Ent2) : Bool := t.all fun e => decide (((R.find? fun r => decide (r.1 = e.1)).map (·.2)).getD 0 = (e.2.length : Int))
def sp_fits (P : Program) (w : World) (CE CL CT CP CR : Addr) : Sp := fun vs H Q _ => ∃ (x : Addr) (v : V) (pl : Nat) (t : List Ent2) (tm : TM), vs = [.ref x, v, .int pl] ∧ PlanAt P w CP CR H x t ∧ t.length ≤ 1000 ∧ TA CE CL CT H tm v ∧ tm.hgt < 5 ∧ tm.nds ≤ 1000 ∧ ((coll pl tm []).map (·.1)).Nodup ∧ ∀ H', Keep [] H H' → Q (.bl (fitsB (coll pl tm []) t)) H'
def sp_pure (P : Program) (w : World) (CP CR : Addr) : Sp := fun vs H Q _ => ∃ (a b : Addr) (xs : List V) (R : List Row) (ms : List Nat), vs = [.ref a, .ref b] ∧ H a = some (.lst xs) ∧ TDs H xs (R.map dRow) ∧ H b = some (.lst (ms.map nat)) ∧ ms.length = R.length ∧ (∀ r ∈ R, 1 ≤ r.2 ∧ r.2 ≤ 100) ∧ (∀ (i : Nat) r m, R[i]? = some r → ms[i]? = some m → ((m : Nat) : Int) < r.2) ∧ (R.map (·.1)).Nodup ∧ R.length ≤ 300 ∧ ∀ p H', PlanAt P w CP CR H' p (tab (pureW R ms)) → Keep [] H H' → Q (.ref p) H'
theorem rows_pairs {K : PySem.W.Frag} {H : Hp} : ∀ {xs : List V} {R : List Row}, TDs H xs (R.map dRow) → ∃ (ts : List Addr) (ps : List Ent), xs = ts.map V.ref ∧ Paired (PairN K H) ts ps ∧ FE H ps R
  | _, [], h => by cases h; exact ⟨[], [], rfl, .nil, .nil⟩
  | _, r :: R, h => by
    cases h with
    | cons h1 h2 =>
      obtain ⟨ts, ps, e, hp, hf⟩ := rows_pairs (K := K) h2
      obtain ⟨tt, es, rfl, htt, hes⟩ := td_view h1
      cases hes with
      | cons h0 hr =>
        cases hr with
        | cons h3 h4 =>
          cases h4
          cases h3
          obtain ⟨b, vs, rfl, hb, hvs, hl⟩ := td_grow h0
          exact ⟨tt :: ts, (keyV r.1, b, .int r.2) :: ps, by rw [e]; rfl, .cons ⟨SqT.of htt, nk_view h0, depth_kv _⟩ hp, .cons h0 hf⟩
theorem FE.valv {H : Hp} {xs : List Ent} {f : List Row} (h : FE H xs f) (L : List Ev) : valN xs (keyV L) = (f.find? fun x => decide (x.1 = L)).map fun r => V.int r.2 := by
  induction h with
  | nil => rfl
  | @cons b xs f r h _ ih =>
    by_cases e : r.1 = L
    · have e1 : keyV r.1 = keyV L := by rw [e]
      rw [valN_pos (p := (keyV r.1, b, .int r.2)) e1]
      simp [e]
    · have e1 : ¬ keyV r.1 = keyV L := fun z => e (keyV_inj z)
      rw [valN_neg (p := (keyV r.1, b, .int r.2)) e1, ih]
      simp [e]
theorem puts_new {H : Hp} {ps : List Ent} {R : List Row} (h : FE H ps R) : ∀ {acc : List Ent} {A : List Row}, FE H acc A → ((A ++ R).map (·.1)).Nodup → putsN acc ps = acc ++ ps := by
  induction h with
  | nil => intro acc A _ _; show acc = acc ++ []; simp
  | @cons b xs f r hb _ ih =>
    intro acc A ha hn
    have hnone : valN acc (keyV r.1) = none := by
      rw [ha.valv, List.find?_eq_none.mpr fun x hx z => ?_]
      · rfl
      · rw [List.map_append, List.map_cons] at hn
        have := (List.nodup_append.mp hn).2.2 x.1 (List.mem_map.mpr ⟨x, hx, rfl⟩) r.1 (List.mem_cons_self ..)
        exact this (of_decide_eq_true z)
    show putsN (putN acc (keyV r.1) b (.int r.2)) xs = _
    rw [putN_new hnone, ih (ha.snoc hb) (by simpa using hn)]
    simp
section
variable {P : Program} {w : World} {K : PySem.W.Frag} {mg : Str → Option Value} {base : Heap} {C_Ratio : Addr} {C_Plan : Addr} {C_End : Addr} {C_Lot : Addr} {C_Turn : Addr}
theorem ok_pure {f : Addr} {fd : FuncData} (D : C8.Def K mg "pure" s_pure f fd) (b : Binds K fd ["views", "moves"] []) (T : Txt K mg C_Ratio C_Plan C_End C_Lot C_Turn) (c_Ratio : C8.Mak P w K mg base 1 "Ratio" C_Ratio (sp_rat C_Ratio) [.int 1]) (c_Plan : C8.Mak P w K mg base 3 "Plan" C_Plan (sp_plan P w C_Plan C_Ratio) []) : C8.Cal P w K mg base 5 "pure" (sp_pure P w C_Plan C_Ratio) [] := by
  refine cal0 D b .nil sc_pure (fun vs H Q E h => ?_) (fun cdv A outer s H vs Q E hr h => ?_)
  · obtain ⟨a, b, xs, R, ms, rfl, _⟩ := h
    rfl
  · obtain ⟨a, b, xs, R, ms, rfl, ha, hxs, hb, hml, hR, hm, hnd, hlen, k⟩ := h
    refine ⟨_, (pss_cons (ps_set (i := 2) sc_pure.nd rfl (by first | exact Or.inl rfl | exact Or.inr rfl) (pe_lst pa_nil))
(pss_cons (ps_for PassesOwn.never rfl (RZ.pi_zipA (by rfl) T.n_zip (pa_cons (pv 0) (pa_cons (pv 1) pa_nil))) (pg_tup (by rfl) (pgs_cons (pg_tup (by rfl) (pgs_cons (pg_name (i := 3) sc_pure.nd rfl (by first | exact Or.inl rfl | exact Or.inr rfl)) (pgs_cons (pg_name (i := 4) sc_pure.nd rfl (by first | exact Or.inl rfl | exact Or.inr rfl)) pgs_nil))) (pgs_cons (pg_name (i := 5) sc_pure.nd rfl (by first | exact Or.inl rfl | exact Or.inr rfl)) pgs_nil)))
  (pss_one (ps_expr (pe_bm PySem.F.plainAttrs_list PySem.F.slot_list_append PySem.F.type_list_append mt_append (pv 2) (pa_cons (pe_tup (pa_cons (pv 3) (pa_cons (pe_lc (own := [("k", 6)]) (g := gName 6) (tt := tYes) rfl sc_pure.nd (pi_range1 (by rfl) T.n_range (pa_cons (pv 4) pa_nil)) (blkOk_by (N := ["views", "moves", "entries", "view", "count", "move", "k"]) (sc := fnScope s_pure) (by decide +kernel)) (fun _ _ _ _ _ => pg_name (i := 6) sc_pure.nd rfl (by first | exact Or.inl rfl | exact Or.inr rfl)) (fun _ _ _ _ _ => pts_nil) (fun _ _ _ _ _ => (pe_mk c_Ratio hr (by first | exact Nat.le_refl _ | decide | omega) rfl (pa_cons (pe_callTy call_int1 (by rfl) T.n_int bo_int (pa_cons (pe_cmpR op_eq (pv 6) (pv 5) (nomark _)) pa_nil)) pa_nil)))) pa_nil))) pa_nil)))))
(pss_one (ps_ret (pe_mk c_Plan hr (by first | exact Nat.le_refl _ | decide | omega) rfl (pa_cons (pv 2) pa_nil)))))), ?_⟩
    have hxl := hxs.length
    rw [List.length_map] at hxl
    refine And.intro (by show 0 ≤ sizeLine; decide) <| fun el nel => ?_
    have k0 := Keep.new (W := []) (o := .lst []) nel
    refine ⟨_, rfl, _, rfl, a, b, xs, ms.map nat, rfl, .inl ⟨SqL.of (k0 _ _ ha (by simp)), SqL.of (k0 _ _ hb (by simp)), ?_⟩⟩
    refine for_it (walk_zip (n := xs.length) (by rw [List.length_map]; omega)) (fun i σ H' => ∃ gs o3 o4 o5, σ = [some (.ref a), some (.ref b), some (.ref el), o3, o4, o5, none] ∧ H' el = some (.lst gs) ∧ GN C_Ratio (fun b => b ≠ el) H' gs (tab (pureW (R.take i) (ms.take i))) ∧ Keep [] H H') ⟨[], _, _, _, rfl, upd_same, .nil, k0⟩ (fun i σ H' _ ⟨_, _, _, _, _, _, _, kk⟩ => ⟨SqL.of (kk _ _ ha (by simp)), SqL.of (kk _ _ hb (by simp))⟩) ?_ ?_
    · rintro i v σ H2 H3 hi ⟨gs, o3, o4, o5, rfl, hel, hgn, k2⟩ ⟨T1, y1, y2, rfl, nT, rfl, hy1, hy2⟩
      have hiR : i < R.length := by omega
      obtain ⟨x', hx', hxd⟩ := hxs.get (i := i) (d := dRow R[i]) (by rw [List.getElem?_map, List.getElem?_eq_getElem hiR]; rfl)
      replace hy1 : xs[i]? = some y1 := hy1
      rw [hx'] at hy1
      cases hy1
      have him : i < ms.length := by omega
      replace hy2 : (ms.map nat)[i]? = some y2 := hy2
      rw [List.getElem?_map, List.getElem?_eq_getElem him] at hy2
      obtain rfl : nat ms[i] = y2 := Option.some.inj hy2
      have hmi := hm i R[i] ms[i] (List.getElem?_eq_getElem hiR) (List.getElem?_eq_getElem him)
      obtain ⟨hs0, hs1⟩ := hR R[i] (List.getElem_mem hiR)
      obtain ⟨tt, tes, rfl, htt, htes⟩ := td_view hxd
      cases htes with
      | @cons v0 _ _ _ h0 hr1 =>
        cases hr1 with
        | cons h1 hr2 =>
          cases hr2
          cases h1
          have kT := Keep.new (W := []) (o := .tup [.ref tt, nat ms[i]]) nT
          have hTT : upd H2 T1 (.tup [.ref tt, nat ms[i]]) T1 = some (.tup [.ref tt, nat ms[i]]) := upd_same
          generalize upd H2 T1 (.tup [.ref tt, nat ms[i]]) = H3 at *
          have k3 := k2.trans kT
          have hel3 := kT _ _ hel (by simp)
          have hgl := hgn.len
          refine ⟨T1, _, rfl, SqT.of hTT, rfl, _, _, rfl, ⟨tt, _, rfl, SqT.of (k3 _ _ htt (by simp)), rfl, _, _, rfl, _, _, rfl, rfl, _, _, rfl, rfl, ?_⟩⟩
          refine ⟨_, rfl, .inl ⟨rfl, _, SqL.of hel3⟩, _, rfl, _, rfl, R[i].2, rfl, by omega, by omega, fun D2 nD2 => ?_⟩
          refine lc_range (lo := 0) (n := R[i].2.toNat) (fun j H' => ∃ us, H' D2 = some (.lst us) ∧ RL C_Ratio H' us ((pureL j ms[i]).map fun (w : Nat) => ((w : Int), (1 : Int))) ∧ Keep [] H3 H') ⟨[], upd_same, .nil, Keep.new nD2⟩ ?_ ?_
          · rintro j H4 hj ⟨us, hD2, hur, k4⟩
            have e0 : (0 : Int) + (j : Int) = (j : Int) := by omega
            rw [e0]
            have hul := hur.len
            rw [List.length_map, show (pureL j ms[i]).length = j by unfold pureL; rw [List.length_map, List.length_range]] at hul
            refine ⟨rfl, yes_then ⟨_, rfl, _, rfl, rfl, .inr ⟨_, rfl, fun x' dx' nx ndx ne => ⟨x', dx', _, 1, rfl, by decide, by decide, upd_same, fun H5 K5 hx5 => ⟨rfl, ?_⟩⟩⟩⟩⟩
            have km := keep_made nx ndx K5
            rw [(red_one _).1, (red_one _).2] at hx5
            have hD5 := km _ _ hD2 (by simp)
            refine ⟨us, hD5, smallL (by omega), us ++ [.ref x'], upd_same, ?_, (k4.trans km).then_own nD2⟩
            rw [pureL_succ, List.map_append]
            refine ((hur.keep (KI.of km)).keep (KI.lst hD5)).snoc ⟨dx', ?_⟩
            have hx6 := (KI.lst (o := .lst (us ++ [.ref x'])) hD5).2 _ _ _ _ hx5
            rw [hx6]
            by_cases hjm : j = ms[i]
            · rw [if_pos hjm, hjm, decide_eq_true (show V.int ((ms[i] : Nat) : Int) = nat ms[i] from rfl)]; rfl
            · rw [if_neg hjm, decide_eq_false (fun z => hjm (by have := V.int.inj z; omega))]; rfl
          · rintro H4 ⟨us, hD2, hur, k4⟩
            refine And.intro (by show 2 ≤ sizeLine; decide) <| fun t nt => ?_
            have kt := Keep.new (W := []) (o := .tup [v0, .ref D2]) nt
            have ht : upd H4 t (.tup [v0, .ref D2]) t = some (.tup [v0, .ref D2]) := upd_same
            generalize upd H4 t (.tup [v0, .ref D2]) = H5 at *
            have k35 := k4.trans kt
            have hel5 := k35 _ _ hel3 (by simp)
            have nDD : D2 ≠ el := (ne_of_none hel3 nD2).symm
            have ki := KI.lst (o := .lst (gs ++ [.ref t])) hel5
            have kl : ∀ b ys, b ≠ el → H5 b = some (.lst ys) → upd H5 el (.lst (gs ++ [.ref t])) b = some (.lst ys) := fun b ys nb hb => by rw [upd_ne nb]; exact hb
            have et : tab (pureW (R.take (i + 1)) (ms.take (i + 1))) = tab (pureW (R.take i) (ms.take i)) ++ [(R[i].1, (pureL R[i].2.toNat ms[i]).map fun (w : Nat) => ((w : Int), (1 : Int)))] := by
              unfold tab pureW
              rw [List.take_succ_eq_append_getElem hiR, List.take_succ_eq_append_getElem him, List.zip_append (by rw [List.length_take, List.length_take]; omega), List.map_append, List.map_append]
              congr 1
              show [(R[i].1, wr (pureL R[i].2.toNat ms[i]))] = _
              rw [wr_pure (by omega)]
            have hgl2 : gs.length ≤ 1000 := by
              rw [hgl]; unfold tab pureW; rw [List.length_map, List.length_map, List.length_zip, List.length_take]; omega
            refine ⟨_, _, _, rfl, rfl, hel5, smallL (by omega), gs ++ [.ref t], _, _, _, rfl, upd_same, ?_, (k3.trans k35).then_own nel⟩
            rw [et]
            exact (((hgn.keep (KI.of kT) fun b ys _ hb => kT _ _ hb (by simp)).keep (KI.of k35) fun b ys _ hb => k35 _ _ hb (by simp)).keep ki kl).snoc (ki.1 _ _ ht) (((h0.tk k3.tk).tk k35.tk).tk ki.1) ⟨us, kl _ _ nDD (kt _ _ hD2 (by simp)), (hur.keep (KI.of kt)).keep ki⟩ nDD
    · rintro σ H2 ⟨gs, o3, o4, o5, rfl, hel, hgn, k2⟩
      rw [show R.take xs.length = R by rw [hxl, List.take_length], show ms.take xs.length = ms by rw [hxl, ← hml, List.take_length]] at hgn
      refine ⟨_, rfl, fun x dx nx ndx ne => ?_⟩
      have km := Keep.made (o := .ins C_Plan dx []) nx ndx
      refine ⟨x, dx, el, gs, tab (pureW R ms), rfl, upd_same, km _ _ hel (by simp), (hgn.keep (KI.of km) fun b ys _ hb => km _ _ hb (by simp)).gl, fun e he => ?_, ?_, ?_, fun H3 hP K3 => ⟨rfl, k x H3 hP (k2.trans (keep_made nx ndx K3))⟩⟩
      · obtain ⟨e0, he0, rfl⟩ := List.mem_map.mp he
        obtain ⟨q0, hq0, rfl⟩ := List.mem_map.mp he0
        obtain ⟨j0, hj0⟩ := List.getElem?_of_mem hq0
        obtain ⟨g1, g2⟩ := List.getElem?_zip_eq_some.mp hj0
        have hr0 := hR _ (List.mem_of_getElem? g1)
        have hm0 := hm j0 _ _ g1 g2
        exact wr_lots (wok_pure (by omega) (by omega))
      · have : (tab (pureW R ms)).map (·.1) = R.map (·.1) := by
          unfold tab pureW
          rw [List.map_map, List.map_map]
          have : ((fun x : Ent2 => x.1) ∘ (fun e : WE => (e.1, wr e.2))) ∘ (fun p : Row × Nat => (p.1.1, pureL p.1.2.toNat p.2)) = (fun r : Row => r.1) ∘ Prod.fst := rfl
          rw [this, ← List.map_map, List.map_fst_zip (by omega)]
        rw [this]; exact hnd
      · unfold tab pureW; rw [List.length_map, List.length_map, List.length_zip]; omega
theorem ok_fits {f : Addr} {fd : FuncData} (D : C8.Def K mg "fits" s_fits f fd) (b : Binds K fd ["plan", "tree", "player"] []) (T : Txt K mg C_Ratio C_Plan C_End C_Lot C_Turn) (c_views_of : C8.Cal P w K mg base 7 "views_of" (sp_views C_End C_Lot C_Turn 5) []) (c_Plan_entries : C8.Met P w K mg base 1 C_Plan "entries" (sp_pentries P w C_Plan C_Ratio) []) : C8.Cal P w K mg base 8 "fits" (sp_fits P w C_End C_Lot C_Turn C_Plan C_Ratio) [] := by
  refine cal0 D b .nil sc_fits (fun vs H Q E h => ?_) (fun cdv A outer s H vs Q E hr h => ?_)
  · obtain ⟨x, v, pl, t, tm, rfl, _⟩ := h
    rfl
  · obtain ⟨x, v, pl, t, tm, rfl, hP, htl, hT, hh, hn, hnd, k⟩ := h
    refine ⟨_, (pss_cons (ps_set (i := 3) sc_fits.nd rfl (by first | exact Or.inl rfl | exact Or.inr rfl) (pe_callTy (call_dictN rfl (un65 hr)) (by rfl) T.n_dict bo_dict (pa_cons (pe_c c_views_of hr (by first | exact Nat.le_refl _ | decide | omega) rfl (pa_cons (pv 1) (pa_cons (pv 2) pa_nil))) pa_nil)))
(pss_one (ps_ret (pe_callB (cr_all rfl) (by rfl) T.n_all bo_all (pa_cons (pe_lc (own := [("view", 4), ("lots", 5)]) (g := (gTup K 2 (gCons (gName 4) (gCons (gName 5) gNil)))) (tt := tYes) rfl sc_fits.nd (pi_list (pe_mt0 c_Plan_entries hr (by first | exact Nat.le_refl _ | decide | omega) (pv 0))) (blkOk_by (N := ["plan", "tree", "player", "counts", "view", "lots"]) (sc := fnScope s_fits) (by decide +kernel)) (fun _ _ _ _ _ => pg_tupK (K := K) (n := 2) (t := (gCons (gName 4) (gCons (gName 5) gNil))) (pgs_cons (pg_name (i := 4) sc_fits.nd rfl (by first | exact Or.inl rfl | exact Or.inr rfl)) (pgs_cons (pg_name (i := 5) sc_fits.nd rfl (by first | exact Or.inl rfl | exact Or.inr rfl)) pgs_nil))) (fun _ _ _ _ _ => pts_nil) (fun _ _ _ _ _ => (pe_cmpR op_eq (pe_nget2 (P := P) (w := w) (un65 hr) (pv 3) (pv 4) pe_int ⟨rfl, by rfl, rfl, rfl⟩) (pe_callB (call_len_seqK (K := K)) (by rfl) T.n_len bo_len (pa_cons (pv 5) pa_nil)) (nomark _)))) pa_nil))))), ?_⟩
    refine ⟨_, rfl, _, rfl, v, tm, pl, rfl, hT, hh, by omega, fun l xs H1 nl hl hxs K1 => ?_⟩
    generalize coll pl tm [] = R at *
    obtain ⟨ts, ps, rfl, hpp, hfe⟩ := rows_pairs (K := K) hxs
    refine ⟨l, ts, ps, rfl, SqL.of hl, hpp, fun d nd => ?_⟩
    rw [show putsN [] ps = ps from puts_new hfe .nil (by simpa using hnd)]
    have kd := Keep.new (W := []) (o := ndO P w d ps) nd
    have hd : upd H1 d (ndO P w d ps) d = some (ndO P w d ps) := upd_same
    have K12 := K1.trans kd
    have hfe2 := hfe.tk kd.tk
    obtain ⟨dx, d0, xs0, hx0, _, _⟩ := id hP
    refine ⟨_, rfl, x, dx, _, rfl, K12 _ _ hx0 (by simp), rfl, x, t, rfl, hP.keep K12, htl, fun l2 gs H3 nl2 hgs hgl K3 => ⟨l2, rfl, ⟨_, SqL.of hgs⟩, fun D nD => ?_⟩⟩
    have hd3 := K3 _ _ hd (by simp)
    have hfe3 := hfe2.tk K3.tk
    have hgsl := hgl.len
    refine lc_list (K := K) (a := l2) (xs := gs) (fun i H' => H' D = some (.lst ((t.take i).map fun e => V.bl (decide (((R.find? fun r => decide (r.1 = e.1)).map (·.2)).getD 0 = (e.2.length : Int))))) ∧ Keep [] H3 H') ⟨upd_same, Keep.new nD⟩ (fun i H' _ ⟨_, kk⟩ => SqL.of (kk _ _ hgs (by simp))) ?_ ?_
    · rintro i y H4 hy ⟨hD, kk⟩
      obtain ⟨q, l0, vw, L, rs, rfl, hti, hq, hvw, ⟨ys, hys, hrl⟩⟩ := hgl.get hy
      obtain ⟨hil, hie⟩ := List.getElem?_eq_some_iff.mp hti
      have hd4 := kk _ _ hd3 (by simp)
      have hvw4 := hvw.tk kk.tk
      obtain ⟨bb, vxs, rfl, _, _, _⟩ := td_grow hvw4
      refine ⟨q, _, rfl, SqT.of (kk _ _ hq (by simp)), rfl, _, _, rfl, _, _, rfl, rfl, rfl, yes_then ⟨_, rfl, d, ps, rfl, .inl hd4, _, rfl, _, ⟨ps, keyV L, bb, ⟨.inl hd4, (hfe3.tk kk.tk).nk⟩, rfl, nk_view hvw4, depth_kv _, rfl⟩, ?_⟩⟩
      rw [hfe.valv]
      refine ⟨_, rfl, l0, ys, rfl, .inl (SqL.of (kk _ _ hys (by simp))), ?_⟩
      have ev : ((R.find? fun x => decide (x.1 = L)).map fun r => V.int r.2).getD (V.int 0) = V.int (((R.find? fun r => decide (r.1 = L)).map (·.2)).getD 0) := by
        cases R.find? fun x => decide (x.1 = L) <;> rfl
      rw [ev]
      refine ⟨rfl, _, hD, smallL (by rw [List.length_map, List.length_take]; omega), ?_, kk.then_own nD⟩
      rw [List.take_succ_eq_append_getElem hil, hie, List.map_append, upd_same, hrl.len]
      congr 3
      by_cases hz : ((R.find? fun r => decide (r.1 = L)).map (·.2)).getD 0 = (rs.length : Int)
      · show [V.bl (decide (V.int _ = V.int _))] = [V.bl (decide _)]
        rw [decide_eq_true hz, decide_eq_true (by rw [hz])]
      · show [V.bl (decide (V.int _ = V.int _))] = [V.bl (decide _)]
        rw [decide_eq_false hz, decide_eq_false (fun z => hz (V.int.inj z))]
    · rintro H4 ⟨hD, kk⟩
      rw [hgsl, List.take_length] at hD
      refine ⟨D, t.map fun e => decide (((R.find? fun r => decide (r.1 = e.1)).map (·.2)).getD 0 = (e.2.length : Int)), rfl, SqL.of (by rw [List.map_map]; exact hD), ?_⟩
      rw [List.all_map]
      exact k _ ((K12.trans K3).trans kk)
end

/-! plain law: the tree's views are the ones met on the paths -/
def lq (S : List Stg) : Nat → List Nat → List (List Nat)
  | 0, p => [p]
  | n + 1, p => (List.range (stg S p.length).sz).flatMap fun k => lq S n (p ++ [k])
theorem drop_stg {S : List Stg} {j : Nat} (h : j < S.length) : S.drop j = stg S j :: S.drop (j + 1) := by
  rw [List.drop_eq_getElem_cons h]
  congr 1
  unfold stg
  rw [List.getD_eq_getElem?_getD, List.getElem?_eq_getElem h]; rfl
theorem flat_congr {α β : Type} {f g : α → List β} : ∀ {L : List α}, (∀ a ∈ L, f a = g a) → L.flatMap f = L.flatMap g
  | [], _ => rfl
  | a :: L, h => by
    rw [List.flatMap_cons, List.flatMap_cons, h a (List.mem_cons_self ..), flat_congr fun b hb => h b (List.mem_cons_of_mem _ hb)]
theorem paths_lq (S : List Stg) : ∀ (n j : Nat) (ps : List (List Nat)), j + n = S.length → (∀ p ∈ ps, p.length = j) → paths (S.drop j) ps = ps.flatMap (lq S n)
  | 0, j, ps, h, _ => by
    rw [List.drop_eq_nil_of_le (by omega)]
    show ps = ps.flatMap fun p => [p]
    simp
  | n + 1, j, ps, h, hp => by
    rw [drop_stg (by omega)]
    show paths (S.drop (j + 1)) (ps.flatMap (ext1 (stg S j).sz)) = _
    rw [paths_lq S n (j + 1) _ (by omega) (fun q hq => by
      obtain ⟨p, h1, h2⟩ := List.mem_flatMap.mp hq
      obtain ⟨k, _, rfl⟩ := List.mem_map.mp h2
      rw [List.length_append, hp p h1]; rfl)]
    rw [List.flatMap_assoc]
    refine flat_congr fun p h1 => ?_
    show (ext1 (stg S j).sz p).flatMap (lq S n) = (List.range (stg S p.length).sz).flatMap fun k => lq S n (p ++ [k])
    rw [hp p h1]
    unfold ext1
    rw [List.flatMap_map]
theorem paths_all (S : List Stg) : paths S [[]] = lq S S.length [] := by
  have := paths_lq S S.length 0 [[]] (by omega) (fun p h => by rw [List.mem_singleton.mp h]; rfl)
  rw [List.drop_zero] at this
  rw [this]; simp
theorem lq_ne {S : List Stg} (h : ∀ k, 1 ≤ (stg S k).sz) : ∀ (n : Nat) (p : List Nat), lq S n p ≠ []
  | 0, p, e => by cases e
  | n + 1, p, e => by
    have h0 : (0 : Nat) ∈ List.range (stg S p.length).sz := List.mem_range.mpr (h _)
    have h1 := List.flatMap_eq_nil_iff.mp e 0 h0
    exact lq_ne h n _ h1
theorem lq_ext {S : List Stg} : ∀ (n : Nat) (p q : List Nat), q ∈ lq S n p → q.take p.length = p
  | 0, p, q, h => by rw [List.mem_singleton.mp h, List.take_length]
  | n + 1, p, q, h => by
    obtain ⟨k, _, hk⟩ := List.mem_flatMap.mp h
    have e := lq_ext n (p ++ [k]) q hk
    have : (q.take (p ++ [k]).length).take p.length = (p ++ [k]).take p.length := by rw [e]
    rw [List.take_take, List.take_left] at this
    rw [show min p.length (p ++ [k]).length = p.length by rw [List.length_append]; simp] at this
    exact this
def stepM (S : List Stg) (pl : Nat) (q : List Nat) (j : Nat) (f : List Row) : List Row := if (stg S j).pl = pl then insR f (asked S q j, ((stg S j).sz : Int)) else f
def met2 (S : List Stg) (pl : Nat) (q : List Nat) : Nat → Nat → List Row → List Row
  | _, 0, f => f
  | j, n + 1, f => met2 S pl q (j + 1) n (stepM S pl q j f)
theorem met2_snoc (S : List Stg) (pl : Nat) (q : List Nat) : ∀ (n j : Nat) (f : List Row), met2 S pl q j (n + 1) f = stepM S pl q (j + n) (met2 S pl q j n f)
  | 0, j, f => rfl
  | n + 1, j, f => by
    show met2 S pl q (j + 1) (n + 1) (stepM S pl q j f) = stepM S pl q (j + (n + 1)) (met2 S pl q (j + 1) n (stepM S pl q j f))
    rw [met2_snoc S pl q n (j + 1), show j + 1 + n = j + (n + 1) by omega]
theorem metK_two (S : List Stg) (pl : Nat) (q : List Nat) : ∀ (n : Nat) (f : List Row), metK S pl q n f = met2 S pl q 0 n f
  | 0, f => rfl
  | n + 1, f => by
    rw [met2_snoc, ← metK_two S pl q n f, Nat.zero_add]; rfl
/-- f holds rows whose view ends with the move of that many choices -/
def InvR (f : List Row) : Prop := ∀ x ∈ f, ∃ (v : List Ev) (m : Int), x.1 = v ++ [(("move" : Str), [m, x.2])]
theorem asked_row (S : List Stg) (q : List Nat) (j : Nat) : ∃ (v : List Ev) (m : Int), (asked S q j, ((stg S j).sz : Int)).1 = v ++ [(("move" : Str), [m, (asked S q j, ((stg S j).sz : Int)).2])] := ⟨_, _, rfl⟩
theorem insR_sub (f : List Row) (r : Row) : ∀ x ∈ f, x ∈ insR f r := fun x h => by
  unfold insR
  split
  · exact h
  · exact List.mem_append_left _ h
theorem insR_mem (f : List Row) (r : Row) : r ∈ insR f r := by
  unfold insR
  split
  · assumption
  · simp
theorem insR_inv {f : List Row} {r : Row} (h : InvR f) (g : ∃ (v : List Ev) (m : Int), r.1 = v ++ [(("move" : Str), [m, r.2])]) : InvR (insR f r) := fun x hx => by
  unfold insR at hx
  split at hx
  · exact h x hx
  · rcases List.mem_append.mp hx with z | z
    · exact h x z
    · rw [List.mem_singleton.mp z]; exact g
theorem insR_in {f : List Row} {r : Row} (h : r ∈ f) : insR f r = f := by unfold insR; rw [if_pos h]
theorem insV_insR {f : List Row} {r : Row} (h : InvR f) (g : ∃ (v : List Ev) (m : Int), r.1 = v ++ [(("move" : Str), [m, r.2])]) : insV f r = insR f r := by
  unfold insV insR
  by_cases hr : r ∈ f
  · rw [if_pos hr, if_pos (List.any_eq_true.mpr ⟨r, hr, by simp⟩)]
  · rw [if_neg hr, if_neg]
    intro z
    obtain ⟨x, hx, e⟩ := List.any_eq_true.mp z
    have e1 : x.1 = r.1 := of_decide_eq_true e
    obtain ⟨v, m, hv⟩ := h x hx
    obtain ⟨v', m', hv'⟩ := g
    rw [hv, hv'] at e1
    have e2 := (List.append_inj' e1 rfl).2
    have e3 : x.2 = r.2 := by
      have := (List.cons.inj e2).1
      have := (Prod.mk.inj this).2
      have := (List.cons.inj (List.cons.inj this).2).1
      exact this
    have e4 : x = r := Prod.ext (by rw [hv, hv', e1]) e3
    exact hr (by rw [← e4]; exact hx)
theorem stepM_sub (S : List Stg) (pl : Nat) (q : List Nat) (j : Nat) (f : List Row) : ∀ x ∈ f, x ∈ stepM S pl q j f := fun x h => by
  unfold stepM
  split
  · exact insR_sub _ _ x h
  · exact h
theorem met2_sub (S : List Stg) (pl : Nat) (q : List Nat) : ∀ (n j : Nat) (f : List Row), ∀ x ∈ f, x ∈ met2 S pl q j n f
  | 0, _, _, x, h => h
  | n + 1, j, f, x, h => met2_sub S pl q n (j + 1) _ x (stepM_sub S pl q j f x h)
theorem stepM_inv {S : List Stg} {pl : Nat} {q : List Nat} {j : Nat} {f : List Row} (h : InvR f) : InvR (stepM S pl q j f) := by
  unfold stepM
  split
  · exact insR_inv h (asked_row S q j)
  · exact h
theorem met2_inv {S : List Stg} {pl : Nat} {q : List Nat} : ∀ (n j : Nat) {f : List Row}, InvR f → InvR (met2 S pl q j n f)
  | 0, _, _, h => h
  | n + 1, j, f, h => met2_inv n (j + 1) (stepM_inv h)
theorem fold_inv {α : Type} {g : List Row → α → List Row} (hg : ∀ f a, InvR f → InvR (g f a)) : ∀ (L : List α) (f : List Row), InvR f → InvR (L.foldl g f)
  | [], _, h => h
  | a :: L, f, h => fold_inv hg L _ (hg f a h)
theorem fold_sub {α : Type} {g : List Row → α → List Row} (hg : ∀ f a, ∀ x ∈ f, x ∈ g f a) : ∀ (L : List α) (f : List Row), ∀ x ∈ f, x ∈ L.foldl g f
  | [], _, x, h => h
  | a :: L, f, x, h => fold_sub hg L _ x (hg f a x h)
theorem fold_same {α : Type} {g : List Row → α → List Row} {r : Row} (hg : ∀ f a, ∀ x ∈ f, x ∈ g f a) : ∀ (L : List α) (f : List Row), r ∈ f → L.foldl (fun f a => g (insR f r) a) f = L.foldl g f
  | [], _, _ => rfl
  | a :: L, f, h => by
    show L.foldl _ (g (insR f r) a) = L.foldl g (g f a)
    rw [insR_in h]
    exact fold_same hg L _ (hg f a r h)
theorem fold_once {α : Type} {g : List Row → α → List Row} {r : Row} (hg : ∀ f a, ∀ x ∈ f, x ∈ g f a) {L : List α} (hL : L ≠ []) (f : List Row) : L.foldl (fun f a => g (insR f r) a) f = L.foldl g (insR f r) := by
  cases L with
  | nil => exact absurd rfl hL
  | cons a L =>
    show L.foldl _ (g (insR f r) a) = L.foldl g (g (insR f r) a)
    exact fold_same hg L _ (hg _ a r (insR_mem f r))
theorem fold_congr {α β : Type} {g h : β → α → β} : ∀ (L : List α) (f : β), (∀ a ∈ L, ∀ f, g f a = h f a) → L.foldl g f = L.foldl h f
  | [], _, _ => rfl
  | a :: L, f, e => by
    show L.foldl g (g f a) = L.foldl h (h f a)
    rw [e a (List.mem_cons_self ..)]
    exact fold_congr L _ fun b hb => e b (List.mem_cons_of_mem _ hb)
theorem coll_met {S : List Stg} (hs : ∀ k, 1 ≤ (stg S k).sz) (pl : Nat) (h1 : pl ≠ 0) : ∀ (n : Nat) (p : List Nat) (f : List Row), InvR f → coll pl (treeM S none n p) f = (lq S n p).foldl (fun f q => met2 S pl q p.length n f) f
  | 0, p, f, _ => rfl
  | n + 1, p, f, hf => by
    have kids : ∀ (L : List Nat) (f : List Row), InvR f → colls pl (L.map fun k => treeM S none n (p ++ [k])) f = (L.flatMap fun k => lq S n (p ++ [k])).foldl (fun f q => met2 S pl q (p.length + 1) n f) f := by
      intro L
      induction L with
      | nil => intro f _; rfl
      | cons k L ih =>
        intro f hf
        show colls pl (L.map fun k => treeM S none n (p ++ [k])) (coll pl (treeM S none n (p ++ [k])) f) = _
        rw [List.flatMap_cons, List.foldl_append, coll_met hs pl h1 n (p ++ [k]) f hf]
        have e : (p ++ [k]).length = p.length + 1 := by simp
        rw [e]
        exact ih _ (fold_inv (fun f q h => met2_inv n _ h) _ _ hf)
    have hlen : ((List.range (stg S p.length).sz).map fun k => treeM S none n (p ++ [k])).length = (stg S p.length).sz := by rw [List.length_map, List.length_range]
    have rhs : (lq S (n + 1) p).foldl (fun f q => met2 S pl q p.length (n + 1) f) f = (lq S (n + 1) p).foldl (fun f q => met2 S pl q (p.length + 1) n f) (if (stg S p.length).pl = pl then insR f (asked S p p.length, ((stg S p.length).sz : Int)) else f) := by
      have e1 : (lq S (n + 1) p).foldl (fun f q => met2 S pl q p.length (n + 1) f) f = (lq S (n + 1) p).foldl (fun f q => met2 S pl q (p.length + 1) n (if (stg S p.length).pl = pl then insR f (asked S p p.length, ((stg S p.length).sz : Int)) else f)) f := by
        refine fold_congr _ _ fun q hq f => ?_
        show met2 S pl q (p.length + 1) n (stepM S pl q p.length f) = _
        unfold stepM
        rw [show asked S q p.length = asked S p p.length by rw [← asked_take S q, lq_ext _ _ _ hq]]
      rw [e1]
      by_cases hp : (stg S p.length).pl = pl
      · simp only [if_pos hp]
        exact fold_once (g := fun f q => met2 S pl q (p.length + 1) n f) (fun f q x h => met2_sub S pl q n _ f x h) (lq_ne hs _ _) f
      · simp only [if_neg hp]
    rw [rhs]
    show coll pl (if (stg S p.length).pl = 0 then .lot ((List.range (stg S p.length).sz).map fun k => treeM S none n (p ++ [k])) else .turn (stg S p.length).pl (asked S p p.length) ((List.range (stg S p.length).sz).map fun k => treeM S none n (p ++ [k]))) f = _
    by_cases h0 : (stg S p.length).pl = 0
    · rw [if_pos h0, if_neg (by rw [h0]; exact fun z => h1 z.symm)]
      exact kids _ f hf
    · rw [if_neg h0]
      show colls pl _ (if (stg S p.length).pl = pl then insV f (asked S p p.length, (((List.range (stg S p.length).sz).map fun k => treeM S none n (p ++ [k])).length : Int)) else f) = _
      rw [hlen, insV_insR hf (asked_row S p p.length)]
      refine kids _ _ ?_
      split
      · exact insR_inv hf (asked_row S p p.length)
      · exact hf
theorem tree_met {S : List Stg} (hs : ∀ k, 1 ≤ (stg S k).sz) {pl : Nat} (h1 : pl ≠ 0) : coll pl (treeM S none S.length []) [] = met S pl := by
  rw [coll_met hs pl h1 _ _ _ (fun x h => by cases h)]
  unfold met
  rw [paths_all]
  exact fold_congr _ _ fun q _ f => (metK_two S pl q S.length f).symm
theorem met_sz (S : List Stg) (pl : Nat) : ∀ r ∈ met S pl, ∃ j, r.2 = ((stg S j).sz : Int) := by
  have step : ∀ q j f, (∀ r ∈ f, ∃ j, r.2 = ((stg S j).sz : Int)) → ∀ r ∈ metK S pl q j f, ∃ j, r.2 = ((stg S j).sz : Int) := by
    intro q j
    induction j with
    | zero => intro f h; exact h
    | succ j ih =>
      intro f h
      unfold metK insR
      split
      · split
        · exact ih f h
        · intro r hr
          rcases List.mem_append.mp hr with z | z
          · exact ih f h r z
          · rw [List.mem_singleton.mp z]; exact ⟨j, rfl⟩
      · exact ih f h
  have all : ∀ (L : List (List Nat)) (f : List Row), (∀ r ∈ f, ∃ j, r.2 = ((stg S j).sz : Int)) → ∀ r ∈ L.foldl (fun f p => metK S pl p S.length f) f, ∃ j, r.2 = ((stg S j).sz : Int) := by
    intro L
    induction L with
    | nil => intro f h; exact h
    | cons a L ih => intro f h; exact ih _ (step a _ f h)
  exact all _ [] (fun r h => by cases h)
theorem met_ok (S : List Stg) (pl : Nat) : ∀ r ∈ met S pl, ∀ e ∈ r.1, OkE e := by
  have all : ∀ (L : List (List Nat)) (f : List Row), (∀ r ∈ f, ∀ e ∈ r.1, OkE e) → ∀ r ∈ L.foldl (fun f p => metK S pl p S.length f) f, ∀ e ∈ r.1, OkE e := by
    intro L
    induction L with
    | nil => intro f h; exact h
    | cons a L ih => intro f h; exact ih _ (metK_ok S pl a _ f h)
  exact all _ [] (fun r h => by cases h)
theorem met_len (S : List Stg) (pl : Nat) : (met S pl).length ≤ prodS S * S.length := by
  have all : ∀ (L : List (List Nat)) (f : List Row), (L.foldl (fun f p => metK S pl p S.length f) f).length ≤ f.length + L.length * S.length := by
    intro L
    induction L with
    | nil => intro f; show f.length ≤ f.length + 0 * _; omega
    | cons a L ih =>
      intro f
      have h1 := ih (metK S pl a S.length f)
      have h2 := metK_len S pl a S.length f
      show (L.foldl _ (metK S pl a S.length f)).length ≤ f.length + (L.length + 1) * S.length
      rw [Nat.add_mul]
      omega
  have := all (paths S [[]]) []
  rw [paths_len] at this
  unfold met
  simpa using this
/-- a stage of the player is met -/
theorem met_some {S : List Stg} (hs : ∀ k, 1 ≤ (stg S k).sz) {pl j : Nat} (hj : j < S.length) (hp : (stg S j).pl = pl) : met S pl ≠ [] := by
  have one : ∀ q f k, j < k → metK S pl q k f ≠ [] := by
    intro q f k
    induction k with
    | zero => intro h; omega
    | succ k ih =>
      intro h
      by_cases e : j = k
      · subst e
        show (if (stg S j).pl = pl then insR (metK S pl q j f) (asked S q j, ((stg S j).sz : Int)) else metK S pl q j f) ≠ []
        rw [if_pos hp]
        intro z
        have := insR_mem (metK S pl q j f) (asked S q j, ((stg S j).sz : Int))
        rw [z] at this; cases this
      · have h2 := ih (by omega)
        show (if (stg S k).pl = pl then insR (metK S pl q k f) (asked S q k, ((stg S k).sz : Int)) else metK S pl q k f) ≠ []
        split
        · intro z
          cases hm : metK S pl q k f with
          | nil => exact h2 hm
          | cons x r =>
            have := insR_sub (metK S pl q k f) (asked S q k, ((stg S k).sz : Int)) x (by rw [hm]; simp)
            rw [z] at this; cases this
        · exact h2
  intro z
  unfold met at z
  rw [paths_all] at z
  cases hL : lq S S.length [] with
  | nil => exact lq_ne hs _ _ hL
  | cons q L =>
    rw [hL] at z
    have h1 := one q [] S.length hj
    cases hm : metK S pl q S.length [] with
    | nil => exact h1 hm
    | cons x r =>
      have : x ∈ L.foldl (fun f p => metK S pl p S.length f) (metK S pl q S.length []) := fold_sub (fun f a x h => by rw [metK_two]; exact met2_sub S pl a _ _ f x h) L _ x (by rw [hm]; simp)
      have z2 : L.foldl (fun f p => metK S pl p S.length f) (metK S pl q S.length []) = [] := z
      rw [z2] at this; cases this
theorem met_none {S : List Stg} {pl : Nat} (h : ∀ j, j < S.length → (stg S j).pl ≠ pl) : met S pl = [] := by
  have one : ∀ q f k, k ≤ S.length → metK S pl q k f = f := by
    intro q f k
    induction k with
    | zero => intro _; rfl
    | succ k ih =>
      intro hk
      show (if (stg S k).pl = pl then _ else metK S pl q k f) = f
      rw [if_neg (h k (by omega)), ih (by omega)]
  unfold met
  rw [fold_congr (h := fun f _ => f) _ _ (fun q _ f => one q f S.length (Nat.le_refl _))]
  have : ∀ (L : List (List Nat)) (f : List Row), L.foldl (fun f _ => f) f = f := by
    intro L
    induction L with
    | nil => intro f; rfl
    | cons a L ih => intro f; exact ih f
  exact this _ _

theorem metK_inv (S : List Stg) (pl : Nat) (p : List Nat) : ∀ k f, InvR f → InvR (metK S pl p k f)
  | 0, _, h => h
  | k + 1, f, h => by
    have ih := metK_inv S pl p k f h
    unfold metK
    split
    · exact insR_inv ih (asked_row S p k)
    · exact ih
theorem insR_nodup {f : List Row} {r : Row} (h : InvR f) (g : ∃ (v : List Ev) (m : Int), r.1 = v ++ [(("move" : Str), [m, r.2])]) (n : (f.map (·.1)).Nodup) : ((insR f r).map (·.1)).Nodup := by
  unfold insR
  split
  · exact n
  · rename_i hr
    rw [List.map_append, List.map_cons, List.map_nil]
    refine List.nodup_append.mpr ⟨n, by simp, fun x hx y hy => ?_⟩
    rw [List.mem_singleton.mp hy]
    intro e
    obtain ⟨q, hq, rfl⟩ := List.mem_map.mp hx
    obtain ⟨v, m, hv⟩ := h q hq
    obtain ⟨v', m', hv'⟩ := g
    have e0 := e
    rw [hv, hv'] at e
    have e2 := (List.append_inj' e rfl).2
    have e3 : q.2 = r.2 := by
      have := (List.cons.inj e2).1
      have := (Prod.mk.inj this).2
      exact (List.cons.inj (List.cons.inj this).2).1
    exact hr (by rw [← show q = r from Prod.ext e0 e3]; exact hq)
theorem metK_nodup (S : List Stg) (pl : Nat) (p : List Nat) : ∀ k f, InvR f → (f.map (·.1)).Nodup → ((metK S pl p k f).map (·.1)).Nodup
  | 0, _, _, n => n
  | k + 1, f, h, n => by
    have ih := metK_nodup S pl p k f h n
    unfold metK
    split
    · exact insR_nodup (metK_inv S pl p k f h) (asked_row S p k) ih
    · exact ih
theorem met_nodup (S : List Stg) (pl : Nat) : ((met S pl).map (·.1)).Nodup := by
  have all : ∀ (L : List (List Nat)) (f : List Row), InvR f → (f.map (·.1)).Nodup → ((L.foldl (fun f p => metK S pl p S.length f) f).map (·.1)).Nodup := by
    intro L
    induction L with
    | nil => intro f _ n; exact n
    | cons a L ih => intro f h n; exact ih _ (metK_inv S pl a _ f h) (metK_nodup S pl a _ f h n)
  exact all _ [] (fun x h => by cases h) (by simp)
def Zer (L : List Ev) : Prop := ∃ t, L = (("round" : Str), [0]) :: t
theorem vw_zer (S : List Stg) (pl : Nat) (p : List Nat) : ∀ k, Zer (vw S pl p k)
  | 0 => ⟨[], rfl⟩
  | k + 1 => by
    obtain ⟨t, ht⟩ := vw_zer S pl p k
    unfold vw
    rw [ht]
    exact ⟨_, rfl⟩
theorem asked_zer (S : List Stg) (p : List Nat) (k : Nat) : Zer (asked S p k) := by
  obtain ⟨t, ht⟩ := vw_zer S (stg S k).pl p k
  unfold asked
  rw [ht]
  exact ⟨_, rfl⟩
theorem met_zer (S : List Stg) (pl : Nat) : ∀ r ∈ met S pl, Zer r.1 := by
  have step : ∀ q j f, (∀ r ∈ f, Zer r.1) → ∀ r ∈ metK S pl q j f, Zer r.1 := by
    intro q j
    induction j with
    | zero => intro f h; exact h
    | succ j ih =>
      intro f h
      unfold metK insR
      split
      · split
        · exact ih f h
        · intro r hr
          rcases List.mem_append.mp hr with z | z
          · exact ih f h r z
          · rw [List.mem_singleton.mp z]; exact asked_zer S q j
      · exact ih f h
  have all : ∀ (L : List (List Nat)) (f : List Row), (∀ r ∈ f, Zer r.1) → ∀ r ∈ L.foldl (fun f p => metK S pl p S.length f) f, Zer r.1 := by
    intro L
    induction L with
    | nil => intro f h; exact h
    | cons a L ih => intro f h; exact ih _ (step a _ f h)
  exact all _ [] (fun r h => by cases h)

theorem cutTake (xs : List V) (k : Nat) : cutV xs none (some (k : Int)) = xs.take k := by
  unfold cutV
  rw [HT.sIx_none, HT.sIx_nat, List.drop_zero, Nat.sub_zero]
  rcases Nat.le_total k xs.length with h | h
  · rw [Nat.min_eq_left h]
  · rw [Nat.min_eq_right h, List.take_length, List.take_of_length_le h]
theorem cutDrop (xs : List V) (k : Nat) : cutV xs (some (k : Int)) none = xs.drop k := by
  unfold cutV
  rw [HT.sIx_none, HT.sIx_nat]
  rcases Nat.le_total k xs.length with h | h
  · rw [Nat.min_eq_left h]
    exact List.take_of_length_le (by rw [List.length_drop]; omega)
  · rw [Nat.min_eq_right h, Nat.sub_self, List.take_zero, List.drop_eq_nil_of_le h]

/-! plain law: which views are met, what fits -/
theorem met_from (S : List Stg) (pl : Nat) : ∀ r ∈ met S pl, ∃ (p : List Nat) (j : Nat), j < S.length ∧ (stg S j).pl = pl ∧ r = (asked S p j, ((stg S j).sz : Int)) := by
  have step : ∀ q j f, j ≤ S.length → (∀ r ∈ f, ∃ (p : List Nat) (j : Nat), j < S.length ∧ (stg S j).pl = pl ∧ r = (asked S p j, ((stg S j).sz : Int))) → ∀ r ∈ metK S pl q j f, ∃ (p : List Nat) (j : Nat), j < S.length ∧ (stg S j).pl = pl ∧ r = (asked S p j, ((stg S j).sz : Int)) := by
    intro q j
    induction j with
    | zero => intro f _ h; exact h
    | succ j ih =>
      intro f hj h
      unfold metK insR
      split
      · rename_i hp
        split
        · exact ih f (by omega) h
        · intro r hr
          rcases List.mem_append.mp hr with z | z
          · exact ih f (by omega) h r z
          · rw [List.mem_singleton.mp z]; exact ⟨q, j, by omega, hp, rfl⟩
      · exact ih f (by omega) h
  have all : ∀ (L : List (List Nat)) (f : List Row), (∀ r ∈ f, ∃ (p : List Nat) (j : Nat), j < S.length ∧ (stg S j).pl = pl ∧ r = (asked S p j, ((stg S j).sz : Int))) → ∀ r ∈ L.foldl (fun f p => metK S pl p S.length f) f, ∃ (p : List Nat) (j : Nat), j < S.length ∧ (stg S j).pl = pl ∧ r = (asked S p j, ((stg S j).sz : Int)) := by
    intro L
    induction L with
    | nil => intro f h; exact h
    | cons a L ih => intro f h; exact ih _ (step a _ f (Nat.le_refl _) h)
  exact all _ [] (fun r h => by cases h)
theorem nm_le (S : List Stg) : ∀ {j k : Nat}, j ≤ k → nm S j ≤ nm S k
  | j, 0, h => by rw [show j = 0 by omega]; exact Int.le_refl _
  | j, k + 1, h => by
    rcases Nat.lt_or_ge j (k + 1) with z | z
    · have := nm_le S (j := j) (k := k) (by omega)
      show nm S j ≤ nm S k + _
      split <;> omega
    · rw [show j = k + 1 by omega]; exact Int.le_refl _
theorem nm_lt (S : List Stg) {j k : Nat} (h : j < k) (hp : (stg S j).pl ≠ 0) : nm S j < nm S k := by
  have h1 : nm S (j + 1) = nm S j + 1 := by
    show nm S j + _ = _
    rw [if_pos hp]
  have h2 := nm_le S (j := j + 1) (k := k) h
  omega
theorem asked_form (S : List Stg) (p : List Nat) (j : Nat) : ∃ t, asked S p j = (("round" : Str), [0]) :: (t ++ [(("move" : Str), [nm S j, ((stg S j).sz : Int)])]) := by
  obtain ⟨t, ht⟩ := vw_zer S (stg S j).pl p j
  unfold asked
  rw [ht]
  exact ⟨t ++ rdE S j, by simp⟩
theorem vw_len_eq (S : List Stg) (pl : Nat) (p q : List Nat) : ∀ k, (vw S pl p k).length = (vw S pl q k).length
  | 0 => rfl
  | k + 1 => by
    have := vw_len_eq S pl p q k
    unfold vw
    rw [List.length_append, List.length_append, List.length_append, List.length_append, List.length_append, List.length_append, this]
    congr 1
    · congr 1
      split <;> rfl
    · split <;> rfl
theorem asked_len_eq (S : List Stg) (p q : List Nat) (k : Nat) : (asked S p k).length = (asked S q k).length := by
  unfold asked
  rw [List.length_append, List.length_append, List.length_append, List.length_append, vw_len_eq S _ p q k]
/-- the last event tells the stage -/
theorem asked_stage {S : List Stg} {q : List Nat} {j k : Nat} (hj : (stg S j).pl ≠ 0) (hk : (stg S k).pl ≠ 0) {x : Ev} {t : List Ev} (h : x :: (t ++ [(("move" : Str), [nm S j, ((stg S j).sz : Int)])]) = asked S q k) : j = k := by
  obtain ⟨t', ht⟩ := asked_form S q k
  rw [ht] at h
  have h1 := (List.cons.inj h).2
  have h2 := (List.append_inj' h1 rfl).2
  have h3 := (Prod.mk.inj (List.cons.inj h2).1).2
  have h4 : nm S j = nm S k := (List.cons.inj h3).1
  rcases Nat.lt_trichotomy j k with z | z | z
  · have := nm_lt S z hj; omega
  · exact z
  · have := nm_lt S z hk; omega
def lookR (R : List Row) (L : List Ev) : Int := ((R.find? fun r => decide (r.1 = L)).map (·.2)).getD 0
theorem lookR_none {R : List Row} {L : List Ev} (h : L ∉ R.map (·.1)) : lookR R L = 0 := by
  unfold lookR
  rw [List.find?_eq_none.mpr fun x hx z => h (List.mem_map.mpr ⟨x, hx, of_decide_eq_true z⟩)]; rfl
theorem lookR_mem : ∀ {R : List Row} {r : Row}, (R.map (·.1)).Nodup → r ∈ R → lookR R r.1 = r.2
  | x :: R, r, hn, hm => by
    rw [List.map_cons, List.nodup_cons] at hn
    by_cases e : x.1 = r.1
    · unfold lookR
      rw [List.find?_cons, decide_eq_true e]
      rcases List.mem_cons.mp hm with rfl | hm
      · rfl
      · exact absurd (List.mem_map.mpr ⟨r, hm, e.symm⟩) hn.1
    · have ih : r ∈ R := by
        rcases List.mem_cons.mp hm with rfl | hm
        · exact absurd rfl e
        · exact hm
      have := lookR_mem hn.2 ih
      unfold lookR at this ⊢
      rw [List.find?_cons, decide_eq_false e]
      exact this
theorem fitsB_true {R : List Row} {t : List Ent2} (h : ∀ e ∈ t, lookR R e.1 = (e.2.length : Int)) : fitsB R t = true :=
  List.all_eq_true.mpr fun e he => decide_eq_true (h e he)
theorem fitsB_false {R : List Row} {t : List Ent2} {e : Ent2} (he : e ∈ t) (h : lookR R e.1 ≠ (e.2.length : Int)) : fitsB R t = false := by
  cases hb : fitsB R t with
  | false => rfl
  | true => exact absurd (of_decide_eq_true (List.all_eq_true.mp hb e he)) h
theorem wr_length (ws : List Nat) : (wr ws).length = ws.length := by unfold wr; rw [List.length_map]
theorem even_good {R : List Row} (hn : (R.map (·.1)).Nodup) (hR : ∀ r ∈ R, 1 ≤ r.2) : ∀ e ∈ tab (evenW R), lookR R e.1 = (e.2.length : Int) := fun e he => by
  obtain ⟨e0, he0, rfl⟩ := List.mem_map.mp he
  obtain ⟨r, hr, rfl⟩ := List.mem_map.mp he0
  have := hR r hr
  show lookR R r.1 = ((wr (List.replicate r.2.toNat 1)).length : Int)
  rw [lookR_mem hn hr, wr_length, List.length_replicate]
  omega
theorem pureL_len (c m : Nat) : (pureL c m).length = c := by unfold pureL; rw [List.length_map, List.length_range]
theorem pure_good {R : List Row} {ms : List Nat} (hn : (R.map (·.1)).Nodup) (hR : ∀ r ∈ R, 1 ≤ r.2) : ∀ e ∈ tab (pureW R ms), lookR R e.1 = (e.2.length : Int) := fun e he => by
  obtain ⟨e0, he0, rfl⟩ := List.mem_map.mp he
  obtain ⟨q, hq, rfl⟩ := List.mem_map.mp he0
  have hr : q.1 ∈ R := (List.of_mem_zip (a := q.1) (b := q.2) hq).1
  have := hR q.1 hr
  show lookR R q.1.1 = ((wr (pureL q.1.2.toNat q.2)).length : Int)
  rw [lookR_mem hn hr, wr_length, pureL_len]
  omega
/-- views that the player does not meet -/
theorem odd_head {S : List Stg} {pl : Nat} {n : Int} (hn : n ≠ 0) (t : List Ev) : ((("round" : Str), [n]) :: t) ∉ (met S pl).map (·.1) := fun h => by
  obtain ⟨r, hr, e⟩ := List.mem_map.mp h
  obtain ⟨u, hu⟩ := met_zer S pl r hr
  rw [hu] at e
  have := (Prod.mk.inj (List.cons.inj e).1).2
  exact hn (List.cons.inj this).1.symm
theorem odd_other {S : List Stg} {pl qr : Nat} (h1 : pl ≠ 0) (h2 : qr ≠ 0) (hne : pl ≠ qr) {r : Row} (hr : r ∈ met S qr) : r.1 ∉ (met S pl).map (·.1) := fun h => by
  obtain ⟨s, hs, e⟩ := List.mem_map.mp h
  obtain ⟨p, j, _, hj, rfl⟩ := met_from S qr r hr
  obtain ⟨q, k, _, hk, rfl⟩ := met_from S pl s hs
  have e' : asked S q k = asked S p j := e
  obtain ⟨t, ht⟩ := asked_form S q k
  rw [ht] at e'
  have := asked_stage (by rw [hk]; exact h1) (by rw [hj]; exact h2) e'
  subst this
  exact hne (hk.symm.trans hj)
theorem odd_more {S : List Stg} {pl : Nat} (h1 : pl ≠ 0) {r : Row} (hr : r ∈ met S pl) (x : Ev) : (r.1.take 1 ++ [x] ++ r.1.drop 1) ∉ (met S pl).map (·.1) := fun h => by
  obtain ⟨s, hs, e⟩ := List.mem_map.mp h
  obtain ⟨p, j, _, hj, rfl⟩ := met_from S pl r hr
  obtain ⟨q, k, _, hk, rfl⟩ := met_from S pl s hs
  have e' : asked S q k = (asked S p j).take 1 ++ [x] ++ (asked S p j).drop 1 := e
  have hl : (asked S q k).length = (asked S p j).length + 1 := by
    obtain ⟨t, ht⟩ := asked_form S p j
    rw [e', ht]
    simp
  obtain ⟨t, ht⟩ := asked_form S p j
  have e2 : (("round" : Str), [0]) :: ((x :: t) ++ [(("move" : Str), [nm S j, ((stg S j).sz : Int)])]) = asked S q k := by
    rw [e', ht]; rfl
  have := asked_stage (by rw [hj]; exact h1) (by rw [hk]; exact h1) e2
  subst this
  rw [asked_len_eq S q p j] at hl
  omega
theorem met_two {S : List Stg} {pl : Nat} : ∀ r ∈ met S pl, 2 ≤ r.1.length := fun r hr => by
  obtain ⟨p, j, _, _, rfl⟩ := met_from S pl r hr
  obtain ⟨t, ht⟩ := asked_form S p j
  show 2 ≤ (asked S p j).length
  rw [ht]; simp
/-! entries cut, turned, put together -/
theorem GL.app {C : Addr} {H : Hp} {vs ws : List V} {t u : List Ent2} (h : GL C H vs t) (g : GL C H ws u) : GL C H (vs ++ ws) (t ++ u) := by
  induction h with
  | nil => exact g
  | cons a b c _ ih => exact .cons a b c ih
theorem GL.take {C : Addr} {H : Hp} {vs : List V} {t : List Ent2} (h : GL C H vs t) : ∀ n, GL C H (vs.take n) (t.take n) := by
  induction h with
  | nil => intro n; rw [List.take_nil, List.take_nil]; exact .nil
  | cons a b c _ ih =>
    intro n
    cases n with
    | zero => exact .nil
    | succ n => exact .cons a b c (ih n)
theorem GL.drop {C : Addr} {H : Hp} {vs : List V} {t : List Ent2} (h : GL C H vs t) : ∀ n, GL C H (vs.drop n) (t.drop n) := by
  induction h with
  | nil => intro n; rw [List.drop_nil, List.drop_nil]; exact .nil
  | cons a b c h ih =>
    intro n
    cases n with
    | zero => exact .cons a b c h
    | succ n => exact ih n
theorem GL.rev {C : Addr} {H : Hp} {vs : List V} {t : List Ent2} (h : GL C H vs t) : GL C H vs.reverse t.reverse := by
  induction h with
  | nil => exact .nil
  | cons a b c _ ih => rw [List.reverse_cons, List.reverse_cons]; exact ih.app (.cons a b c .nil)

/-! == of ratios, plans laid out -/
def sp_req (C : Addr) : Sp := fun vs H Q _ => ∃ (a b : Addr) (n d n' d' : Int), vs = [.ref a, .ref b] ∧ RatAt C H a n d ∧ RatAt C H b n' d' ∧ Q (.bl (decide (n = n' ∧ d = d'))) H
def sp_is : Sp := fun vs H Q _ => ∃ x y : Bool, vs = [.bl x, .bl y] ∧ Q (.bl (decide (x = y))) H
def sp_plans : Sp := fun vs H Q _ => ∃ (a b : Addr) (xs : List V) (R : List Row) (ms : List Nat), vs = [.ref a, .ref b] ∧ H a = some (.lst xs) ∧ TDs H xs (R.map dRow) ∧ H b = some (.lst (ms.map nat)) ∧ ms.length = R.length ∧ (∀ r ∈ R, 1 ≤ r.2 ∧ r.2 ≤ 100) ∧ (∀ (i : Nat) r m, R[i]? = some r → ms[i]? = some m → ((m : Nat) : Int) < r.2) ∧ (R.map (·.1)).Nodup ∧ R.length ≤ 300 ∧ (∀ r ∈ R, ∀ e ∈ r.1, OkE e) ∧ ∀ H', Keep [] H H' → Q (.bl true) H'
theorem neOwn_of {K : PySem.W.Frag} {C a b : Addr} {H : Hp} {xs ys : List V} {rs : List Rt} {Q : VK} (ha : H a = some (.lst xs)) (hb : H b = some (.lst ys)) (h1 : RL C H xs rs) (h2 : RL C H ys rs) (q : Q (.bl false) H) : rNeOwn K C (sp_req C) (.ref a) (.ref b) H Q := by
  have l1 := h1.len
  have l2 := h2.len
  refine ⟨a, b, xs, ys, rfl, rfl, SqL.of ha, SqL.of hb, by omega, fun i p p' e1 e2 => ?_, q⟩
  have hi := (List.getElem?_eq_some_iff.mp e1).1
  obtain ⟨c, x1, r1⟩ := h1.get (i := i) (List.getElem?_eq_getElem (by omega))
  obtain ⟨d, x2, r2⟩ := h2.get (i := i) (List.getElem?_eq_getElem (by omega))
  rw [e1] at x1
  rw [e2] at x2
  cases x1
  cases x2
  obtain ⟨dx, g1⟩ := id r1
  obtain ⟨dy, g2⟩ := id r2
  exact ⟨c, d, dx, dy, _, _, rfl, rfl, g1, g2, c, d, _, _, _, _, rfl, r1, r2, by rw [decide_eq_true (And.intro rfl rfl)], rfl⟩
theorem eqv_same {d : PyData} (h : SeqAt.shaped d = true) : PyData.eqv d d = true := SeqAt.eqv_refl _ (SeqAt.canLay_of_shaped h)
theorem depth_row3 (r : Row) : (dRow r).depth ≤ 5 := by
  have := depth_evs r.1
  simp only [dRow, dView, PyData.depth, PyData.depthAll]
  omega
theorem shaped_nats (l : List Nat) : SeqAt.shaped (.list (l.map fun (m : Nat) => PyData.int m)) = true := shaped_list (fun d hd => by obtain ⟨m, _, rfl⟩ := List.mem_map.mp hd; rfl) (fun d hd => by obtain ⟨m, _, rfl⟩ := List.mem_map.mp hd; simp [PyData.depth])
theorem depth_list {ds : List PyData} (h : ∀ d ∈ ds, d.depth ≤ 5) : (PyData.list ds).depth ≤ 10 := by
  have g2 : ∀ {ds : List PyData}, (∀ d ∈ ds, d.depth ≤ 5) → PyData.depthAll ds ≤ 5 := by
    intro ds h
    induction ds with
    | nil => simp [PyData.depthAll]
    | cons d r ih =>
      have h1 := h d (List.mem_cons_self ..)
      have h2 := ih fun x hx => h x (List.mem_cons_of_mem _ hx)
      simp only [PyData.depthAll]; omega
  have := g2 h
  simp only [PyData.depth]
  omega
theorem dps_nats {K : PySem.W.Frag} {H : Hp} : ∀ l : List Nat, DpAll K H (l.map nat) (l.map fun (m : Nat) => PyData.int m)
  | [] => .nil
  | m :: l => .cons (.int m) (dps_nats l)
section
variable {P : Program} {w : World} {K : PySem.W.Frag} {mg : Str → Option Value} {base : Heap} {C_Ratio : Addr} {C_Plan : Addr} {C_End : Addr} {C_Lot : Addr} {C_Turn : Addr}
theorem ok_req {f : Addr} {fd : FuncData} (me : Meth K C_Ratio "__eq__" f) (F : C8.Fun K "__eq__" "Ratio.__eq__" s_Ratio___eq f fd) (b : Binds K fd ["self", "other"] []) (T : Txt K mg C_Ratio C_Plan C_End C_Lot C_Turn) : Own P w K mg base 1 C_Ratio "__eq__" (sp_req C_Ratio) := by
  refine ⟨f, fd, ["self", "other"], me.at_, me.fn, C8.fn0 F sc_Ratio___eq (fun vs H Q E h => ?_) (fun cdv A outer s H vs Q E hr h => ?_), b⟩
  · obtain ⟨a, b, n, d, n', d', rfl, _⟩ := h
    rfl
  · obtain ⟨a, b, n, d, n', d', rfl, ⟨dx, h1⟩, ⟨dy, h2⟩, k⟩ := h
    refine ⟨_, (pss_one (ps_ret (pe_and (pe_callB call_isi (by rfl) T.n_isinstance bo_isinstance (pa_cons (pv 1) (pa_cons (pe_glob (v := .ref _) rfl T.m_Ratio rfl) pa_nil))) (pe_and (pe_cmpR op_eq (pe_fld (pv 0) rfl) (pe_fld (pv 1) rfl) (nomark _)) (pe_one (pe_cmpR op_eq (pe_fld (pv 0) rfl) (pe_fld (pv 1) rfl) (nomark _))))))), ?_⟩
    refine ⟨_, rfl, _, _, _, _, _, rfl, .own _, tyI T.i_Ratio h2, kitSelf, _, rfl, iteT ?_⟩
    refine ⟨_, rfl, a, C_Ratio, dx, _, _, rfl, h1, T.cl_Ratio, T.a_Ratio_num, rf_num n d, _, rfl, b, C_Ratio, dy, _, _, rfl, h2, T.cl_Ratio, T.a_Ratio_num, rf_num n' d', rfl, _, rfl, ?_⟩
    refine iteD (fun e => ?_) (fun e => ?_)
    · refine ⟨_, rfl, a, C_Ratio, dx, _, _, rfl, h1, T.cl_Ratio, T.a_Ratio_den, rf_den n d, _, rfl, b, C_Ratio, dy, _, _, rfl, h2, T.cl_Ratio, T.a_Ratio_den, rf_den n' d', rfl, ?_⟩
      have e1 : n = n' := V.int.inj e
      by_cases e2 : d = d'
      · rw [decide_eq_true ⟨e1, e2⟩] at k
        rw [decide_eq_true (by rw [e2])]; exact k
      · rw [decide_eq_false (fun z => e2 z.2)] at k
        rw [decide_eq_false (fun z => e2 (V.int.inj z))]; exact k
    · have e1 : ¬ n = n' := fun z => e (by rw [z])
      rw [decide_eq_false (fun z => e1 z.1)] at k
      exact k
theorem ok_is {f : Addr} {fd : FuncData} (D : C8.Def K mg "_law_is" s_law_is f fd) (b : Binds K fd ["actual", "due"] []) (T : Txt K mg C_Ratio C_Plan C_End C_Lot C_Turn) : C8.Cal P w K mg base 1 "_law_is" sp_is [] := by
  refine cal0 D b .nil sc_law_is (fun vs H Q E h => ?_) (fun cdv A outer s H vs Q E hr h => ?_)
  · obtain ⟨x, y, rfl, _⟩ := h
    rfl
  · obtain ⟨x, y, rfl, k⟩ := h
    refine ⟨_, (pss_one (ps_ret (pe_and (pe_callB call_isi (by rfl) T.n_isinstance bo_isinstance (pa_cons (pv 0) (pa_cons (pe_bltn (v := .ty "bool") (by rfl) T.n_bool bo_bool rfl) pa_nil))) (pe_one (pe_cmpR op_eq (pv 0) (pv 1) (nomark _)))))), ?_⟩
    have kBB : PySem.W.kitOne K (.type "bool") (.type "bool") = some true := kit_ty (by decide +kernel)
    refine ⟨_, rfl, _, _, _, _, _, rfl, .ty _, .base (.bl x), kBB, _, rfl, iteT ⟨_, rfl, _, rfl, rfl, by simpa using k⟩⟩
theorem ok_plans {f : Addr} {fd : FuncData} (D : C8.Def K mg "_law_plans" s_law_plans f fd) (b : Binds K fd ["views", "moves"] []) (T : Txt K mg C_Ratio C_Plan C_End C_Lot C_Turn) (c_Ratio : C8.Mak P w K mg base 1 "Ratio" C_Ratio (sp_rat C_Ratio) [.int 1]) (c_Ratio2 : C8.Mak P w K mg base 1 "Ratio" C_Ratio (sp_rat C_Ratio) []) (c_Ratio_eq : Own P w K mg base 1 C_Ratio "__eq__" (sp_req C_Ratio))
    (c_pure : C8.Cal P w K mg base 5 "pure" (sp_pure P w C_Plan C_Ratio) []) (c_even : C8.Cal P w K mg base 5 "even" (sp_even P w C_Plan C_Ratio) []) (c_Plan_entries : C8.Met P w K mg base 1 C_Plan "entries" (sp_pentries P w C_Plan C_Ratio) []) : C8.Cal P w K mg base 6 "_law_plans" sp_plans [] := by
  refine cal0 D b .nil sc_law_plans (fun vs H Q E h => ?_) (fun cdv A outer s H vs Q E hr h => ?_)
  · obtain ⟨a, b, xs, R, ms, rfl, _⟩ := h
    rfl
  · obtain ⟨a, b, xs, R, ms, rfl, ha, hxs, hb, hml, hR, hm, hnd, hlen, hok, k⟩ := h
    refine ⟨_, (pss_cons (ps_set (i := 2) sc_law_plans.nd rfl (by first | exact Or.inl rfl | exact Or.inr rfl) (pe_lst (pa_cons (pe_callTy call_list_of (by rfl) T.n_list bo_list (pa_cons (pv 0) pa_nil)) (pa_cons (pe_callTy call_list_of (by rfl) T.n_list bo_list (pa_cons (pv 1) pa_nil)) pa_nil))))
(pss_cons (ps_set (i := 3) sc_law_plans.nd rfl (by first | exact Or.inl rfl | exact Or.inr rfl) (pe_c c_pure hr (by first | exact Nat.le_refl _ | decide | omega) rfl (pa_cons (pe_ix ix_list (pv 2) pe_int (fun _ _ => rfl)) (pa_cons (pe_ix ix_list (pv 2) pe_int (fun _ _ => rfl)) pa_nil))))
(pss_cons (ps_set (i := 4) sc_law_plans.nd rfl (by first | exact Or.inl rfl | exact Or.inr rfl) (pe_c c_even hr (by first | exact Nat.le_refl _ | decide | omega) rfl (pa_cons (pe_ix ix_list (pv 2) pe_int (fun _ _ => rfl)) pa_nil)))
(pss_cons (ps_if (pt_cmpR (op_neD hr.units) (pv 2) (pe_lst (pa_cons (pv 0) (pa_cons (pv 1) pa_nil))) (nomark _))
  (pss_one (ps_ret pe_bl))
  pss_nil)
(pss_cons (ps_set (i := 5) sc_law_plans.nd rfl (by first | exact Or.inl rfl | exact Or.inr rfl) (pe_mt0 c_Plan_entries hr (by first | exact Nat.le_refl _ | decide | omega) (pv 3)))
(pss_cons (ps_set (i := 6) sc_law_plans.nd rfl (by first | exact Or.inl rfl | exact Or.inr rfl) (pe_mt0 c_Plan_entries hr (by first | exact Nat.le_refl _ | decide | omega) (pv 4)))
(pss_cons (ps_if (PW.pt (pw_or (pt_cmpR op_ne (pe_callB call_len_seq (by rfl) T.n_len bo_len (pa_cons (pv 5) pa_nil)) (pe_callB call_len_seq (by rfl) T.n_len bo_len (pa_cons (pv 0) pa_nil)) (nomark _)) (pw_or1 (pt_cmpR op_ne (pe_callB call_len_seq (by rfl) T.n_len bo_len (pa_cons (pv 6) pa_nil)) (pe_callB call_len_seq (by rfl) T.n_len bo_len (pa_cons (pv 0) pa_nil)) (nomark _)))))
  (pss_one (ps_ret pe_bl))
  pss_nil)
(pss_cons (ps_for PassesOwn.never rfl (pi_range1 (by rfl) T.n_range (pa_cons (pe_callB call_len_seq (by rfl) T.n_len bo_len (pa_cons (pv 0) pa_nil)) pa_nil)) (pg_name (i := 7) sc_law_plans.nd rfl (by first | exact Or.inl rfl | exact Or.inr rfl))
  (pss_cons (ps_set (i := 8) sc_law_plans.nd rfl (by first | exact Or.inl rfl | exact Or.inr rfl) (pe_ix ix_tup (pe_ix ix_list (pv 0) (pv 7) (fun _ _ => rfl)) pe_int (fun _ _ => rfl)))
  (pss_cons (ps_set (i := 9) sc_law_plans.nd rfl (by first | exact Or.inl rfl | exact Or.inr rfl) (pe_ix ix_tup (pe_ix ix_list (pv 0) (pv 7) (fun _ _ => rfl)) pe_int (fun _ _ => rfl)))
  (pss_cons (ps_if (PW.pt (pw_or (pt_cmpR (op_neD hr.units) (pe_ix ix_tup (pe_ix ix_list (pv 5) (pv 7) (fun _ _ => rfl)) pe_int (fun _ _ => rfl)) (pv 8) (nomark _)) (pw_or1 (pt_cmpR (op_neD hr.units) (pe_ix ix_tup (pe_ix ix_list (pv 6) (pv 7) (fun _ _ => rfl)) pe_int (fun _ _ => rfl)) (pv 8) (nomark _)))))
    (pss_one (ps_ret pe_bl))
    pss_nil)
  (pss_cons (ps_if (pt_cmpR (op_neOwn c_Ratio_eq hr (by first | decide | omega)) (pe_ix ix_tup (pe_ix ix_list (pv 5) (pv 7) (fun _ _ => rfl)) pe_int (fun _ _ => rfl)) (pe_lc (own := [("move", 10)]) (g := gName 10) (tt := tYes) rfl sc_law_plans.nd (pi_range1 (by rfl) T.n_range (pa_cons (pv 9) pa_nil)) (blkOk_by (N := ["views", "moves", "passed", "plan", "other", "told", "more", "k", "view", "count", "move"]) (sc := fnScope s_law_plans) (by decide +kernel)) (fun _ _ _ _ _ => pg_name (i := 10) sc_law_plans.nd rfl (by first | exact Or.inl rfl | exact Or.inr rfl)) (fun _ _ _ _ _ => pts_nil) (fun _ _ _ _ _ => (pe_mk c_Ratio hr (by first | exact Nat.le_refl _ | decide | omega) rfl (pa_cons (pe_callTy call_int1 (by rfl) T.n_int bo_int (pa_cons (pe_cmpR op_eq (pv 10) (pe_ix (ix_listK (K := K)) (pv 1) (pv 7) (fun _ _ => rfl)) (nomark _)) pa_nil)) pa_nil)))) (nomark _))
    (pss_one (ps_ret pe_bl))
    pss_nil)
  (pss_one (ps_if (pt_cmpR (op_neOwn c_Ratio_eq hr (by first | decide | omega)) (pe_ix ix_tup (pe_ix ix_list (pv 6) (pv 7) (fun _ _ => rfl)) pe_int (fun _ _ => rfl)) (pe_lc (own := [("move", 10)]) (g := gName 10) (tt := tYes) rfl sc_law_plans.nd (pi_range1 (by rfl) T.n_range (pa_cons (pv 9) pa_nil)) (blkOk_by (N := ["views", "moves", "passed", "plan", "other", "told", "more", "k", "view", "count", "move"]) (sc := fnScope s_law_plans) (by decide +kernel)) (fun _ _ _ _ _ => pg_name (i := 10) sc_law_plans.nd rfl (by first | exact Or.inl rfl | exact Or.inr rfl)) (fun _ _ _ _ _ => pts_nil) (fun _ _ _ _ _ => (pe_mk c_Ratio2 hr (by first | exact Nat.le_refl _ | decide | omega) rfl (pa_cons pe_int (pa_cons (pv 9) pa_nil))))) (nomark _))
    (pss_one (ps_ret pe_bl))
    pss_nil)))))))
(pss_one (ps_ret pe_bl)))))))))), ?_⟩
    have hxl := hxs.length
    rw [List.length_map] at hxl
    refine ⟨_, rfl, a, xs, rfl, .inl (SqL.of ha), fun a1 na1 => ?_⟩
    have ka := Keep.new (W := []) (o := .lst xs) na1
    have hb0 := ka _ _ hb (by simp)
    refine ⟨_, rfl, b, ms.map nat, rfl, .inl (SqL.of hb0), fun b1 nb1 => And.intro (by show 2 ≤ sizeLine; decide) <| fun p np => ?_⟩
    have kb := Keep.new (W := []) (o := .lst (ms.map nat)) nb1
    have kp := Keep.new (W := []) (o := .lst [.ref a1, .ref b1]) np
    have hp : upd (upd (upd H a1 (.lst xs)) b1 (.lst (ms.map nat))) p (.lst [.ref a1, .ref b1]) p = some (.lst [.ref a1, .ref b1]) := upd_same
    have ha1 : upd (upd (upd H a1 (.lst xs)) b1 (.lst (ms.map nat))) p (.lst [.ref a1, .ref b1]) a1 = some (.lst xs) := (kb.trans kp) _ _ upd_same (by simp)
    have hb1 : upd (upd (upd H a1 (.lst xs)) b1 (.lst (ms.map nat))) p (.lst [.ref a1, .ref b1]) b1 = some (.lst (ms.map nat)) := kp _ _ upd_same (by simp)
    have k1 := (ka.trans kb).trans kp
    generalize upd (upd (upd H a1 (.lst xs)) b1 (.lst (ms.map nat))) p (.lst [.ref a1, .ref b1]) = H1 at *
    refine ⟨_, rfl, _, _, _, _, rfl, rfl, SqL.of hp, rfl, _, rfl, _, _, _, _, rfl, rfl, SqL.of hp, rfl, a1, b1, xs, R, ms, rfl, ha1, hxs.tk k1.tk, hb1, hml, hR, hm, hnd, hlen, fun pl1 H2 hP1 K1 => ?_⟩
    refine ⟨_, rfl, _, _, _, _, rfl, rfl, SqL.of (K1 _ _ hp (by simp)), rfl, a1, xs, R, rfl, K1 _ _ ha1 (by simp), hxs.tk (k1.trans K1).tk, hR, hnd, hlen, fun pl2 H3 hP2 K2 => ?_⟩
    have K12 := K1.trans K2
    have k3 := k1.trans K12
    have hxs3 := hxs.tk k3.tk
    have ha3 := k3 _ _ ha (by simp)
    have hb3 := k3 _ _ hb (by simp)
    have hp3 := K12 _ _ hp (by simp)
    have ha13 := K12 _ _ ha1 (by simp)
    have hb13 := K12 _ _ hb1 (by simp)
    refine ⟨_, rfl, _, rfl, _, rfl, And.intro (by show 2 ≤ sizeLine; decide) <| fun q nq => ?_⟩
    have kq := Keep.new (W := []) (o := .lst [.ref a, .ref b]) nq
    have hq : upd H3 q (.lst [.ref a, .ref b]) q = some (.lst [.ref a, .ref b]) := upd_same
    generalize upd H3 q (.lst [.ref a, .ref b]) = H4 at *
    have k4 := k3.trans kq
    have dR := (hxs.tk k4.tk).dp (K := K)
    have shR : SeqAt.shaped (.list (R.map dRow)) = true := shaped_list (fun d hd => by
      obtain ⟨r, hr, rfl⟩ := List.mem_map.mp hd
      exact shaped_row (hok r hr)) (fun d hd => by
      obtain ⟨r, hr, rfl⟩ := List.mem_map.mp hd
      exact depth_row r)
    have shA : SeqAt.shaped (.list [.list (R.map dRow), .list (ms.map fun (m : Nat) => PyData.int m)]) = true := shaped_list (fun d hd => by
      rcases List.mem_cons.mp hd with rfl | hd
      · exact shR
      · rw [List.mem_singleton.mp hd]; exact shaped_nats ms) (fun d hd => by
      rcases List.mem_cons.mp hd with rfl | hd
      · exact depth_list fun d hd => by
          obtain ⟨r, _, rfl⟩ := List.mem_map.mp hd
          exact depth_row3 r
      · rw [List.mem_singleton.mp hd]
        exact depth_list fun d hd => by
          obtain ⟨m, _, rfl⟩ := List.mem_map.mp hd
          simp [PyData.depth])
    refine ⟨.list [.list (R.map dRow), .list (ms.map fun (m : Nat) => PyData.int m)], .list [.list (R.map dRow), .list (ms.map fun (m : Nat) => PyData.int m)], .lst (SqL.of (kq _ _ hp3 (by simp))) (.cons (.lst (SqL.of (kq _ _ ha13 (by simp))) dR) (.cons (.lst (SqL.of (kq _ _ hb13 (by simp))) (dps_nats ms)) .nil)), .lst (SqL.of hq) (.cons (.lst (SqL.of (kq _ _ ha3 (by simp))) dR) (.cons (.lst (SqL.of (kq _ _ hb3 (by simp))) (dps_nats ms)) .nil)), shA, shA, _, rfl, ?_⟩
    rw [eqv_same shA]
    refine iteF ?_
    have hP1' := (hP1.keep K2).keep kq
    have hP2' := hP2.keep kq
    obtain ⟨dx1, d1, xs1, hx1, _, _⟩ := id hP1'
    obtain ⟨dx2, d2, xs2, hx2, _, _⟩ := id hP2'
    have tl1 : (tab (pureW R ms)).length = R.length := by unfold tab pureW; rw [List.length_map, List.length_map, List.length_zip]; omega
    have tl2 : (tab (evenW R)).length = R.length := by unfold tab evenW; rw [List.length_map, List.length_map]
    refine ⟨_, rfl, pl1, dx1, _, rfl, hx1, rfl, pl1, _, rfl, hP1', by omega, fun l1 gs1 H5 nl1 hl1 hg1 K5 => ?_⟩
    refine ⟨_, rfl, pl2, dx2, _, rfl, K5 _ _ hx2 (by simp), rfl, pl2, _, rfl, hP2'.keep K5, by omega, fun l2 gs2 H6 nl2 hl2 hg2 K6 => ?_⟩
    have k6 := (k4.trans K5).trans K6
    have ha6 := k6 _ _ ha (by simp)
    have hb6 := k6 _ _ hb (by simp)
    have hl16 := K6 _ _ hl1 (by simp)
    have hg16 := hg1.keep (KI.of K6) fun b ys hb => K6 _ _ hb (by simp)
    have gl1 := hg1.len
    have gl2 := hg2.len
    refine ⟨_, rfl, l1, gs1, rfl, .inl (SqL.of hl16), _, rfl, a, xs, rfl, .inl (SqL.of ha6), rfl, _, rfl, iteNF (by rw [gl1, tl1, hxl]) ⟨_, rfl, l2, gs2, rfl, .inl (SqL.of hl2), _, rfl, a, xs, rfl, .inl (SqL.of ha6), rfl, _, rfl, iteNF (by rw [gl2, tl2, hxl]) ?_⟩⟩
    refine ⟨_, rfl, a, xs, rfl, .inl (SqL.of ha6), _, rfl, by omega, by omega, ?_⟩
    refine for_range (lo := 0) (n := xs.length) (fun i σ H' => ∃ o7 o8 o9, σ = [some (.ref a), some (.ref b), some (.ref p), some (.ref pl1), some (.ref pl2), some (.ref l1), some (.ref l2), o7, o8, o9, none] ∧ Keep [] H6 H') ⟨_, _, _, rfl, Keep.refl _ _⟩ ?_ ?_
    · rintro i σ H7 hi ⟨o7, o8, o9, rfl, k7⟩
      have e0 : (0 : Int) + (i : Int) = (i : Int) := by omega
      rw [e0]
      have hiR : i < R.length := by omega
      obtain ⟨x', hx', hxd⟩ := (hxs.tk (k6.trans k7).tk).get (i := i) (d := dRow R[i]) (by rw [List.getElem?_map, List.getElem?_eq_getElem hiR]; rfl)
      have him : i < ms.length := by omega
      have hmi := hm i R[i] ms[i] (List.getElem?_eq_getElem hiR) (List.getElem?_eq_getElem him)
      obtain ⟨hs0, hs1⟩ := hR R[i] (List.getElem_mem hiR)
      obtain ⟨tt, tes, rfl, htt, htes⟩ := td_view hxd
      cases htes with
      | @cons v0 _ _ _ h0 hr1 =>
        cases hr1 with
        | cons h1 hr2 =>
          cases hr2
          cases h1
          have ha7 := k7 _ _ ha6 (by simp)
          have hl17 := k7 _ _ hl16 (by simp)
          have hl27 := k7 _ _ hl2 (by simp)
          have hgi1 : gs1[i]? = some (gs1[i]'(by omega)) := List.getElem?_eq_getElem _
          have hgi2 : gs2[i]? = some (gs2[i]'(by omega)) := List.getElem?_eq_getElem _
          obtain ⟨q1, a1', vw1, L1, rs1, e1, ht1, hq1, hv1, ⟨us1, hu1, hr1'⟩⟩ := hg16.get hgi1
          obtain ⟨q2, a2', vw2, L2, rs2, e2, ht2, hq2, hv2, ⟨us2, hu2, hr2'⟩⟩ := hg2.get hgi2
          rw [e1] at hgi1
          rw [e2] at hgi2
          have et1 : (L1, rs1) = (R[i].1, (pureL R[i].2.toNat ms[i]).map fun (w : Nat) => ((w : Int), (1 : Int))) := by
            have : (tab (pureW R ms))[i]? = some (R[i].1, wr (pureL R[i].2.toNat ms[i])) := by
              unfold tab pureW
              rw [List.getElem?_map, List.getElem?_map, (List.getElem?_zip_eq_some (z := (R[i], ms[i]))).mpr ⟨List.getElem?_eq_getElem hiR, List.getElem?_eq_getElem him⟩]; rfl
            rw [ht1] at this
            rw [Option.some.inj this, wr_pure (by omega)]
          have et2 : (L2, rs2) = (R[i].1, List.replicate R[i].2.toNat (redN 1 R[i].2, redD 1 R[i].2)) := by
            have : (tab (evenW R))[i]? = some (R[i].1, wr (List.replicate R[i].2.toNat 1)) := by
              unfold tab evenW
              rw [List.getElem?_map, List.getElem?_map, List.getElem?_eq_getElem hiR]; rfl
            rw [ht2] at this
            rw [Option.some.inj this, wr_ones, Int.toNat_of_nonneg (by omega)]
          obtain ⟨rfl, rfl⟩ := Prod.mk.inj et1
          obtain ⟨rfl, rfl⟩ := Prod.mk.inj et2
          refine ⟨_, rfl, _, rfl, _, _, _, _, rfl, rfl, SqL.of ha7, atI_nat hx', _, _, _, _, rfl, rfl, SqT.of htt, rfl, ?_⟩
          refine ⟨_, rfl, _, rfl, _, _, _, _, rfl, rfl, SqL.of ha7, atI_nat hx', _, _, _, _, rfl, rfl, SqT.of htt, rfl, ?_⟩
          have okR := hok R[i] (List.getElem_mem hiR)
          have hq17 := k7 _ _ hq1 (by simp)
          have hq27 := k7 _ _ hq2 (by simp)
          have shV := shaped_view okR
          refine ⟨_, rfl, _, rfl, _, _, _, _, rfl, rfl, SqL.of hl17, atI_nat hgi1, _, _, _, _, rfl, rfl, SqT.of hq17, rfl, _, rfl, dView R[i].1, dView R[i].1, (hv1.tk k7.tk).dp, h0.dp, shV, shV, _, rfl, ?_⟩
          rw [eqv_same shV]
          refine iteF ⟨_, rfl, _, rfl, _, _, _, _, rfl, rfl, SqL.of hl27, atI_nat hgi2, _, _, _, _, rfl, rfl, SqT.of hq27, rfl, _, rfl, dView R[i].1, dView R[i].1, (hv2.tk k7.tk).dp, h0.dp, shV, shV, _, rfl, ?_⟩
          rw [eqv_same shV]
          refine iteF ?_
          refine ⟨_, rfl, _, rfl, _, _, _, _, rfl, rfl, SqL.of hl17, atI_nat hgi1, _, _, _, _, rfl, rfl, SqT.of hq17, rfl, _, rfl, R[i].2, rfl, by omega, by omega, fun D nD => ?_⟩
          refine lc_range (lo := 0) (n := R[i].2.toNat) (fun j H' => ∃ us, H' D = some (.lst us) ∧ RL C_Ratio H' us ((pureL j ms[i]).map fun (w : Nat) => ((w : Int), (1 : Int))) ∧ Keep [] H7 H') ⟨[], upd_same, .nil, Keep.new nD⟩ ?_ ?_
          · rintro j H8 hj ⟨us, hD2, hur, k8⟩
            have e0 : (0 : Int) + (j : Int) = (j : Int) := by omega
            rw [e0]
            have hul := hur.len
            rw [List.length_map, pureL_len] at hul
            have hatm : atI (ms.map nat) ((i : Nat) : Int) = some (nat ms[i]) := atI_nat (by rw [List.getElem?_map, List.getElem?_eq_getElem him]; rfl)
            refine ⟨rfl, yes_then ⟨_, rfl, _, rfl, _, rfl, _, _, _, _, rfl, rfl, SqL.of ((k7.trans k8) _ _ hb6 (by simp)), hatm, rfl, .inr ⟨_, rfl, fun x' dx' nx ndx ne => ⟨x', dx', _, 1, rfl, by decide, by decide, upd_same, fun H9 K9 hx9 => ⟨rfl, ?_⟩⟩⟩⟩⟩
            have km := keep_made nx ndx K9
            rw [(red_one _).1, (red_one _).2] at hx9
            have hD9 := km _ _ hD2 (by simp)
            refine ⟨us, hD9, smallL (by omega), us ++ [.ref x'], upd_same, ?_, (k8.trans km).then_own nD⟩
            rw [pureL_succ, List.map_append]
            refine ((hur.keep (KI.of km)).keep (KI.lst hD9)).snoc ⟨dx', ?_⟩
            have hx6 := (KI.lst (o := .lst (us ++ [.ref x'])) hD9).2 _ _ _ _ hx9
            rw [hx6]
            by_cases hjm : j = ms[i]
            · rw [if_pos hjm, hjm, decide_eq_true (show V.int ((ms[i] : Nat) : Int) = nat ms[i] from rfl)]; rfl
            · rw [if_neg hjm, decide_eq_false (fun z => hjm (by have := V.int.inj z; omega))]; rfl
          rintro H8 ⟨us, hD2, hur, k8⟩
          have k78 := k7.trans k8
          refine neOwn_of (k78 _ _ hu1 (by simp)) hD2 (hr1'.keep (KI.of k78)) hur ⟨_, rfl, iteF ?_⟩
          refine ⟨_, rfl, _, rfl, _, _, _, _, rfl, rfl, SqL.of (k78 _ _ hl2 (by simp)), atI_nat hgi2, _, _, _, _, rfl, rfl, SqT.of (k78 _ _ hq2 (by simp)), rfl, _, rfl, R[i].2, rfl, by omega, by omega, fun D' nD' => ?_⟩
          refine lc_range (lo := 0) (n := R[i].2.toNat) (fun j H' => ∃ us, H' D' = some (.lst us) ∧ RL C_Ratio H' us (List.replicate j (redN 1 R[i].2, redD 1 R[i].2)) ∧ Keep [] H8 H') ⟨[], upd_same, .nil, Keep.new nD'⟩ ?_ ?_
          · rintro j H9 hj ⟨us, hD2, hur, k9⟩
            have hul := hur.len
            rw [List.length_replicate] at hul
            refine ⟨rfl, yes_then ⟨_, rfl, fun x' dx' nx ndx ne => ⟨x', dx', 1, R[i].2, rfl, by omega, by
              have : R[i].2.natAbs ≤ 100 := by omega
              exact Nat.lt_of_le_of_lt this (Nat.lt_of_lt_of_le (show 100 < 2 ^ 7 by decide) (Nat.pow_le_pow_right (by decide) (by decide))), upd_same, fun H10 K10 hx3 => ⟨rfl, ?_⟩⟩⟩⟩
            have km := keep_made nx ndx K10
            have hD3 := km _ _ hD2 (by simp)
            refine ⟨us, hD3, smallL (by omega), ⟨us ++ [.ref x'], upd_same, ?_, (k9.trans km).then_own nD'⟩⟩
            rw [List.replicate_succ']
            exact ((hur.keep (KI.of km)).keep (KI.lst hD3)).snoc ⟨dx', (KI.lst (o := .lst (us ++ [.ref x'])) hD3).2 _ _ _ _ hx3⟩
          rintro H9 ⟨us', hD', hur', k9⟩
          have k79 := k78.trans k9
          exact neOwn_of (k79 _ _ hu2 (by simp)) hD' (hr2'.keep (KI.of k79)) hur' ⟨_, rfl, iteF ⟨_, _, _, rfl, k79⟩⟩
    · rintro σ H7 ⟨o7, o8, o9, rfl, k7⟩
      exact k H7 (k6.trans k7)
end

/-! entries that do not fit -/
def Odd (R : List Row) (e : WE) : Prop := WOk e.2 ∧ (∀ v ∈ e.1, OkE v) ∧ lookR R e.1 ≠ (e.2.length : Int)
def StrI (CR : Addr) (R : List Row) (l : Addr) (n : Nat) (H : Hp) (es : List WE) : Prop := (∃ gs, H l = some (.lst gs) ∧ GN CR (fun b => b ≠ l) H gs (tab es)) ∧ (∀ e ∈ es, Odd R e) ∧ es.length ≤ n
theorem StrI.keep {CR : Addr} {R : List Row} {l : Addr} {n : Nat} {H H1 : Hp} {es : List WE} (h : StrI CR R l n H es) (k : Keep [] H H1) : StrI CR R l n H1 es := by
  obtain ⟨⟨gs, h1, h2⟩, h3, h4⟩ := h
  exact ⟨⟨gs, k _ _ h1 (by simp), h2.keep (KI.of k) fun b ys _ hb => k _ _ hb (by simp)⟩, h3, h4⟩
theorem StrI.mono {CR : Addr} {R : List Row} {l : Addr} {n m : Nat} {H : Hp} {es : List WE} (h : StrI CR R l n H es) (k : n ≤ m) : StrI CR R l m H es := ⟨h.1, h.2.1, Nat.le_trans h.2.2 k⟩
theorem StrI.add {CR : Addr} {R : List Row} {l t a : Addr} {vw : V} {L : List Ev} {ws : List Nat} {n : Nat} {H : Hp} {es : List WE} (h : StrI CR R l n H es) (hn : n ≤ 1000) (ht : H t = some (.tup [vw, .ref a])) (hv : TD H vw (dView L)) (ha : LA CR H a (wr ws)) (ho : Odd R (L, ws)) (nal : a ≠ l) : ∃ gs, H l = some (.lst gs) ∧ gs.length < sizeLine ∧ StrI CR R l (n + 1) (upd H l (.lst (gs ++ [.ref t]))) (es ++ [(L, ws)]) := by
  obtain ⟨⟨gs, h1, h2⟩, h3, h4⟩ := h
  have hl := h2.len
  have el : (tab es).length = es.length := by unfold tab; rw [List.length_map]
  refine ⟨gs, h1, smallL (by omega), ⟨gs ++ [.ref t], upd_same, ?_⟩, fun e he => ?_, by rw [List.length_append]; simp; omega⟩
  · have ki := KI.lst (o := .lst (gs ++ [.ref t])) h1
    have kl : ∀ b ys, b ≠ l → H b = some (.lst ys) → upd H l (.lst (gs ++ [.ref t])) b = some (.lst ys) := fun b ys nb hb => by rw [upd_ne nb]; exact hb
    obtain ⟨us, hu, hr⟩ := ha
    have et : tab (es ++ [(L, ws)]) = tab es ++ [(L, wr ws)] := by unfold tab; rw [List.map_append]; rfl
    rw [et]
    exact (h2.keep ki kl).snoc (ki.1 _ _ ht) (hv.tk ki.1) ⟨us, kl _ _ nal hu, hr.keep ki⟩ nal
  · rcases List.mem_append.mp he with he | he
    · exact h3 e he
    · rw [List.mem_singleton.mp he]; exact ho
theorem sum_zeros (n : Nat) : (List.replicate n 0).sum = 0 := by
  induction n with
  | zero => rfl
  | succ m ih => rw [List.replicate_succ, List.sum_cons, ih]
theorem wr1z (n : Nat) : wr (1 :: List.replicate n 0) = ((1 : Int), (1 : Int)) :: List.replicate n ((0 : Int), (1 : Int)) := by
  unfold wr
  rw [List.sum_cons, sum_zeros, List.map_cons, List.map_replicate]
  rw [show (((1 + 0 : Nat)) : Int) = (1 : Int) from rfl, (red_one _).1, (red_one _).2, (red_one _).1, (red_one _).2]; rfl
theorem wok1z {n : Nat} (h : n ≤ 140) : WOk (1 :: List.replicate n 0) := ⟨by rw [List.sum_cons]; omega, fun w hw => by
  rcases List.mem_cons.mp hw with rfl | hw
  · decide
  · rw [List.eq_of_mem_replicate hw]; decide, by rw [List.length_cons, List.length_replicate]; omega⟩
theorem len1z (n : Nat) : (1 :: List.replicate n 0).length = n + 1 := by rw [List.length_cons, List.length_replicate]
theorem TDs.drop {H : Hp} : ∀ {vs : List V} {ds : List PyData} (n : Nat), TDs H vs ds → TDs H (vs.drop n) (ds.drop n)
  | _, _, 0, h => h
  | _, _, _ + 1, .nil => .nil
  | _, _, n + 1, .cons _ t => t.drop n
theorem not_all1 {n : Nat} (h : 2 ≤ n) : ¬ (HT.sIx n 0 none = 0 ∧ HT.sIx n n (some 1) = n) := fun z => by
  have := z.2
  rw [show (some (1 : Int)) = some (((1 : Nat)) : Int) from rfl, HT.sIx_nat] at this
  omega
theorem not_all2 {n : Nat} (h : 2 ≤ n) : ¬ (HT.sIx n 0 (some 1) = 0 ∧ HT.sIx n n none = n) := fun z => by
  have := z.1
  rw [show (some (1 : Int)) = some (((1 : Nat)) : Int) from rfl, HT.sIx_nat] at this
  omega
def sp_strange (C : Addr) : Sp := fun vs H Q _ => ∃ (sa va : Addr) (xs : List V) (S : List Stg) (pl : Nat) (z : Int), vs = [.ref sa, .ref va, .int pl, .int z] ∧ StA H sa S ∧ SOk S ∧ (pl = 1 ∨ pl = 2) ∧ H va = some (.lst xs) ∧ TDs H xs ((met S pl).map dRow) ∧ ∀ l gs es H', H l = none → H' l = some (.lst gs) → GL C H' gs (tab es) → (∀ e ∈ es, Odd (met S pl) e) → es.length ≤ 100 → Keep [] H H' → Q (.ref l) H'
section
variable {P : Program} {w : World} {K : PySem.W.Frag} {mg : Str → Option Value} {base : Heap} {C_Ratio : Addr} {C_Plan : Addr} {C_End : Addr} {C_Lot : Addr} {C_Turn : Addr}
theorem ok_strange {f : Addr} {fd : FuncData} (D : C8.Def K mg "_law_strange" s_law_strange f fd) (b : Binds K fd ["stages", "views", "player", "at"] []) (T : Txt K mg C_Ratio C_Plan C_End C_Lot C_Turn) (c_law_met : C8.Cal P w K mg base 3 "_law_met" sp_met []) (c_Ratio : C8.Mak P w K mg base 1 "Ratio" C_Ratio (sp_rat C_Ratio) [.int 1]) (c_Ratio2 : C8.Mak P w K mg base 1 "Ratio" C_Ratio (sp_rat C_Ratio) []) : C8.Cal P w K mg base 4 "_law_strange" (sp_strange C_Ratio) [] := by
  refine cal0 D b .nil sc_law_strange (fun vs H Q E h => ?_) (fun cdv A outer s H vs Q E hr h => ?_)
  · obtain ⟨sa, va, xs, S, pl, z, rfl, _⟩ := h
    rfl
  · obtain ⟨sa, va, xs, S, pl, z, rfl, hSt, hok, hpl, hva, hxs, k⟩ := h
    refine ⟨_, (pss_cons (ps_set (i := 4) sc_law_strange.nd rfl (by first | exact Or.inl rfl | exact Or.inr rfl) (pe_lst (pa_cons (pe_tup (pa_cons (pe_tup (pa_cons (pe_tup (pa_cons pe_str (pa_cons pe_int pa_nil))) pa_nil)) (pa_cons (pe_lst (pa_cons (pe_mk c_Ratio hr (by first | exact Nat.le_refl _ | decide | omega) rfl (pa_cons pe_int pa_nil)) pa_nil)) pa_nil))) pa_nil)))
(pss_cons (ps_for PassesOwn.never rfl (pi_list (pe_slice sl_list (pe_c c_law_met hr (by first | exact Nat.le_refl _ | decide | omega) rfl (pa_cons (pv 0) (pa_cons (pe_op op_sub pe_int (pv 2)) pa_nil))) po_none (po_some pe_int))) (pg_name (i := 5) sc_law_strange.nd rfl (by first | exact Or.inl rfl | exact Or.inr rfl))
  (pss_one (ps_expr (pe_bm PySem.F.plainAttrs_list PySem.F.slot_list_append PySem.F.type_list_append mt_append (pv 4) (pa_cons (pe_tup (pa_cons (pe_ix ix_tup (pv 5) pe_int (fun _ _ => rfl)) (pa_cons (pe_lc (own := [("k", 10)]) (g := gName 10) (tt := tYes) rfl sc_law_strange.nd (pi_range1 (by rfl) T.n_range (pa_cons (pe_ix ix_tup (pv 5) pe_int (fun _ _ => rfl)) pa_nil)) (blkOk_by (N := ["stages", "views", "player", "at", "strange", "pair", "view", "count", "lots", "wide", "k"]) (sc := fnScope s_law_strange) (by decide +kernel)) (fun _ _ _ _ _ => pg_name (i := 10) sc_law_strange.nd rfl (by first | exact Or.inl rfl | exact Or.inr rfl)) (fun _ _ _ _ _ => pts_nil) (fun _ _ _ _ _ => (pe_mk c_Ratio hr (by first | exact Nat.le_refl _ | decide | omega) rfl (pa_cons (pe_callTy call_int1 (by rfl) T.n_int bo_int (pa_cons (pe_cmpR op_eq (pv 10) pe_int (nomark _)) pa_nil)) pa_nil)))) pa_nil))) pa_nil)))))
(pss_cut (ps_if (pt_cmpR op_gt (pe_callB call_len_seq (by rfl) T.n_len bo_len (pa_cons (pv 1) pa_nil)) pe_int (nomark _))
  (pss_cons (ps_asg (pe_ix ix_list (pv 1) (pe_op op_mod (pv 3) (pe_callB call_len_seq (by rfl) T.n_len bo_len (pa_cons (pv 1) pa_nil))) (fun _ _ => rfl)) (pg_tup (by rfl) (pgs_cons (pg_name (i := 6) sc_law_strange.nd rfl (by first | exact Or.inl rfl | exact Or.inr rfl)) (pgs_cons (pg_name (i := 7) sc_law_strange.nd rfl (by first | exact Or.inl rfl | exact Or.inr rfl)) pgs_nil))))
  (pss_cons (ps_setLc (i := 8) (own := [("k", 10)]) (g := gName 10) (tt := tYes) rfl sc_law_strange.nd rfl rfl (sw_true rfl rfl rfl (by decide +kernel)) (pi_range1 (by rfl) T.n_range (pa_cons (pv 7) pa_nil)) (blkOk_by (N := ["stages", "views", "player", "at", "strange", "pair", "view", "count", "lots", "wide", "k"]) (sc := fnScope s_law_strange) (by decide +kernel)) (fun _ _ _ _ _ => pg_name (i := 10) sc_law_strange.nd rfl (by first | exact Or.inl rfl | exact Or.inr rfl)) (fun _ _ _ _ _ => pts_nil) (fun _ _ _ _ _ => (pe_mk c_Ratio2 hr (by first | exact Nat.le_refl _ | decide | omega) rfl (pa_cons pe_int (pa_cons (pv 7) pa_nil)))))
  (pss_cons (ps_expr (pe_bm PySem.F.plainAttrs_list PySem.F.slot_list_append PySem.F.type_list_append mt_append (pv 4) (pa_cons (pe_tup (pa_cons (pe_op op_catA (pe_op op_catA (pe_slice sl_tup (pv 6) po_none (po_some pe_int)) (pe_tup (pa_cons (pe_tup (pa_cons pe_str (pa_cons pe_int pa_nil))) pa_nil))) (pe_slice sl_tup (pv 6) (po_some pe_int) po_none)) (pa_cons (pv 8) pa_nil))) pa_nil)))
  (pss_cons (ps_expr (pe_bm PySem.F.plainAttrs_list PySem.F.slot_list_append PySem.F.type_list_append mt_append (pv 4) (pa_cons (pe_tup (pa_cons (pe_op op_catA (pe_tup (pa_cons (pe_tup (pa_cons pe_str (pa_cons pe_int pa_nil))) pa_nil)) (pe_slice sl_tup (pv 6) (po_some pe_int) po_none)) (pa_cons (pv 8) pa_nil))) pa_nil)))
  (pss_one (ps_expr (pe_bm PySem.F.plainAttrs_list PySem.F.slot_list_append PySem.F.type_list_append mt_append (pv 4) (pa_cons (pe_tup (pa_cons (pv 6) (pa_cons (pe_op op_cat (pe_lst (pa_cons (pe_mk c_Ratio hr (by first | exact Nat.le_refl _ | decide | omega) rfl (pa_cons pe_int pa_nil)) pa_nil)) (pe_lc (own := [("k", 10)]) (g := gName 10) (tt := tYes) rfl sc_law_strange.nd (pi_range1 (by rfl) T.n_range (pa_cons (pv 7) pa_nil)) (blkOk_by (N := ["stages", "views", "player", "at", "strange", "pair", "view", "count", "lots", "wide", "k"]) (sc := fnScope s_law_strange) (by decide +kernel)) (fun _ _ _ _ _ => pg_name (i := 10) sc_law_strange.nd rfl (by first | exact Or.inl rfl | exact Or.inr rfl)) (fun _ _ _ _ _ => pts_nil) (fun _ _ _ _ _ => (pe_mk c_Ratio hr (by first | exact Nat.le_refl _ | decide | omega) rfl (pa_cons pe_int pa_nil))))) pa_nil))) pa_nil))))))))
  pss_nil)
(pss_cons (ps_setLc (i := 9) (own := [("pair", 5)]) (g := gName 5)  rfl sc_law_strange.nd rfl rfl (sw_true rfl rfl rfl (by decide +kernel)) (pi_list (pv 1)) (blkOk_by (N := ["stages", "views", "player", "at", "strange", "pair", "view", "count", "lots", "wide", "k"]) (sc := fnScope s_law_strange) (by decide +kernel)) (fun _ _ _ _ _ => pg_name (i := 5) sc_law_strange.nd rfl (by first | exact Or.inl rfl | exact Or.inr rfl)) (fun _ _ _ _ _ => pts_one (pt_cmpR op_gt (pe_ix (ix_tupK (K := K)) (pv 5) pe_int (fun _ _ => rfl)) pe_int (nomark _))) (fun _ _ _ _ _ => (pv 5)))
(pss_cut (ps_if (pt_cmpR op_gt (pe_callB call_len_seq (by rfl) T.n_len bo_len (pa_cons (pv 9) pa_nil)) pe_int (nomark _))
  (pss_cons (ps_asg (pe_ix ix_list (pv 9) (pe_op op_mod (pv 3) (pe_callB call_len_seq (by rfl) T.n_len bo_len (pa_cons (pv 9) pa_nil))) (fun _ _ => rfl)) (pg_tup (by rfl) (pgs_cons (pg_name (i := 6) sc_law_strange.nd rfl (by first | exact Or.inl rfl | exact Or.inr rfl)) (pgs_cons (pg_name (i := 7) sc_law_strange.nd rfl (by first | exact Or.inl rfl | exact Or.inr rfl)) pgs_nil))))
  (pss_one (ps_expr (pe_bm PySem.F.plainAttrs_list PySem.F.slot_list_append PySem.F.type_list_append mt_append (pv 4) (pa_cons (pe_tup (pa_cons (pv 6) (pa_cons (pe_op op_cat (pe_lst (pa_cons (pe_mk c_Ratio hr (by first | exact Nat.le_refl _ | decide | omega) rfl (pa_cons pe_int pa_nil)) pa_nil)) (pe_lc (own := [("k", 10)]) (g := gName 10) (tt := tYes) rfl sc_law_strange.nd (pi_range1 (by rfl) T.n_range (pa_cons (pe_op op_sub (pv 7) pe_int) pa_nil)) (blkOk_by (N := ["stages", "views", "player", "at", "strange", "pair", "view", "count", "lots", "wide", "k"]) (sc := fnScope s_law_strange) (by decide +kernel)) (fun _ _ _ _ _ => pg_name (i := 10) sc_law_strange.nd rfl (by first | exact Or.inl rfl | exact Or.inr rfl)) (fun _ _ _ _ _ => pts_nil) (fun _ _ _ _ _ => (pe_mk c_Ratio hr (by first | exact Nat.le_refl _ | decide | omega) rfl (pa_cons pe_int pa_nil))))) pa_nil))) pa_nil)))))
  pss_nil)
(pss_one (ps_ret (pv 4)))))))), ?_⟩
    have hp0 : pl ≠ 0 := by omega
    have hsz : ∀ {p : Nat} {r : Row}, r ∈ met S p → 1 ≤ r.2 ∧ r.2 ≤ 100 := fun hr => by
      obtain ⟨j, hj⟩ := met_sz S _ _ hr
      have h1 := (stg_ok hok j).sz0
      have h2 := (stg_ok hok j).sz1
      omega
    have hxl := hxs.length
    rw [List.length_map] at hxl
    have hml : (met S pl).length ≤ 1000 := by
      have h1 := met_len S pl
      have h2 : prodS S * S.length ≤ 100 * 4 := Nat.mul_le_mul hok.prod hok.len
      omega
    -- a view of nobody
    refine And.intro (by show 2 ≤ sizeLine; decide) <| fun t1 n1 => And.intro (by show 1 ≤ sizeLine; decide) <| fun t2 n2 => fun x dx nx ndx ne => ⟨x, dx, 1, 1, rfl, by decide, by decide, upd_same, fun H1 K1 hx1 => ⟨rfl, And.intro (by show 1 ≤ sizeLine; decide) <| fun lx nlx => And.intro (by show 2 ≤ sizeLine; decide) <| fun t3 n3 => And.intro (by show 1 ≤ sizeLine; decide) <| fun st nst => ?_⟩⟩
    have kt1 := Keep.new (W := []) (o := .tup [.str "round", .int 77]) n1
    have kt2 := Keep.new (W := []) (o := .tup [.ref t1]) n2
    have km := keep_made nx ndx K1
    have klx := Keep.new (W := []) (o := .lst [.ref x]) nlx
    have kt3 := Keep.new (W := []) (o := .tup [.ref t2, .ref lx]) n3
    have kst := Keep.new (W := []) (o := .lst [.ref t3]) nst
    have k3 := (klx.trans kt3).trans kst
    have hst : upd (upd (upd H1 lx (.lst [.ref x])) t3 (.tup [.ref t2, .ref lx])) st (.lst [.ref t3]) st = some (.lst [.ref t3]) := upd_same
    have ht3 : upd (upd (upd H1 lx (.lst [.ref x])) t3 (.tup [.ref t2, .ref lx])) st (.lst [.ref t3]) t3 = some (.tup [.ref t2, .ref lx]) := kst _ _ upd_same (by simp)
    have hlx : upd (upd (upd H1 lx (.lst [.ref x])) t3 (.tup [.ref t2, .ref lx])) st (.lst [.ref t3]) lx = some (.lst [.ref x]) := (kt3.trans kst) _ _ upd_same (by simp)
    have hx2 := k3 _ _ hx1 (by simp)
    have ht2 := (km.trans k3) _ _ (upd_same (H := upd H t1 (.tup [.str "round", .int 77])) (a := t2) (o := .tup [.ref t1])) (by simp)
    have ht1 := ((kt2.trans km).trans k3) _ _ (upd_same (H := H) (a := t1) (o := .tup [.str "round", .int 77])) (by simp)
    have k1 := (kt1.trans kt2).trans (km.trans k3)
    have nlst : lx ≠ st := ne_of_none (kt3 _ _ upd_same (by simp)) nst
    have nstH : H st = none := ((((kt1.trans kt2).trans km).trans klx).trans kt3).free nst
    generalize upd (upd (upd H1 lx (.lst [.ref x])) t3 (.tup [.ref t2, .ref lx])) st (.lst [.ref t3]) = H2 at *
    have S0 : StrI C_Ratio (met S pl) st 1 H2 [([(("round" : Str), [77])], [1])] := by
      refine ⟨⟨[.ref t3], hst, .cons ht3 (.tup ht2 (.cons (.tup ht1 (.cons (.str _) (td_ints [77]))) .nil)) ⟨[.ref x], hlx, ?_⟩ nlst .nil⟩, fun e he => ?_, by simp⟩
      · have w1 : wr [1] = [(1, 1)] := by decide
        rw [w1]
        refine .cons ⟨dx, ?_⟩ .nil
        rw [hx2, (red_one _).1, (red_one _).2]
      · rw [List.mem_singleton.mp he]
        refine ⟨⟨by decide, by decide, by decide⟩, ok_one (ok_round _), ?_⟩
        rw [lookR_none (odd_head (by decide) [])]; decide
    clear n1 n2 ne nlx n3 nst nx ndx K1 hx1 kt1 kt2 km klx kt3 kst k3
    -- one of the other player
    obtain ⟨qr, hq1, hq2, hq3⟩ : ∃ qr : Nat, (3 : Int) - (pl : Int) = (qr : Int) ∧ qr ≠ 0 ∧ pl ≠ qr := ⟨3 - pl, by omega, by omega, by omega⟩
    refine ⟨_, rfl, _, rfl, _, _, rfl, rfl, sa, S, qr, by rw [← hq1]; rfl, hSt.keep k1, hok, fun vl vxs H3 nvl hvl hvt K3 => ⟨_, rfl, _, _, rfl, SqL.of hvl, fun q nq => ?_⟩⟩
    rw [show cutV vxs none (some 1) = vxs.take 1 from cutTake vxs 1]
    have kq := Keep.new (W := []) (o := .lst (vxs.take 1)) nq
    have hq : upd H3 q (.lst (vxs.take 1)) q = some (.lst (vxs.take 1)) := upd_same
    have k23 := K3.trans kq
    have hvt1 := (hvt.tk kq.tk).take 1
    generalize upd H3 q (.lst (vxs.take 1)) = H4 at *
    have S4 := S0.keep k23
    have nqst : q ≠ st := ne_of_none (K3 _ _ hst (by simp)) nq |>.symm
    have k14 := k1.trans k23
    refine ⟨q, rfl, ⟨_, SqL.of hq⟩, for_list (K := K) (a := q) (xs := vxs.take 1) (fun i σ H' => ∃ o5 es, σ = [some (.ref sa), some (.ref va), some (.int pl), some (.int z), some (.ref st), o5, none, none, none, none, none] ∧ StrI C_Ratio (met S pl) st (1 + i) H' es ∧ Keep [st] H4 H' ∧ Keep [] H H') ⟨none, _, rfl, S4, Keep.refl _ _, k14⟩ (fun i σ H' _ ⟨_, _, _, _, kk, _⟩ => SqL.of (kk _ _ hq (by simpa using nqst))) ?_ ?_⟩
    · rintro i y σ H5 hy ⟨o5, es, rfl, hS, kk, k5⟩
      have hi1 : i < 1 := by
        have := (List.getElem?_eq_some_iff.mp hy).1
        rw [List.length_take] at this; omega
      have hmv : vxs.length = (met S qr).length := by have := hvt.length; rwa [List.length_map] at this
      have him : i < (met S qr).length := by
        have := (List.getElem?_eq_some_iff.mp hy).1
        rw [List.length_take] at this; omega
      obtain ⟨y', hy', hyd⟩ := hvt1.get (i := i) (d := dRow (met S qr)[i]) (by rw [List.getElem?_take_of_lt hi1, List.getElem?_map, List.getElem?_eq_getElem him]; rfl)
      rw [hy] at hy'
      cases hy'
      have hrm : (met S qr)[i] ∈ met S qr := List.getElem_mem him
      generalize (met S qr)[i] = r at *
      obtain ⟨hs0, hs1⟩ := hsz hrm
      obtain ⟨tt, tes, rfl, htt, htes⟩ := td_view hyd
      cases htes with
      | @cons v0 _ _ _ h0 hr1 =>
        cases hr1 with
        | cons h1 hr2 =>
          cases hr2
          cases h1
          obtain ⟨gs0, hg0, _⟩ := id hS.1
          have tk45 : TK H4 H5 := fun b zs hb => kk b _ hb (by simpa using ne_of hb (S4.1.choose_spec.1) (by intro z; cases z))
          have htt5 := tk45 _ _ htt
          refine ⟨_, rfl, .inl ⟨rfl, _, SqL.of hg0⟩, _, rfl, _, _, _, _, rfl, rfl, SqT.of htt5, rfl, _, rfl, _, _, _, _, rfl, rfl, SqT.of htt5, rfl, r.2, rfl, by omega, by omega, fun D nD => ?_⟩
          refine lc_range (lo := 0) (n := r.2.toNat) (fun j H' => ∃ us, H' D = some (.lst us) ∧ RL C_Ratio H' us ((pureL j 0).map fun (w : Nat) => ((w : Int), (1 : Int))) ∧ Keep [] H5 H') ⟨[], upd_same, .nil, Keep.new nD⟩ ?_ ?_
          · rintro j H8 hj ⟨us, hD2, hur, k8⟩
            have e0 : (0 : Int) + (j : Int) = (j : Int) := by omega
            rw [e0]
            have hul := hur.len
            rw [List.length_map, pureL_len] at hul
            refine ⟨rfl, yes_then ⟨_, rfl, rfl, .inr ⟨_, rfl, fun x' dx' nx ndx ne => ⟨x', dx', _, 1, rfl, by decide, by decide, upd_same, fun H9 K9 hx9 => ⟨rfl, ?_⟩⟩⟩⟩⟩
            have km := keep_made nx ndx K9
            rw [(red_one _).1, (red_one _).2] at hx9
            have hD9 := km _ _ hD2 (by simp)
            refine ⟨us, hD9, smallL (by omega), us ++ [.ref x'], upd_same, ?_, (k8.trans km).then_own nD⟩
            rw [pureL_succ, List.map_append]
            refine ((hur.keep (KI.of km)).keep (KI.lst hD9)).snoc ⟨dx', ?_⟩
            have hx6 := (KI.lst (o := .lst (us ++ [.ref x'])) hD9).2 _ _ _ _ hx9
            rw [hx6]
            by_cases hjm : j = 0
            · rw [if_pos hjm, hjm, decide_eq_true (show V.int ((0 : Nat) : Int) = .int 0 from rfl)]; rfl
            · rw [if_neg hjm, decide_eq_false (fun z => hjm (by have := V.int.inj z; omega))]; rfl
          · rintro H8 ⟨us, hD2, hur, k8⟩
            refine And.intro (by show 2 ≤ sizeLine; decide) <| fun t nt => ?_
            have kt := Keep.new (W := []) (o := .tup [v0, .ref D]) nt
            have ht : upd H8 t (.tup [v0, .ref D]) t = some (.tup [v0, .ref D]) := upd_same
            have nDs : D ≠ st := (ne_of_none hg0 nD).symm
            generalize upd H8 t (.tup [v0, .ref D]) = H9 at *
            have k59 := k8.trans kt
            have odd : Odd (met S pl) (r.1, pureL r.2.toNat 0) := ⟨wok_pure (by omega) (by omega), fun e he => met_ok S qr r hrm e he, by
              rw [lookR_none (odd_other hp0 hq2 hq3 hrm), pureL_len]; omega⟩
            obtain ⟨gs, hgs, hgl, hS2⟩ := (hS.keep k59).add (L := r.1) (ws := pureL r.2.toNat 0) (by omega) ht ((h0.tk tk45).tk k59.tk) ⟨us, kt _ _ hD2 (by simp), by rw [wr_pure (by omega)]; exact hur.keep (KI.of kt)⟩ odd nDs
            exact ⟨_, _, _, rfl, rfl, hgs, hgl, _, _, rfl, hS2, (kk.trans (k59.mono (by simp))).then_at (by simp), (k5.trans k59).then_own nstH⟩
    rintro σ H5 ⟨o5, es, rfl, hS, kk, k5⟩
    replace hS := hS.mono (m := 4) (by rw [List.length_take]; omega)
    clear kk S4 hvt1 hq k23 S0 hst ht3 hlx hx2 ht2 ht1

    have pick : ∀ {H' : Hp}, Keep [] H H' → ∀ (R : List Row) (ys : List V), TDs H' ys (R.map dRow) → 0 < R.length → (∀ r ∈ R, r ∈ met S pl) → ∃ (j : Nat) (tt : Addr) (bb : Addr) (vxs : List V) (r : Row), z % ((ys.length : Nat) : Int) = ((j : Nat) : Int) ∧ ys[j]? = some (.ref tt) ∧ H' tt = some (.tup [.ref bb, .int r.2]) ∧ H' bb = some (.tup vxs) ∧ TDs H' vxs (r.1.map dEv) ∧ vxs.length = r.1.length ∧ r ∈ R ∧ r ∈ met S pl ∧ 2 ≤ r.1.length := fun {H'} _ R ys hys h0 hR => by
      have hyl := hys.length
      rw [List.length_map] at hyl
      have h1 := Int.emod_nonneg z (show ((ys.length : Nat) : Int) ≠ 0 by omega)
      have h2 := Int.emod_lt_of_pos z (show (0 : Int) < ((ys.length : Nat) : Int) by omega)
      obtain ⟨j, hj⟩ : ∃ j : Nat, z % ((ys.length : Nat) : Int) = ((j : Nat) : Int) := ⟨(z % ((ys.length : Nat) : Int)).toNat, by omega⟩
      have hjR : j < R.length := by omega
      obtain ⟨y, hy, hyd⟩ := hys.get (i := j) (d := dRow R[j]) (by rw [List.getElem?_map, List.getElem?_eq_getElem hjR]; rfl)
      have hrm := List.getElem_mem hjR
      obtain ⟨tt, tes, rfl, htt, htes⟩ := td_view hyd
      cases htes with
      | @cons v0 _ _ _ h0 hr1 =>
        cases hr1 with
        | cons h1 hr2 =>
          cases hr2
          cases h1
          obtain ⟨bb, vxs, rfl, hb, hvs, hvl⟩ := td_grow h0
          exact ⟨j, tt, bb, vxs, R[j], hj, hy, htt, hb, hvs, hvl, hrm, hR _ hrm, met_two _ (hR _ hrm)⟩
    refine ⟨fun σ H' => ∃ o5 o6 o7 o8 es, σ = [some (.ref sa), some (.ref va), some (.int pl), some (.int z), some (.ref st), o5, o6, o7, o8, none, none] ∧ StrI C_Ratio (met S pl) st 8 H' es ∧ Keep [] H H', ?_, ?_⟩
    · refine ⟨_, rfl, va, xs, rfl, .inl (SqL.of (k5 _ _ hva (by simp))), _, _, rfl, rfl, _, rfl, iteD (fun e => ?_) (fun e => ⟨_, _, _, _, _, rfl, hS.mono (by omega), k5⟩)⟩
      have e' : (0 : Int) < ((xs.length : Nat) : Int) := e
      have hxs5 := hxs.tk k5.tk
      obtain ⟨j, tt, bb, vxs, r, hj, hy, htt, hb, hvs, hvl, _, hrm, h2⟩ := pick k5 (met S pl) xs hxs5 (by omega) (fun _ h => h)
      obtain ⟨hs0, hs1⟩ := hsz hrm
      obtain ⟨c, hc⟩ : ∃ c : Nat, r.2 = (c : Int) := ⟨r.2.toNat, by omega⟩
      have okr : ∀ e ∈ r.1, OkE e := met_ok S pl r hrm
      have nodup := met_nodup S pl
      refine ⟨_, rfl, _, rfl, _, rfl, va, xs, rfl, .inl (SqL.of (k5 _ _ hva (by simp))), _, _, rfl, rfl, e', _, _, _, _, rfl, rfl, SqL.of (k5 _ _ hva (by simp)), by rw [hj]; exact atI_nat hy, tt, _, rfl, SqT.of htt, rfl, _, _, rfl, _, _, rfl, rfl, ?_⟩
      refine ⟨_, rfl, r.2, rfl, by omega, by omega, fun D nD => ?_⟩
      refine lc_range (lo := 0) (n := r.2.toNat) (fun j H' => ∃ us, H' D = some (.lst us) ∧ RL C_Ratio H' us (List.replicate j (redN 1 r.2, redD 1 r.2)) ∧ Keep [] H5 H') ⟨[], upd_same, .nil, Keep.new nD⟩ ?_ ?_
      · rintro j H9 hj ⟨us, hD2, hur, k9⟩
        have hul := hur.len
        rw [List.length_replicate] at hul
        refine ⟨rfl, yes_then ⟨_, rfl, fun x' dx' nx ndx ne => ⟨x', dx', 1, r.2, rfl, by omega, by
          have : r.2.natAbs ≤ 100 := by omega
          exact Nat.lt_of_le_of_lt this (Nat.lt_of_lt_of_le (show 100 < 2 ^ 7 by decide) (Nat.pow_le_pow_right (by decide) (by decide))), upd_same, fun H10 K10 hx3 => ⟨rfl, ?_⟩⟩⟩⟩
        have km := keep_made nx ndx K10
        have hD3 := km _ _ hD2 (by simp)
        refine ⟨us, hD3, smallL (by omega), ⟨us ++ [.ref x'], upd_same, ?_, (k9.trans km).then_own nD⟩⟩
        rw [List.replicate_succ']
        exact ((hur.keep (KI.of km)).keep (KI.lst hD3)).snoc ⟨dx', (KI.lst (o := .lst (us ++ [.ref x'])) hD3).2 _ _ _ _ hx3⟩
      rintro H6 ⟨us, hD, hur, k56⟩
      obtain ⟨gs0, hg0, _⟩ := id hS.1
      have nDs : D ≠ st := (ne_of_none hg0 nD).symm
      have laD : LA C_Ratio H6 D (wr (List.replicate c 1)) := ⟨us, hD, by rw [wr_ones, ← hc]; rw [show r.2.toNat = c by omega] at hur; exact hur⟩
      have hS6 := hS.keep k56
      have hb6 := k56 _ _ hb (by simp)
      have hvs6 := hvs.tk k56.tk
      have k6 := k5.trans k56
      -- one event more
      obtain ⟨gs1, hg1, _⟩ := id hS6.1
      refine ⟨_, rfl, .inl ⟨rfl, _, SqL.of hg1⟩, _, rfl, _, rfl, bb, vxs, rfl, SqT.of hb6, not_all1 (by omega), fun p1 np1 => ?_⟩
      rw [show cutV vxs none (some 1) = vxs.take 1 from cutTake vxs 1]
      have kp1 := Keep.new (W := []) (o := .tup (vxs.take 1)) np1
      have hp1 : TD (upd H6 p1 (.tup (vxs.take 1))) (.ref p1) (dView (r.1.take 1)) := by
        have := (hvs6.tk kp1.tk).take 1
        rw [← List.map_take] at this
        exact .tup upd_same this
      generalize upd H6 p1 (.tup (vxs.take 1)) = H7 at *
      refine And.intro (by show 2 ≤ sizeLine; decide) <| fun u1 nu1 => And.intro (by show 1 ≤ sizeLine; decide) <| fun u2 nu2 => ?_
      have ku1 := Keep.new (W := []) (o := .tup [.str "told", .int 9]) nu1
      have ku2 := Keep.new (W := []) (o := .tup [.ref u1]) nu2
      have ku := ku1.trans ku2
      have hu2 : upd (upd H7 u1 (.tup [.str "told", .int 9])) u2 (.tup [.ref u1]) u2 = some (.tup [.ref u1]) := upd_same
      have hu1 : TDs (upd (upd H7 u1 (.tup [.str "told", .int 9])) u2 (.tup [.ref u1])) [.ref u1] ([(("told" : Str), [9])].map dEv) := .cons (.tup (ku2 _ _ upd_same (by simp)) (.cons (.str _) (td_ints [9]))) .nil
      generalize upd (upd H7 u1 (.tup [.str "told", .int 9])) u2 (.tup [.ref u1]) = H8 at *
      have hvl2 : r.1.length ≤ 10000 := by
        obtain ⟨p, j, hj, _, rfl⟩ := met_from S pl r hrm
        have := asked_len S p j
        have := hok.len
        show (asked S p j).length ≤ 10000
        omega
      refine add_evs (hp1.tk ku.tk) hu2 hu1 (by rw [List.length_take]; simp; omega) fun p2 H9 k89 hp2 => ?_
      have k69 := (kp1.trans ku).trans k89
      have hb9 := k69 _ _ hb6 (by simp)
      refine ⟨_, rfl, _, rfl, bb, vxs, rfl, SqT.of hb9, not_all2 (by omega), fun p3 np3 => ?_⟩
      rw [show cutV vxs (some 1) none = vxs.drop 1 from cutDrop vxs 1]
      have kp3 := Keep.new (W := []) (o := .tup (vxs.drop 1)) np3
      have hp3 : upd H9 p3 (.tup (vxs.drop 1)) p3 = some (.tup (vxs.drop 1)) := upd_same
      have hd3 : TDs (upd H9 p3 (.tup (vxs.drop 1))) (vxs.drop 1) ((r.1.drop 1).map dEv) := by
        have := (hvs6.tk (k69.trans kp3).tk).drop 1
        rw [← List.map_drop] at this
        exact this
      generalize upd H9 p3 (.tup (vxs.drop 1)) = H10 at *
      refine add_evs (hp2.tk kp3.tk) hp3 hd3 (by rw [List.length_append, List.length_take, List.length_drop]; simp; omega) fun p4 H11 k1011 hp4 => ?_
      refine ⟨_, rfl, And.intro (by show 2 ≤ sizeLine; decide) <| fun ta nta => ?_⟩
      have kta := Keep.new (W := []) (o := .tup [.ref p4, .ref D]) nta
      have hta : upd H11 ta (.tup [.ref p4, .ref D]) ta = some (.tup [.ref p4, .ref D]) := upd_same
      generalize upd H11 ta (.tup [.ref p4, .ref D]) = H12 at *
      have k612 := ((k69.trans kp3).trans k1011).trans kta
      have oddA : Odd (met S pl) (r.1.take 1 ++ [(("told" : Str), [9])] ++ r.1.drop 1, List.replicate c 1) := ⟨wok_ones (by omega) (by omega), fun e he => by
        rcases List.mem_append.mp he with he | he
        · rcases List.mem_append.mp he with he | he
          · exact okr e (List.mem_of_mem_take he)
          · rw [List.mem_singleton.mp he]; exact ok_told _
        · exact okr e (List.mem_of_mem_drop he), by
        rw [lookR_none (odd_more hp0 hrm _), List.length_replicate]; omega⟩
      obtain ⟨gsA, hgA, hlA, hSA⟩ := (hS6.keep k612).add (L := r.1.take 1 ++ [(("told" : Str), [9])] ++ r.1.drop 1) (ws := List.replicate c 1) (by omega) hta (hp4.tk kta.tk) (laD.keep k612) oddA nDs
      refine ⟨_, _, _, rfl, rfl, hgA, hlA, ?_⟩
      have kA : Keep [st] H6 (upd H12 st (.lst (gsA ++ [.ref ta]))) := (k612.mono (by simp)).then_at (by simp)
      have kA0 : Keep [] H (upd H12 st (.lst (gsA ++ [.ref ta]))) := (k6.trans k612).then_own nstH
      have laDA : LA C_Ratio (upd H12 st (.lst (gsA ++ [.ref ta]))) D (wr (List.replicate c 1)) := by
        obtain ⟨us, q1, q2⟩ := laD.keep k612
        exact ⟨us, by rw [upd_ne nDs]; exact q1, q2.keep (KI.lst hgA)⟩
      have hbA : upd H12 st (.lst (gsA ++ [.ref ta])) bb = some (.tup vxs) := kA _ _ hb6 (by simpa using ne_of hb6 hg1 (by intro z; cases z))
      have tkA : TK H6 (upd H12 st (.lst (gsA ++ [.ref ta]))) := fun b zs h => kA b _ h (by simpa using ne_of h hg1 (by intro z; cases z))
      have hvsA := hvs6.tk tkA
      clear hp1 ku1 ku2 ku hu2 hu1 hp2 k89 k69 hb9 kp3 hp3 hd3 hp4 k1011 kta hta k612 kp1 np1 nu1 nu2 np3 nta
      generalize upd H12 st (.lst (gsA ++ [.ref ta])) = H13 at *
      -- another beginning
      obtain ⟨gs2, hg2, _⟩ := id hSA.1
      refine ⟨_, rfl, .inl ⟨rfl, _, SqL.of hg2⟩, And.intro (by show 2 ≤ sizeLine; decide) <| fun u1 nu1 => And.intro (by show 1 ≤ sizeLine; decide) <| fun u2 nu2 => ?_⟩
      have ku1 := Keep.new (W := []) (o := .tup [.str "round", .int 7]) nu1
      have ku2 := Keep.new (W := []) (o := .tup [.ref u1]) nu2
      have ku := ku1.trans ku2
      have hu2 : TD (upd (upd H13 u1 (.tup [.str "round", .int 7])) u2 (.tup [.ref u1])) (.ref u2) (dView [(("round" : Str), [7])]) := .tup upd_same (.cons (.tup (ku2 _ _ upd_same (by simp)) (.cons (.str _) (td_ints [7]))) .nil)
      generalize upd (upd H13 u1 (.tup [.str "round", .int 7])) u2 (.tup [.ref u1]) = H14 at *
      have hbB := ku _ _ hbA (by simp)
      refine ⟨_, rfl, _, rfl, bb, vxs, rfl, SqT.of hbB, not_all2 (by omega), fun p3 np3 => ?_⟩
      rw [show cutV vxs (some 1) none = vxs.drop 1 from cutDrop vxs 1]
      have kp3 := Keep.new (W := []) (o := .tup (vxs.drop 1)) np3
      have hp3 : upd H14 p3 (.tup (vxs.drop 1)) p3 = some (.tup (vxs.drop 1)) := upd_same
      have hd3 : TDs (upd H14 p3 (.tup (vxs.drop 1))) (vxs.drop 1) ((r.1.drop 1).map dEv) := by
        have := (hvsA.tk (ku.trans kp3).tk).drop 1
        rw [← List.map_drop] at this
        exact this
      generalize upd H14 p3 (.tup (vxs.drop 1)) = H15 at *
      refine add_evs (hu2.tk kp3.tk) hp3 hd3 (by rw [List.length_drop]; simp; omega) fun p4 H16 k1516 hp4 => ?_
      refine ⟨_, rfl, And.intro (by show 2 ≤ sizeLine; decide) <| fun ta nta => ?_⟩
      have kta := Keep.new (W := []) (o := .tup [.ref p4, .ref D]) nta
      have hta : upd H16 ta (.tup [.ref p4, .ref D]) ta = some (.tup [.ref p4, .ref D]) := upd_same
      generalize upd H16 ta (.tup [.ref p4, .ref D]) = H17 at *
      have k1317 := ((ku.trans kp3).trans k1516).trans kta
      have oddB : Odd (met S pl) ([(("round" : Str), [7])] ++ r.1.drop 1, List.replicate c 1) := ⟨wok_ones (by omega) (by omega), fun e he => by
        rcases List.mem_append.mp he with he | he
        · rw [List.mem_singleton.mp he]; exact ok_round _
        · exact okr e (List.mem_of_mem_drop he), by
        rw [lookR_none (show [(("round" : Str), [7])] ++ r.1.drop 1 ∉ _ from odd_head (by decide) _), List.length_replicate]; omega⟩
      obtain ⟨gsB, hgB, hlB, hSB⟩ := (hSA.keep k1317).add (L := [(("round" : Str), [7])] ++ r.1.drop 1) (ws := List.replicate c 1) (by omega) hta (hp4.tk kta.tk) (laDA.keep k1317) oddB nDs
      refine ⟨_, _, _, rfl, rfl, hgB, hlB, ?_⟩
      have kB0 : Keep [] H (upd H17 st (.lst (gsB ++ [.ref ta]))) := (kA0.trans k1317).then_own nstH
      have hbC : upd H17 st (.lst (gsB ++ [.ref ta])) bb = some (.tup vxs) := by
        rw [upd_ne (ne_of (k1317 _ _ hbA (by simp)) hgB (by intro z; cases z))]; exact k1317 _ _ hbA (by simp)
      have hvsC : TDs (upd H17 st (.lst (gsB ++ [.ref ta]))) vxs (r.1.map dEv) := (hvsA.tk k1317.tk).tk (TK.lst hgB)
      clear nu1 nu2 ku1 ku2 ku hu2 hbB np3 kp3 hp3 hd3 k1516 hp4 kta nta hta k1317
      generalize upd H17 st (.lst (gsB ++ [.ref ta])) = H18 at *
      -- a lot more
      obtain ⟨gs3, hg3, _⟩ := id hSB.1
      refine ⟨_, rfl, .inl ⟨rfl, _, SqL.of hg3⟩, _, rfl, fun x dx nx ndx ne => ⟨x, dx, 1, 1, rfl, by decide, by decide, upd_same, fun H19 K19 hx19 => ⟨rfl, And.intro (by show 1 ≤ sizeLine; decide) <| fun l1 nl1 => ⟨_, rfl, r.2, rfl, by omega, by omega, fun D2 nD2 => ?_⟩⟩⟩⟩
      have km := keep_made nx ndx K19
      have kl1 := Keep.new (W := []) (o := .lst [.ref x]) nl1
      have hl1 : upd H19 l1 (.lst [.ref x]) l1 = some (.lst [.ref x]) := upd_same
      rw [(red_one _).1, (red_one _).2] at hx19
      have hx20 := kl1 _ _ hx19 (by simp)
      have k1820 := km.trans kl1
      generalize upd H19 l1 (.lst [.ref x]) = H20 at *
      refine lc_range (lo := 0) (n := r.2.toNat) (fun j H' => ∃ us, H' D2 = some (.lst us) ∧ RL C_Ratio H' us (List.replicate j ((0 : Int), (1 : Int))) ∧ Keep [] H20 H') ⟨[], upd_same, .nil, Keep.new nD2⟩ ?_ ?_
      · rintro j H9 hj ⟨us, hD2, hur, k9⟩
        have hul := hur.len
        rw [List.length_replicate] at hul
        refine ⟨rfl, yes_then fun x' dx' nx ndx ne => ⟨x', dx', 0, 1, rfl, by decide, by decide, upd_same, fun H10 K10 hx3 => ⟨rfl, ?_⟩⟩⟩
        have km := keep_made nx ndx K10
        rw [(red_one _).1, (red_one _).2] at hx3
        have hD3 := km _ _ hD2 (by simp)
        refine ⟨us, hD3, smallL (by omega), ⟨us ++ [.ref x'], upd_same, ?_, (k9.trans km).then_own nD2⟩⟩
        rw [List.replicate_succ']
        exact ((hur.keep (KI.of km)).keep (KI.lst hD3)).snoc ⟨dx', (KI.lst (o := .lst (us ++ [.ref x'])) hD3).2 _ _ _ _ hx3⟩
      rintro H21 ⟨us2, hD2, hur2, k2021⟩
      have hul2 := hur2.len
      rw [List.length_replicate] at hul2
      refine ⟨l1, D2, _, _, rfl, rfl, k2021 _ _ hl1 (by simp), hD2, smallM (by simp; omega), fun l3 nl3 => And.intro (by show 2 ≤ sizeLine; decide) <| fun ta nta => ?_⟩
      have kl3 := Keep.new (W := []) (o := .lst ([.ref x] ++ us2)) nl3
      have kta := Keep.new (W := []) (o := .tup [.ref bb, .ref l3]) nta
      have hl3 : upd (upd H21 l3 (.lst ([.ref x] ++ us2))) ta (.tup [.ref bb, .ref l3]) l3 = some (.lst ([.ref x] ++ us2)) := kta _ _ upd_same (by simp)
      have hta : upd (upd H21 l3 (.lst ([.ref x] ++ us2))) ta (.tup [.ref bb, .ref l3]) ta = some (.tup [.ref bb, .ref l3]) := upd_same
      have k2122 := kl3.trans kta
      have nl3s : l3 ≠ st := (ne_of_none ((k1820.trans k2021) _ _ hg3 (by simp)) nl3).symm
      generalize upd (upd H21 l3 (.lst ([.ref x] ++ us2))) ta (.tup [.ref bb, .ref l3]) = H22 at *
      have k1822 := (k1820.trans k2021).trans k2122
      have rlC : RL C_Ratio H22 ([.ref x] ++ us2) (wr (1 :: List.replicate c 0)) := by
        rw [wr1z, show c = r.2.toNat by omega]
        exact .cons ⟨dx, (k2021.trans k2122) _ _ hx20 (by simp)⟩ (hur2.keep (KI.of k2122))
      have oddC : Odd (met S pl) (r.1, 1 :: List.replicate c 0) := ⟨wok1z (by omega), okr, by
        rw [lookR_mem nodup hrm, len1z]; omega⟩
      obtain ⟨gsC, hgC, hlC, hSC⟩ := (hSB.keep k1822).add (L := r.1) (ws := 1 :: List.replicate c 0) (by omega) hta (.tup (k1822 _ _ hbC (by simp)) (hvsC.tk k1822.tk)) ⟨_, hl3, rlC⟩ oddC nl3s
      exact ⟨_, _, _, rfl, rfl, hgC, hlC, _, _, _, _, _, rfl, hSC.mono (by omega), (kB0.trans k1822).then_own nstH⟩
    rintro σ H6 ⟨o5', o6, o7, o8, es, rfl, hS6, k6⟩
    have hva6 := k6 _ _ hva (by simp)
    have hxs6 := hxs.tk k6.tk
    refine ⟨_, rfl, va, rfl, ⟨_, SqL.of hva6⟩, fun W nW => ?_⟩
    refine lc_list (K := K) (a := va) (xs := xs) (fun i H' => ∃ ws, H' W = some (.lst ws) ∧ TDs H' ws ((((met S pl).take i).filter fun (r : Row) => decide (1 < r.2)).map dRow) ∧ Keep [] H6 H') ⟨[], upd_same, .nil, Keep.new nW⟩ (fun i H' _ ⟨_, _, _, kk⟩ => SqL.of (kk _ _ hva6 (by simp))) ?_ ?_
    · rintro i y H7 hy ⟨ws, hW, hws, k7⟩
      have hi := (List.getElem?_eq_some_iff.mp hy).1
      have hiR : i < (met S pl).length := by omega
      obtain ⟨y', hy', hyd⟩ := (hxs6.tk k7.tk).get (i := i) (d := dRow (met S pl)[i]) (by rw [List.getElem?_map, List.getElem?_eq_getElem hiR]; rfl)
      rw [hy] at hy'
      cases hy'
      have hyd0 := hyd
      obtain ⟨tt, tes, rfl, htt, htes⟩ := td_view hyd
      cases htes with
      | @cons v0 _ _ _ h0 hr1 =>
        cases hr1 with
        | cons h1 hr2 =>
          cases hr2
          cases h1
          have hwl := hws.length
          have hfl : ((((met S pl).take i).filter fun (r : Row) => decide (1 < r.2)).map dRow).length ≤ 1000 := by
            rw [List.length_map]
            exact Nat.le_trans (List.length_filter_le _ _) (by rw [List.length_take]; omega)
          refine ⟨rfl, _, rfl, _, _, _, _, rfl, rfl, SqT.of htt, rfl, _, _, rfl, rfl, _, rfl, iteD (fun e => ?_) (fun e => ?_)⟩
          · have e' : 1 < ((met S pl)[i]).2 := e
            refine ⟨_, rfl, ws, hW, smallL (by omega), ws ++ [.ref tt], upd_same, ?_, k7.then_own nW⟩
            rw [List.take_succ_eq_append_getElem hiR, List.filter_append, List.map_append, List.filter_cons, if_pos (by simpa using e')]
            exact (hws.tk (TK.lst hW)).snoc (hyd0.tk (TK.lst hW))
          · have e' : ¬ 1 < ((met S pl)[i]).2 := e
            refine ⟨ws, hW, ?_, k7⟩
            rw [List.take_succ_eq_append_getElem hiR, List.filter_append, List.filter_cons, if_neg (by simpa using e')]
            simpa using hws
    rintro H7 ⟨ws, hW, hws, k67⟩
    rw [show xs.length = (met S pl).length from hxl, List.take_length] at hws
    have k7 := k6.trans k67
    have hS7 := hS6.keep k67
    refine ⟨fun σ H' => ∃ o5 o6 o7 o8 o9 es, σ = [some (.ref sa), some (.ref va), some (.int pl), some (.int z), some (.ref st), o5, o6, o7, o8, o9, none] ∧ StrI C_Ratio (met S pl) st 9 H' es ∧ Keep [] H H', ?_, ?_⟩
    · refine ⟨_, rfl, W, ws, rfl, .inl (SqL.of hW), _, _, rfl, rfl, _, rfl, iteD (fun e => ?_) (fun e => ⟨_, _, _, _, _, _, rfl, hS7.mono (by omega), k7⟩)⟩
      have e' : (0 : Int) < ((ws.length : Nat) : Int) := e
      have hwl := hws.length
      rw [List.length_map] at hwl
      obtain ⟨j, tt, bb, vxs, r, hj, hy, htt, hb, hvs, hvl, hrf, hrm, h2⟩ := pick k7 ((met S pl).filter fun (r : Row) => decide (1 < r.2)) ws hws (by omega) (fun r hr => (List.mem_filter.mp hr).1)
      have hr1 : 1 < r.2 := by have := (List.mem_filter.mp hrf).2; simpa using this
      obtain ⟨hs0, hs1⟩ := hsz hrm
      have okr : ∀ e ∈ r.1, OkE e := met_ok S pl r hrm
      have nodup := met_nodup S pl
      obtain ⟨gs0, hg0, _⟩ := id hS7.1
      refine ⟨_, rfl, _, rfl, _, rfl, W, ws, rfl, .inl (SqL.of hW), _, _, rfl, rfl, e', _, _, _, _, rfl, rfl, SqL.of hW, by rw [hj]; exact atI_nat hy, tt, _, rfl, SqT.of htt, rfl, _, _, rfl, _, _, rfl, rfl, ?_⟩
      refine ⟨_, rfl, .inl ⟨rfl, _, SqL.of hg0⟩, _, rfl, fun x dx nx ndx ne => ⟨x, dx, 1, 1, rfl, by decide, by decide, upd_same, fun H19 K19 hx19 => ⟨rfl, And.intro (by show 1 ≤ sizeLine; decide) <| fun l1 nl1 => ⟨_, rfl, _, _, rfl, rfl, r.2 - 2, rfl, by omega, by omega, fun D2 nD2 => ?_⟩⟩⟩⟩
      have km := keep_made nx ndx K19
      have kl1 := Keep.new (W := []) (o := .lst [.ref x]) nl1
      have hl1 : upd H19 l1 (.lst [.ref x]) l1 = some (.lst [.ref x]) := upd_same
      rw [(red_one _).1, (red_one _).2] at hx19
      have hx20 := kl1 _ _ hx19 (by simp)
      have k720 := km.trans kl1
      generalize upd H19 l1 (.lst [.ref x]) = H20 at *
      refine lc_range (lo := 0) (n := (r.2 - 2).toNat) (fun j H' => ∃ us, H' D2 = some (.lst us) ∧ RL C_Ratio H' us (List.replicate j ((0 : Int), (1 : Int))) ∧ Keep [] H20 H') ⟨[], upd_same, .nil, Keep.new nD2⟩ ?_ ?_
      · rintro j H9 hj ⟨us, hD2, hur, k9⟩
        have hul := hur.len
        rw [List.length_replicate] at hul
        refine ⟨rfl, yes_then fun x' dx' nx ndx ne => ⟨x', dx', 0, 1, rfl, by decide, by decide, upd_same, fun H10 K10 hx3 => ⟨rfl, ?_⟩⟩⟩
        have km := keep_made nx ndx K10
        rw [(red_one _).1, (red_one _).2] at hx3
        have hD3 := km _ _ hD2 (by simp)
        refine ⟨us, hD3, smallL (by omega), ⟨us ++ [.ref x'], upd_same, ?_, (k9.trans km).then_own nD2⟩⟩
        rw [List.replicate_succ']
        exact ((hur.keep (KI.of km)).keep (KI.lst hD3)).snoc ⟨dx', (KI.lst (o := .lst (us ++ [.ref x'])) hD3).2 _ _ _ _ hx3⟩
      rintro H21 ⟨us2, hD2, hur2, k2021⟩
      have hul2 := hur2.len
      rw [List.length_replicate] at hul2
      refine ⟨l1, D2, _, _, rfl, rfl, k2021 _ _ hl1 (by simp), hD2, smallM (by simp; omega), fun l3 nl3 => And.intro (by show 2 ≤ sizeLine; decide) <| fun ta nta => ?_⟩
      have kl3 := Keep.new (W := []) (o := .lst ([.ref x] ++ us2)) nl3
      have kta := Keep.new (W := []) (o := .tup [.ref bb, .ref l3]) nta
      have hl3 : upd (upd H21 l3 (.lst ([.ref x] ++ us2))) ta (.tup [.ref bb, .ref l3]) l3 = some (.lst ([.ref x] ++ us2)) := kta _ _ upd_same (by simp)
      have hta : upd (upd H21 l3 (.lst ([.ref x] ++ us2))) ta (.tup [.ref bb, .ref l3]) ta = some (.tup [.ref bb, .ref l3]) := upd_same
      have k2122 := kl3.trans kta
      have nl3s : l3 ≠ st := (ne_of_none ((k720.trans k2021) _ _ hg0 (by simp)) nl3).symm
      generalize upd (upd H21 l3 (.lst ([.ref x] ++ us2))) ta (.tup [.ref bb, .ref l3]) = H22 at *
      have k722 := (k720.trans k2021).trans k2122
      have rlC : RL C_Ratio H22 ([.ref x] ++ us2) (wr (1 :: List.replicate (r.2 - 2).toNat 0)) := by
        rw [wr1z]
        exact .cons ⟨dx, (k2021.trans k2122) _ _ hx20 (by simp)⟩ (hur2.keep (KI.of k2122))
      have oddC : Odd (met S pl) (r.1, 1 :: List.replicate (r.2 - 2).toNat 0) := ⟨wok1z (by omega), okr, by
        rw [lookR_mem nodup hrm, len1z]; omega⟩
      obtain ⟨gsC, hgC, hlC, hSC⟩ := (hS7.keep k722).add (L := r.1) (ws := 1 :: List.replicate (r.2 - 2).toNat 0) (by omega) hta (.tup (k722 _ _ hb (by simp)) (hvs.tk k722.tk)) ⟨_, hl3, rlC⟩ oddC nl3s
      exact ⟨_, _, _, rfl, rfl, hgC, hlC, _, _, _, _, _, _, rfl, hSC, (k7.trans k722).then_own nstH⟩
    rintro σ H8 ⟨o5'', o6', o7', o8', o9', es8, rfl, hS8, k8⟩
    obtain ⟨⟨gs, hgs, hgn⟩, hodd, hel⟩ := hS8
    exact ⟨_, rfl, k st gs es8 H8 nstH hgs hgn.gl hodd (by omega) k8⟩
end

theorem snoc_len (p : List Nat) (k : Nat) : (p ++ [k]).length = p.length + 1 := by simp
/-- the parts of the tree at a path -/
def kids (S : List Stg) (rv : Option Nat) (n : Nat) (p : List Nat) : List TM :=
  if rv = some p.length then ((List.range (stg S p.length).sz).map fun k => treeM S rv n (p ++ [k])).reverse else (List.range (stg S p.length).sz).map fun k => treeM S rv n (p ++ [k])
theorem treeM_succ (S : List Stg) (rv : Option Nat) (n : Nat) (p : List Nat) : treeM S rv (n + 1) p = if (stg S p.length).pl = 0 then .lot (kids S rv n p) else .turn (stg S p.length).pl (asked S p p.length) (kids S rv n p) := rfl
theorem kids_mem {S : List Stg} {rv : Option Nat} {n : Nat} {p : List Nat} {m : TM} (h : m ∈ kids S rv n p) : ∃ k, k < (stg S p.length).sz ∧ m = treeM S rv n (p ++ [k]) := by
  have : m ∈ (List.range (stg S p.length).sz).map fun k => treeM S rv n (p ++ [k]) := by
    unfold kids at h
    split at h
    · exact List.mem_reverse.mp h
    · exact h
  obtain ⟨k, hk, rfl⟩ := List.mem_map.mp this
  exact ⟨k, List.mem_range.mp hk, rfl⟩
theorem kids_len (S : List Stg) (rv : Option Nat) (n : Nat) (p : List Nat) : (kids S rv n p).length = (stg S p.length).sz := by
  unfold kids
  split <;> simp
theorem hgts_of {n : Nat} : ∀ {ps : List TM}, (∀ m ∈ ps, m.hgt ≤ n) → TM.hgts ps ≤ n
  | [], _ => Nat.zero_le _
  | m :: ms, h => Nat.max_le.mpr ⟨h m (List.mem_cons_self ..), hgts_of fun x hx => h x (List.mem_cons_of_mem _ hx)⟩
theorem ndss_of {n : Nat} : ∀ {ps : List TM}, (∀ m ∈ ps, m.nds ≤ n) → TM.ndss ps ≤ ps.length * n
  | [], _ => by show 0 ≤ 0 * n; omega
  | m :: ms, h => by
    have h1 := h m (List.mem_cons_self ..)
    have h2 := ndss_of fun x hx => h x (List.mem_cons_of_mem _ hx)
    show m.nds + TM.ndss ms ≤ (ms.length + 1) * n
    rw [Nat.add_mul, Nat.one_mul]
    omega
theorem tree_hgt (S : List Stg) (rv : Option Nat) : ∀ (n : Nat) (p : List Nat), (treeM S rv n p).hgt ≤ n
  | 0, _ => Nat.le_refl _
  | n + 1, p => by
    have h : TM.hgts (kids S rv n p) ≤ n := hgts_of fun m hm => by
      obtain ⟨k, _, rfl⟩ := kids_mem hm
      exact tree_hgt S rv n _
    rw [treeM_succ]
    split
    · show TM.hgts _ + 1 ≤ _; omega
    · show TM.hgts _ + 1 ≤ _; omega
def prodF (S : List Stg) : Nat → Nat → Nat
  | _, 0 => 1
  | j, n + 1 => (stg S j).sz * prodF S (j + 1) n
theorem prodF_pos {S : List Stg} (hs : ∀ k, 1 ≤ (stg S k).sz) : ∀ n j, 1 ≤ prodF S j n
  | 0, _ => Nat.le_refl _
  | n + 1, j => Nat.mul_pos (hs j) (prodF_pos hs n (j + 1))
theorem prodF_drop (S : List Stg) : ∀ n j, j + n = S.length → prodF S j n = prodS (S.drop j)
  | 0, j, h => by rw [List.drop_eq_nil_of_le (by omega)]; rfl
  | n + 1, j, h => by
    rw [drop_stg (by omega)]
    show (stg S j).sz * prodF S (j + 1) n = (stg S j).sz * prodS (S.drop (j + 1))
    rw [prodF_drop S n (j + 1) (by omega)]
theorem tree_nds {S : List Stg} (hs : ∀ k, 1 ≤ (stg S k).sz) (rv : Option Nat) : ∀ (n : Nat) (p : List Nat), (treeM S rv n p).nds ≤ (n + 1) * prodF S p.length n
  | 0, _ => Nat.le_refl _
  | n + 1, p => by
    have h : TM.ndss (kids S rv n p) ≤ (kids S rv n p).length * ((n + 1) * prodF S (p.length + 1) n) := ndss_of fun m hm => by
      obtain ⟨k, _, rfl⟩ := kids_mem hm
      have := tree_nds hs rv n (p ++ [k])
      rw [snoc_len] at this; exact this
    rw [kids_len] at h
    have h1 := prodF_pos hs (n + 1) p.length
    have e : (stg S p.length).sz * ((n + 1) * prodF S (p.length + 1) n) = (n + 1) * prodF S p.length (n + 1) := by
      show _ = (n + 1) * ((stg S p.length).sz * prodF S (p.length + 1) n)
      rw [← Nat.mul_assoc, Nat.mul_comm (stg S p.length).sz, Nat.mul_assoc]
    rw [e] at h
    have goal : TM.ndss (kids S rv n p) + 1 ≤ (n + 1 + 1) * prodF S p.length (n + 1) := by
      rw [Nat.add_mul (n + 1) 1, Nat.one_mul]; omega
    rw [treeM_succ]
    split <;> exact goal
theorem tree_small {S : List Stg} (hok : SOk S) (rv : Option Nat) : (treeM S rv S.length []).nds ≤ 500 := by
  have h := tree_nds (fun k => (stg_ok hok k).sz0) rv S.length []
  rw [show ([] : List Nat).length = 0 from rfl, prodF_drop S S.length 0 (by omega), List.drop_zero] at h
  have h1 := hok.len
  have h2 := hok.prod
  have : (S.length + 1) * prodS S ≤ 5 * 100 := Nat.mul_le_mul (by omega) h2
  omega
theorem VP_nil (S : List Stg) : VP S [] := ⟨Nat.zero_le _, fun i h => by cases h⟩

theorem eqv_view {r s : List Ev} (hr : ∀ e ∈ r, OkE e) : PyData.eqv (dView r) (dView s) = decide (r = s) := by
  by_cases h : r = s
  · subst h
    rw [decide_eq_true rfl]
    exact SeqAt.eqv_refl _ (SeqAt.canLay_of_shaped (shaped_view hr))
  · rw [decide_eq_false h]
    cases hz : PyData.eqv (dView r) (dView s) with
    | false => rfl
    | true => exact absurd (dView_inj (eqv_pl _ _ (pl_view _) (pl_view _) hz)) h

/-! the law -/
theorem op_neDK {X : Cx} {K : PySem.W.Frag} (hu : X.A.units + 64 < cLine) (hK : X.K = K := by rfl) : OpR X (compareOp .NotEq) (rNeD K) := hK ▸ op_neD hu
def sp_law (K : PySem.W.Frag) : Sp := fun vs H Q _ => ∃ (a : Addr) (ns : List Int), vs = [.ref a] ∧ SqL K H a (ns.map V.int) ∧ ∀ H', Q (.bl true) H'
def mvs (R : List Row) (ds : List Nat) : List Nat := List.zipWith (fun (r : Row) (d : Nat) => d % r.2.toNat) R ds
theorem mvs_len {R : List Row} {ds : List Nat} (h : ds.length = R.length) : (mvs R ds).length = R.length := by unfold mvs; rw [List.length_zipWith]; omega
theorem mvs_get {R : List Row} {ds : List Nat} {i : Nat} {r : Row} {m : Nat} (hr : R[i]? = some r) (hm : (mvs R ds)[i]? = some m) : ∃ d, ds[i]? = some d ∧ m = d % r.2.toNat := by
  unfold mvs at hm
  rw [List.getElem?_zipWith, hr] at hm
  cases hd : ds[i]? with
  | none => rw [hd] at hm; cases hm
  | some d => rw [hd] at hm; exact ⟨d, rfl, (Option.some.inj hm).symm⟩
theorem mvs_succ {R : List Row} {ds : List Nat} {i : Nat} (h1 : i < R.length) (h2 : i < ds.length) : mvs (R.take (i + 1)) (ds.take (i + 1)) = mvs (R.take i) (ds.take i) ++ [ds[i] % R[i].2.toNat] := by
  unfold mvs
  rw [List.take_succ_eq_append_getElem h1, List.take_succ_eq_append_getElem h2, List.zipWith_append (by rw [List.length_take, List.length_take]; omega)]; rfl
theorem even_fst (R : List Row) : (tab (evenW R)).map (·.1) = R.map (·.1) := by unfold tab evenW; rw [List.map_map, List.map_map]; rfl
theorem even_len (R : List Row) : (tab (evenW R)).length = R.length := by unfold tab evenW; rw [List.length_map, List.length_map]
theorem even_lots {R : List Row} (hR : ∀ r ∈ R, 1 ≤ r.2 ∧ r.2 ≤ 100) : ∀ e ∈ tab (evenW R), LotsOk e.2 := fun e he => by
  obtain ⟨e0, he0, rfl⟩ := List.mem_map.mp he
  obtain ⟨r0, hr0, rfl⟩ := List.mem_map.mp he0
  have := hR r0 hr0
  exact wr_lots (wok_ones (by omega) (by omega))
/-- rows that a plan takes, all of which fit -/
def RowsG (C : Addr) (R : List Row) (H : Hp) (x : V) : Prop := ∃ (l : Addr) (gs : List V) (t : List Ent2), x = .ref l ∧ H l = some (.lst gs) ∧ GL C H gs t ∧ (∀ e ∈ t, e ∈ tab (evenW R)) ∧ (t.map (·.1)).Nodup ∧ t.length ≤ 400
theorem RowsG.keep {C : Addr} {R : List Row} {H H' : Hp} {x : V} (h : RowsG C R H x) (k : Keep [] H H') : RowsG C R H' x := by
  obtain ⟨l, gs, t, e, h1, h2, h3⟩ := h
  exact ⟨l, gs, t, e, k _ _ h1 (by simp), h2.keep (KI.of k) fun b ys hb => k _ _ hb (by simp), h3⟩
/-- rows of which one does not fit -/
def RowsB (C : Addr) (R : List Row) (H : Hp) (x : V) : Prop := ∃ (l : Addr) (gs : List V) (t : List Ent2), x = .ref l ∧ H l = some (.lst gs) ∧ GL C H gs t ∧ (∀ e ∈ t, LotsOk e.2) ∧ (∃ e ∈ t, lookR R e.1 ≠ (e.2.length : Int)) ∧ (t.map (·.1)).Nodup ∧ t.length ≤ 400
theorem RowsB.keep {C : Addr} {R : List Row} {H H' : Hp} {x : V} (h : RowsB C R H x) (k : Keep [] H H') : RowsB C R H' x := by
  obtain ⟨l, gs, t, e, h1, h2, h3⟩ := h
  exact ⟨l, gs, t, e, k _ _ h1 (by simp), h2.keep (KI.of k) fun b ys hb => k _ _ hb (by simp), h3⟩
section
variable {P : Program} {w : World} {K : PySem.W.Frag} {mg : Str → Option Value} {base : Heap} {C_Ratio : Addr} {C_Plan : Addr} {C_End : Addr} {C_Lot : Addr} {C_Turn : Addr}
theorem ok_law {f : Addr} {fd : FuncData} (F : C8.Fun K "law" "law" s_law f fd) (T : Txt K mg C_Ratio C_Plan C_End C_Lot C_Turn) (c_law_stages : C8.Cal P w K mg base 2 "_law_stages" (sp_stages K 36) []) (c_law_paths : C8.Cal P w K mg base 1 "_law_paths" sp_paths []) (c_law_node : C8.Cal P w K mg base 7 "_law_node" (sp_node C_End C_Lot C_Turn 5) []) (c_law_cell : C8.Cal P w K mg base 1 "_law_cell" (sp_cell K) []) (c_law_row : C8.Cal P w K mg base 1 "_law_row" sp_row []) (c_law_met : C8.Cal P w K mg base 3 "_law_met" sp_met [])
    (c_law_plans : C8.Cal P w K mg base 6 "_law_plans" sp_plans []) (c_law_is : C8.Cal P w K mg base 1 "_law_is" sp_is []) (c_law_strange : C8.Cal P w K mg base 4 "_law_strange" (sp_strange C_Ratio) []) (c_fits : C8.Cal P w K mg base 8 "fits" (sp_fits P w C_End C_Lot C_Turn C_Plan C_Ratio) [])
    (c_pure : C8.Cal P w K mg base 5 "pure" (sp_pure P w C_Plan C_Ratio) []) (c_even : C8.Cal P w K mg base 5 "even" (sp_even P w C_Plan C_Ratio) []) (c_Plan : C8.Mak P w K mg base 3 "Plan" C_Plan (sp_plan P w C_Plan C_Ratio) []) (c_Plan_entries : C8.Met P w K mg base 1 C_Plan "entries" (sp_pentries P w C_Plan C_Ratio) []) :
    FnOk P w K mg base C8.CX0 9 f fd ["script"] (sp_law K) := by
  refine fn0 F sc_law (fun vs H Q E h => ?_) (fun cdv A outer s H vs Q E hr h => ?_)
  · obtain ⟨a, ns, rfl, _⟩ := h
    rfl
  · obtain ⟨a, ns, rfl, hS, k⟩ := h
    refine ⟨_, (pss_cons (ps_set (i := 1) sc_law.nd rfl (by first | exact Or.inl rfl | exact Or.inr rfl) (pe_c c_law_stages hr (by first | exact Nat.le_refl _ | decide | omega) rfl (pa_cons (pv 0) (pa_cons pe_int pa_nil))))
(pss_cons (ps_set (i := 2) sc_law.nd rfl (by first | exact Or.inl rfl | exact Or.inr rfl) (pe_c c_law_node hr (by first | exact Nat.le_refl _ | decide | omega) rfl (pa_cons (pv 1) (pa_cons (pe_lc (own := [("path", 11)]) (g := gName 11) (tt := tYes) rfl sc_law.nd (pi_list (pe_c c_law_paths hr (by first | exact Nat.le_refl _ | decide | omega) rfl (pa_cons (pv 1) pa_nil))) (blkOk_by (N := ["script", "stages", "tree", "player", "views", "digits", "moves", "rows", "place", "entry", "rest", "path", "k", "pair"]) (sc := fnScope s_law) (by decide +kernel)) (fun _ _ _ _ _ => pg_name (i := 11) sc_law.nd rfl (by first | exact Or.inl rfl | exact Or.inr rfl)) (fun _ _ _ _ _ => pts_nil) (fun _ _ _ _ _ => pe_int)) (pa_cons (pe_lst pa_nil) pa_nil)))))
(pss_cons (ps_set (i := 3) sc_law.nd rfl (by first | exact Or.inl rfl | exact Or.inr rfl) (pe_op op_add pe_int (pe_op op_mod (pe_callTy call_int1 (by rfl) T.n_int bo_int (pa_cons (pe_c c_law_cell hr (by first | exact Nat.le_refl _ | decide | omega) rfl (pa_cons (pv 0) (pa_cons pe_int pa_nil))) pa_nil)) pe_int)))
(pss_cons (ps_set (i := 4) sc_law.nd rfl (by first | exact Or.inl rfl | exact Or.inr rfl) (pe_c c_law_met hr (by first | exact Nat.le_refl _ | decide | omega) rfl (pa_cons (pv 1) (pa_cons (pv 3) pa_nil))))
(pss_cons (ps_set (i := 5) sc_law.nd rfl (by first | exact Or.inl rfl | exact Or.inr rfl) (pe_c c_law_row hr (by first | exact Nat.le_refl _ | decide | omega) rfl (pa_cons (pe_c c_law_cell hr (by first | exact Nat.le_refl _ | decide | omega) rfl (pa_cons (pv 0) (pa_cons pe_int pa_nil))) (pa_cons (pe_callB call_len_seq (by rfl) T.n_len bo_len (pa_cons (pv 4) pa_nil)) (pa_cons pe_int pa_nil)))))
(pss_cons (ps_setLc (i := 6) (own := [("k", 12)]) (g := gName 12) (tt := tYes) rfl sc_law.nd rfl rfl (sw_true rfl rfl rfl (by decide +kernel)) (pi_range1 (by rfl) T.n_range (pa_cons (pe_callB call_len_seq (by rfl) T.n_len bo_len (pa_cons (pv 4) pa_nil)) pa_nil)) (blkOk_by (N := ["script", "stages", "tree", "player", "views", "digits", "moves", "rows", "place", "entry", "rest", "path", "k", "pair"]) (sc := fnScope s_law) (by decide +kernel)) (fun _ _ _ _ _ => pg_name (i := 12) sc_law.nd rfl (by first | exact Or.inl rfl | exact Or.inr rfl)) (fun _ _ _ _ _ => pts_nil) (fun _ _ _ _ _ => (pe_op op_mod (pe_callTy call_int1 (by rfl) T.n_int bo_int (pa_cons (pe_ix (ix_listK (K := K)) (pv 5) (pv 12) (fun _ _ => rfl)) pa_nil)) (pe_ix (ix_tupK (K := K)) (pe_ix (ix_listK (K := K)) (pv 4) (pv 12) (fun _ _ => rfl)) pe_int (fun _ _ => rfl)))))
(pss_cons (ps_if (pt_not (pt_val (pe_c c_law_plans hr (by first | exact Nat.le_refl _ | decide | omega) rfl (pa_cons (pv 4) (pa_cons (pv 6) pa_nil)))))
  (pss_one (ps_ret pe_bl))
  pss_nil)
(pss_cons (ps_if (PW.pt (pw_or (pt_not (pt_val (pe_c c_law_is hr (by first | exact Nat.le_refl _ | decide | omega) rfl (pa_cons (pe_c c_fits hr (by first | exact Nat.le_refl _ | decide | omega) rfl (pa_cons (pe_c c_pure hr (by first | exact Nat.le_refl _ | decide | omega) rfl (pa_cons (pv 4) (pa_cons (pv 6) pa_nil))) (pa_cons (pv 2) (pa_cons (pv 3) pa_nil)))) (pa_cons pe_bl pa_nil))))) (pw_or1 (pt_not (pt_val (pe_c c_law_is hr (by first | exact Nat.le_refl _ | decide | omega) rfl (pa_cons (pe_c c_fits hr (by first | exact Nat.le_refl _ | decide | omega) rfl (pa_cons (pe_c c_even hr (by first | exact Nat.le_refl _ | decide | omega) rfl (pa_cons (pv 4) pa_nil)) (pa_cons (pv 2) (pa_cons (pv 3) pa_nil)))) (pa_cons pe_bl pa_nil))))))))
  (pss_one (ps_ret pe_bl))
  pss_nil)
(pss_cons (ps_for PassesOwn.never rfl (pi_tup (pe_tup (pa_cons (pe_lst pa_nil) (pa_cons (pe_revL (pe_mt0 c_Plan_entries hr (by first | exact Nat.le_refl _ | decide | omega) (pe_c c_even hr (by first | exact Nat.le_refl _ | decide | omega) rfl (pa_cons (pv 4) pa_nil)))) (pa_cons (pe_slice sl_list (pe_mt0 c_Plan_entries hr (by first | exact Nat.le_refl _ | decide | omega) (pe_c c_even hr (by first | exact Nat.le_refl _ | decide | omega) rfl (pa_cons (pv 4) pa_nil))) (po_some pe_int) po_none) (pa_cons (pe_slice sl_list (pe_mt0 c_Plan_entries hr (by first | exact Nat.le_refl _ | decide | omega) (pe_c c_even hr (by first | exact Nat.le_refl _ | decide | omega) rfl (pa_cons (pv 4) pa_nil))) po_none (po_some pe_int)) pa_nil)))))) (pg_name (i := 7) sc_law.nd rfl (by first | exact Or.inl rfl | exact Or.inr rfl))
  (pss_one (ps_if (pt_not (pt_val (pe_c c_law_is hr (by first | exact Nat.le_refl _ | decide | omega) rfl (pa_cons (pe_c c_fits hr (by first | exact Nat.le_refl _ | decide | omega) rfl (pa_cons (pe_mk c_Plan hr (by first | exact Nat.le_refl _ | decide | omega) rfl (pa_cons (pv 7) pa_nil)) (pa_cons (pv 2) (pa_cons (pv 3) pa_nil)))) (pa_cons pe_bl pa_nil)))))
    (pss_one (ps_ret pe_bl))
    pss_nil)))
(pss_cons (ps_set (i := 8) sc_law.nd rfl (by first | exact Or.inl rfl | exact Or.inr rfl) (pe_op op_mod (pe_callTy call_int1 (by rfl) T.n_int bo_int (pa_cons (pe_c c_law_cell hr (by first | exact Nat.le_refl _ | decide | omega) rfl (pa_cons (pv 0) (pa_cons pe_int pa_nil))) pa_nil)) (pe_op op_add (pe_callB call_len_seq (by rfl) T.n_len bo_len (pa_cons (pv 4) pa_nil)) pe_int)))
(pss_cons (ps_for PassesOwn.never rfl (pi_list (pe_c c_law_strange hr (by first | exact Nat.le_refl _ | decide | omega) rfl (pa_cons (pv 1) (pa_cons (pv 4) (pa_cons (pv 3) (pa_cons (pe_callTy call_int1 (by rfl) T.n_int bo_int (pa_cons (pe_c c_law_cell hr (by first | exact Nat.le_refl _ | decide | omega) rfl (pa_cons (pv 0) (pa_cons pe_int pa_nil))) pa_nil)) pa_nil)))))) (pg_name (i := 9) sc_law.nd rfl (by first | exact Or.inl rfl | exact Or.inr rfl))
  (pss_cons (ps_set (i := 10) sc_law.nd rfl (by first | exact Or.inl rfl | exact Or.inr rfl) (pe_mt0 c_Plan_entries hr (by first | exact Nat.le_refl _ | decide | omega) (pe_c c_even hr (by first | exact Nat.le_refl _ | decide | omega) rfl (pa_cons (pe_lc (own := [("pair", 13)]) (g := gName 13)  rfl sc_law.nd (pi_list (pv 4)) (blkOk_by (N := ["script", "stages", "tree", "player", "views", "digits", "moves", "rows", "place", "entry", "rest", "path", "k", "pair"]) (sc := fnScope s_law) (by decide +kernel)) (fun _ _ _ _ _ => pg_name (i := 13) sc_law.nd rfl (by first | exact Or.inl rfl | exact Or.inr rfl)) (fun _ _ _ _ _ => pts_one (pt_cmpR (op_neDK (K := K) hr.units) (pe_ix (ix_tupK (K := K)) (pv 13) pe_int (fun _ _ => rfl)) (pe_ix (ix_tupK (K := K)) (pv 9) pe_int (fun _ _ => rfl)) (nomark _))) (fun _ _ _ _ _ => (pv 13))) pa_nil))))
  (pss_one (ps_for PassesOwn.never rfl (pi_tup (pe_tup (pa_cons (pe_lst (pa_cons (pv 9) pa_nil)) (pa_cons (pe_op op_cat (pe_op op_cat (pe_slice sl_list (pv 10) po_none (po_some (pv 8))) (pe_lst (pa_cons (pv 9) pa_nil))) (pe_slice sl_list (pv 10) (po_some (pv 8)) po_none)) pa_nil)))) (pg_name (i := 7) sc_law.nd rfl (by first | exact Or.inl rfl | exact Or.inr rfl))
    (pss_one (ps_if (pt_not (pt_val (pe_c c_law_is hr (by first | exact Nat.le_refl _ | decide | omega) rfl (pa_cons (pe_c c_fits hr (by first | exact Nat.le_refl _ | decide | omega) rfl (pa_cons (pe_mk c_Plan hr (by first | exact Nat.le_refl _ | decide | omega) rfl (pa_cons (pv 7) pa_nil)) (pa_cons (pv 2) (pa_cons (pv 3) pa_nil)))) (pa_cons pe_bl pa_nil)))))
      (pss_one (ps_ret pe_bl))
      pss_nil))))))
(pss_one (ps_ret pe_bl))))))))))))), ?_⟩
    refine ⟨_, rfl, a, ns, 36, rfl, rfl, hS, fun l S H1 nl hSt hok hpr K1 => ?_⟩
    have hs : ∀ k, 1 ≤ (stg S k).sz := fun k => (stg_ok hok k).sz0
    have h4 := hok.len
    refine ⟨_, rfl, _, rfl, l, S, rfl, hSt, hok, fun pa ps H2 npa hpa hps fr K2 => ⟨pa, rfl, ⟨_, SqL.of hpa⟩, fun D nD => ?_⟩⟩
    have hpl := hps.len
    rw [paths_len] at hpl
    have hpl' : ps.length = prodS S := by rw [hpl]; show prodS S * 1 = _; omega
    refine lc_list (K := K) (a := pa) (xs := ps) (fun i H' => H' D = some (.lst (List.replicate i (.int 0))) ∧ Keep [] H2 H') ⟨upd_same, Keep.new nD⟩ (fun i H' _ ⟨_, kk⟩ => SqL.of (kk _ _ hpa (by simp))) ?_ ?_
    · rintro i x H' hx ⟨hD, kk⟩
      have hi := (List.getElem?_eq_some_iff.mp hx).1
      refine ⟨rfl, yes_then ⟨_, hD, smallL (by rw [List.length_replicate]; omega), ?_, kk.then_own nD⟩⟩
      rw [← List.replicate_succ']; exact upd_same
    rintro H3 ⟨hD, K3⟩
    have k13 := K2.trans K3
    refine And.intro (by show 0 ≤ sizeLine; decide) <| fun e0 ne0 => ?_
    have ke0 := Keep.new (W := []) (o := .lst []) ne0
    refine ⟨l, D, e0, S, [], _, rfl, hSt.keep (k13.trans ke0), hok, upd_same, VP_nil S, by show S.length < 0 + 5; omega, ke0 _ _ hD (by simp), by rw [List.length_replicate]; exact hpl', fun tv H4 htv K4 => ?_⟩
    have k14 := (k13.trans ke0).trans K4
    have htv' : TA C_End C_Lot C_Turn H4 (treeM S none S.length []) tv := htv
    have hgt := tree_hgt S none S.length []
    have hnd := tree_small hok none
    clear htv
    have hS4 := (K1.trans k14).seqL hS (by simp)
    have hSt4 := hSt.keep k14
    obtain ⟨pl, hpl⟩ : ∃ pl : Nat, 1 + ns.getD 1 0 % 2 = ((pl : Nat) : Int) := ⟨(1 + ns.getD 1 0 % 2).toNat, by have := Int.emod_nonneg (ns.getD 1 0) (show (2 : Int) ≠ 0 by decide); omega⟩
    have hp12 : pl = 1 ∨ pl = 2 := by
      have h1 := Int.emod_nonneg (ns.getD 1 0) (show (2 : Int) ≠ 0 by decide)
      have h2 := Int.emod_lt_of_pos (ns.getD 1 0) (show (0 : Int) < 2 by decide)
      omega
    have hp0 : pl ≠ 0 := by omega
    refine ⟨_, rfl, a, ns, 1, rfl, hS4, .inl ⟨_, rfl, _, _, rfl, rfl, by show (0 : Int) < 2; decide, _, _, rfl, rfl, ?_⟩⟩
    have hcoll := tree_met hs (pl := pl) hp0
    refine ⟨_, rfl, _, rfl, l, S, pl, by show [V.ref l, V.int (1 + ns.getD 1 0 % 2)] = _; rw [hpl], hSt4, hok, fun vl vxs H5 nvl hvl hvt K5 => ?_⟩
    have hRs := met_sz S pl
    have hRl := met_len S pl
    have hnd0 := met_nodup S pl
    have hRok := met_ok S pl
    have hR : ∀ r ∈ met S pl, 1 ≤ r.2 ∧ r.2 ≤ 100 := fun r hr => by
      obtain ⟨j, hj⟩ := hRs r hr
      have h1 := (stg_ok hok j).sz0
      have h2 := (stg_ok hok j).sz1
      omega
    have hRl2 : (met S pl).length ≤ 200 := by
      have : prodS S * S.length ≤ 36 * 4 := Nat.mul_le_mul hpr h4
      omega
    have hvxl := hvt.length
    rw [List.length_map] at hvxl
    refine ⟨_, rfl, a, ns, 2, rfl, K5.seqL hS4 (by simp), _, rfl, vl, vxs, rfl, .inl (SqL.of hvl), _, vxs.length, 60, rfl, by decide, by decide, by omega, fun dl ds H6 ndl hdl hdll hds K6 => ?_⟩
    have hvl6 := K6 _ _ hvl (by simp)
    have hvt6 := hvt.tk K6.tk
    refine ⟨_, rfl, vl, vxs, rfl, .inl (SqL.of hvl6), _, rfl, by omega, by omega, fun MD nMD => ?_⟩
    refine lc_range (lo := 0) (n := vxs.length) (fun i H' => H' MD = some (.lst ((mvs ((met S pl).take i) (ds.take i)).map nat)) ∧ Keep [] H6 H') ⟨upd_same, Keep.new nMD⟩ ?_ ?_
    · rintro i H' hi ⟨hM, kk⟩
      have e0 : (0 : Int) + (i : Int) = (i : Int) := by omega
      rw [e0]
      have hiR : i < (met S pl).length := by omega
      have hid : i < ds.length := by omega
      obtain ⟨x', hx', hxd⟩ := (hvt6.tk kk.tk).get (i := i) (d := dRow (met S pl)[i]) (by rw [List.getElem?_map, List.getElem?_eq_getElem hiR]; rfl)
      obtain ⟨hs0, hs1⟩ := hR (met S pl)[i] (List.getElem_mem hiR)
      obtain ⟨tt, tes, rfl, htt, htes⟩ := td_view hxd
      cases htes with
      | @cons v0 _ _ _ h0 hr1 =>
        cases hr1 with
        | cons h1 hr2 =>
          cases hr2
          cases h1
          refine ⟨rfl, yes_then ⟨_, rfl, _, rfl, _, _, _, _, rfl, rfl, SqL.of (kk _ _ hdl (by simp)), atI_nat (by rw [List.getElem?_map, List.getElem?_eq_getElem hid]; rfl), .inl ⟨_, rfl, _, rfl, _, rfl, _, _, _, _, rfl, rfl, SqL.of (kk _ _ hvl6 (by simp)), atI_nat hx', _, _, _, _, rfl, rfl, SqT.of htt, rfl, _, _, rfl, rfl, by show (0 : Int) < ((met S pl)[i]).2; omega, _, hM, smallL (by rw [List.length_map]; unfold mvs; rw [List.length_zipWith, List.length_take]; omega), ?_, kk.then_own nMD⟩⟩⟩
          rw [mvs_succ hiR hid, List.map_append, upd_same]
          congr 3
          show [V.int (((ds[i] : Nat) : Int) % ((met S pl)[i]).2)] = [nat (ds[i] % ((met S pl)[i]).2.toNat)]
          obtain ⟨c, hc⟩ : ∃ c : Nat, ((met S pl)[i]).2 = (c : Int) := ⟨((met S pl)[i]).2.toNat, by omega⟩
          rw [hc, Int.toNat_natCast, ← Int.natCast_emod]; rfl
    rintro H7 ⟨hM, K7⟩
    rw [show (met S pl).take vxs.length = met S pl by rw [hvxl, List.take_length], show ds.take vxs.length = ds by rw [← hdll, List.take_length]] at hM
    have hmlen := mvs_len (R := met S pl) (ds := ds) (by omega)
    have hmlt : ∀ (i : Nat) r m, (met S pl)[i]? = some r → (mvs (met S pl) ds)[i]? = some m → ((m : Nat) : Int) < r.2 := fun i r m h1 h2 => by
      obtain ⟨d, _, rfl⟩ := mvs_get h1 h2
      have := hR r (List.mem_of_getElem? h1)
      have := Nat.mod_lt d (show 0 < r.2.toNat by omega)
      omega
    generalize mvs (met S pl) ds = ms at *
    have hvl7 := K7 _ _ hvl6 (by simp)
    have hvt7 := hvt6.tk K7.tk
    refine ⟨_, rfl, _, rfl, vl, MD, vxs, met S pl, ms, rfl, hvl7, hvt7, hM, hmlen, hR, hmlt, hnd0, by omega, hRok, fun H8 K8 => ⟨_, rfl, iteF ?_⟩⟩
    have hvl8 := K8 _ _ hvl7 (by simp)
    have hvt8 := hvt7.tk K8.tk
    have k48 := ((K5.trans K6).trans K7).trans K8
    have htv8 := htv'.ki (KI.of k48)
    have hevg := even_good hnd0 fun r hr => (hR r hr).1
    refine ⟨_, rfl, _, rfl, vl, MD, vxs, met S pl, ms, rfl, hvl8, hvt8, K8 _ _ hM (by simp), hmlen, hR, hmlt, hnd0, by omega, fun p1 H9 hP9 K9 => ?_⟩
    refine ⟨_, rfl, _, rfl, p1, tv, pl, _, _, by rw [← hpl]; rfl, hP9, by unfold tab pureW; rw [List.length_map, List.length_map, List.length_zip]; omega, htv8.ki (KI.of K9), by omega, by omega, by rw [hcoll]; exact hnd0, fun H10 K10 => ?_⟩
    rw [hcoll, fitsB_true (pure_good hnd0 fun r hr => (hR r hr).1)]
    refine ⟨_, _, rfl, _, rfl, iteF ?_⟩
    have k810 := K9.trans K10
    refine ⟨_, rfl, vl, vxs, met S pl, rfl, k810 _ _ hvl8 (by simp), hvt8.tk k810.tk, hR, hnd0, by omega, fun p2 H11 hP11 K11 => ?_⟩
    refine ⟨_, rfl, _, rfl, p2, tv, pl, _, _, by rw [← hpl]; rfl, hP11, by rw [even_len]; omega, htv8.ki (KI.of (k810.trans K11)), by omega, by omega, by rw [hcoll]; exact hnd0, fun H12 K12 => ?_⟩
    rw [hcoll, fitsB_true hevg]
    refine ⟨_, _, rfl, _, rfl, iteF ?_⟩
    have k812 := (k810.trans K11).trans K12
    have hvl12 := k812 _ _ hvl8 (by simp)
    have hvt12 := hvt8.tk k812.tk
    have htv12 := htv8.ki (KI.of k812)
    have k12 := (k14.trans k48).trans k812
    have subE : ∀ {t : List Ent2}, t.Sublist (tab (evenW (met S pl))) → (t.map (·.1)).Nodup ∧ t.length ≤ 400 := fun h => ⟨(h.map _).nodup (by rw [even_fst]; exact hnd0), by have := h.length_le; rw [even_len] at this; omega⟩
    -- entries as they are, in part, the other way round
    refine And.intro (by show 0 ≤ sizeLine; decide) <| fun r1 nr1 => ?_
    have kr1 := Keep.new (W := []) (o := .lst []) nr1
    have G1 : RowsG C_Ratio (met S pl) (upd H12 r1 (.lst [])) (.ref r1) := ⟨r1, [], [], rfl, upd_same, .nil, (fun e h => by cases h), by simp, by simp⟩
    generalize upd H12 r1 (.lst []) = H13 at *
    refine ⟨_, rfl, vl, vxs, met S pl, rfl, kr1 _ _ hvl12 (by simp), hvt12.tk kr1.tk, hR, hnd0, by omega, fun pa2 A2 hA2 KA2 => ?_⟩
    obtain ⟨dq2, d02, xs02, hq2, _, _⟩ := id hA2
    refine ⟨_, _, _, rfl, hq2, rfl, _, _, rfl, hA2, by rw [even_len]; omega, fun le2 ge2 B2 nle2 hle2 hge2 KB2 => ?_⟩
    refine ⟨_, _, rfl, SqL.of hle2, fun r2 nr2 => ?_⟩
    have kr2 := Keep.new (W := []) (o := .lst ge2.reverse) nr2
    have G2 : RowsG C_Ratio (met S pl) (upd B2 r2 (.lst ge2.reverse)) (.ref r2) := ⟨r2, _, _, rfl, upd_same, (hge2.keep (KI.of kr2) fun b ys hb => kr2 _ _ hb (by simp)).rev, (fun e h => List.mem_reverse.mp h), by rw [List.map_reverse, even_fst]; exact (List.reverse_perm _).nodup_iff.mpr hnd0, by rw [List.length_reverse, even_len]; omega⟩
    have kk2 := (KA2.trans KB2).trans kr2
    generalize upd B2 r2 (.lst ge2.reverse) = H14 at *
    refine ⟨_, rfl, vl, vxs, met S pl, rfl, (kr1.trans kk2) _ _ hvl12 (by simp), hvt12.tk (kr1.trans kk2).tk, hR, hnd0, by omega, fun pa3 A3 hA3 KA3 => ?_⟩
    obtain ⟨dq3, d03, xs03, hq3, _, _⟩ := id hA3
    refine ⟨_, _, _, rfl, hq3, rfl, _, _, rfl, hA3, by rw [even_len]; omega, fun le3 ge3 B3 nle3 hle3 hge3 KB3 => ?_⟩
    refine ⟨_, rfl, _, _, rfl, SqL.of hle3, fun r3 nr3 => ?_⟩
    rw [show cutV ge3 (some 1) none = ge3.drop 1 from cutDrop ge3 1]
    have kr3 := Keep.new (W := []) (o := .lst (ge3.drop 1)) nr3
    have G3 : RowsG C_Ratio (met S pl) (upd B3 r3 (.lst (ge3.drop 1))) (.ref r3) := ⟨r3, _, _, rfl, upd_same, (hge3.keep (KI.of kr3) fun b ys hb => kr3 _ _ hb (by simp)).drop 1, (fun e h => List.mem_of_mem_drop h), (subE (List.drop_sublist 1 _)).1, (subE (List.drop_sublist 1 _)).2⟩
    have kk3 := (KA3.trans KB3).trans kr3
    generalize upd B3 r3 (.lst (ge3.drop 1)) = H15 at *
    refine ⟨_, rfl, vl, vxs, met S pl, rfl, ((kr1.trans kk2).trans kk3) _ _ hvl12 (by simp), hvt12.tk ((kr1.trans kk2).trans kk3).tk, hR, hnd0, by omega, fun pa4 A4 hA4 KA4 => ?_⟩
    obtain ⟨dq4, d04, xs04, hq4, _, _⟩ := id hA4
    refine ⟨_, _, _, rfl, hq4, rfl, _, _, rfl, hA4, by rw [even_len]; omega, fun le4 ge4 B4 nle4 hle4 hge4 KB4 => ?_⟩
    refine ⟨_, rfl, _, _, rfl, SqL.of hle4, fun r4 nr4 => And.intro (by show 4 ≤ sizeLine; decide) <| fun tp ntp => ?_⟩
    rw [show cutV ge4 none (some 1) = ge4.take 1 from cutTake ge4 1]
    have kr4 := Keep.new (W := []) (o := .lst (ge4.take 1)) nr4
    have G4 : RowsG C_Ratio (met S pl) (upd B4 r4 (.lst (ge4.take 1))) (.ref r4) := ⟨r4, _, _, rfl, upd_same, (hge4.keep (KI.of kr4) fun b ys hb => kr4 _ _ hb (by simp)).take 1, (fun e h => List.mem_of_mem_take h), (subE (List.take_sublist 1 _)).1, (subE (List.take_sublist 1 _)).2⟩
    have kk4 := (KA4.trans KB4).trans kr4
    rw [show cutV ge4 none (some 1) = ge4.take 1 from cutTake ge4 1] at ntp
    generalize upd B4 r4 (.lst (ge4.take 1)) = H16 at *
    have ktp := Keep.new (W := []) (o := .tup [.ref r1, .ref r2, .ref r3, .ref r4]) ntp
    have htp : upd H16 tp (.tup [.ref r1, .ref r2, .ref r3, .ref r4]) tp = some (.tup [.ref r1, .ref r2, .ref r3, .ref r4]) := upd_same
    have G1' := G1.keep (((kk2.trans kk3).trans kk4).trans ktp)
    have G2' := G2.keep ((kk3.trans kk4).trans ktp)
    have G3' := G3.keep (kk4.trans ktp)
    have G4' := G4.keep ktp
    have k1217 := (((kr1.trans kk2).trans kk3).trans kk4).trans ktp
    generalize upd H16 tp (.tup [.ref r1, .ref r2, .ref r3, .ref r4]) = H17 at *
    have hrows : ∀ x ∈ ([.ref r1, .ref r2, .ref r3, .ref r4] : List V), RowsG C_Ratio (met S pl) H17 x := fun x hx => by
      rcases List.mem_cons.mp hx with rfl | hx
      · exact G1'
      rcases List.mem_cons.mp hx with rfl | hx
      · exact G2'
      rcases List.mem_cons.mp hx with rfl | hx
      · exact G3'
      rw [List.mem_singleton.mp hx]; exact G4'
    have htv17 := htv12.ki (KI.of k1217)
    have k17 := k12.trans k1217
    have hvl17 := k1217 _ _ hvl12 (by simp)
    have hvt17 := hvt12.tk k1217.tk
    clear G1 G2 G3 G4 G1' G2' G3' G4' kk2 kk3 kk4 ktp kr1 kr2 kr3 kr4 hge2 hge3 hge4 hle2 hle3 hle4 hq2 hq3 hq4 hA2 hA3 hA4 KA2 KA3 KA4 KB2 KB3 KB4 nr1 nr2 nr3 nr4 ntp k1217 hvl12 hvt12 htv12 k812 k810 k12
    refine ⟨tp, rfl, ⟨_, SqT.of htp⟩, for_tup (K := K) (a := tp) (xs := [.ref r1, .ref r2, .ref r3, .ref r4]) (fun i σ H' => ∃ o7, σ = [some (.ref a), some (.ref l), some tv, some (.int (pl : Nat)), some (.ref vl), some (.ref dl), some (.ref MD), o7, none, none, none, none, none, none] ∧ Keep [] H17 H') ⟨none, by rw [← hpl]; rfl, Keep.refl _ _⟩ (fun i σ H' _ ⟨_, _, kk⟩ => SqT.of (kk _ _ htp (by simp))) ?_ ?_⟩
    · rintro i x σ H18 hx ⟨o7, rfl, k18⟩
      obtain ⟨lx, gs, t, rfl, hlx, hgx, hte, htn, htl⟩ := (hrows x (List.mem_of_getElem? hx)).keep k18
      refine ⟨_, rfl, fun x dx nx ndx ne => ?_⟩
      have km := Keep.made (o := .ins C_Plan dx []) nx ndx
      refine ⟨x, dx, lx, gs, t, rfl, upd_same, km _ _ hlx (by simp), hgx.keep (KI.of km) fun b ys hb => km _ _ hb (by simp), fun e he => even_lots hR e (hte e he), htn, by omega, fun H19 hP19 K19 => ⟨rfl, ?_⟩⟩
      have k1819 := keep_made nx ndx K19
      have k1719 := k18.trans k1819
      refine ⟨_, rfl, _, rfl, x, tv, pl, t, _, rfl, hP19, by omega, htv17.ki (KI.of k1719), by omega, by omega, by rw [hcoll]; exact hnd0, fun H20 K20 => ?_⟩
      rw [hcoll, fitsB_true fun e he => hevg e (hte e he)]
      exact ⟨_, _, rfl, _, rfl, iteF ⟨_, rfl, k1719.trans K20⟩⟩
    rintro σ H18 ⟨o7, rfl, k1718⟩
    clear hrows htp
    have k18 := k17.trans k1718
    have hvl18 := k1718 _ _ hvl17 (by simp)
    have hvt18 := hvt17.tk k1718.tk
    have htv18 := htv17.ki (KI.of k1718)
    have hS18 := (K1.trans k18).seqL hS (by simp)
    -- an entry that does not fit among them
    obtain ⟨pc, hpc⟩ : ∃ pc : Nat, ns.getD 3 0 % (((vxs.length : Nat) : Int) + 1) = ((pc : Nat) : Int) := ⟨(ns.getD 3 0 % (((vxs.length : Nat) : Int) + 1)).toNat, by have := Int.emod_nonneg (ns.getD 3 0) (show ((vxs.length : Nat) : Int) + 1 ≠ 0 by omega); omega⟩
    refine ⟨_, rfl, a, ns, 3, rfl, hS18, .inl ⟨_, rfl, _, rfl, vl, vxs, rfl, .inl (SqL.of hvl18), _, _, rfl, rfl, _, _, rfl, rfl, by show (0 : Int) < ((vxs.length : Nat) : Int) + 1; omega, ?_⟩⟩
    refine ⟨_, rfl, _, rfl, _, rfl, _, rfl, a, ns, 4, rfl, hS18, .inl ⟨_, rfl, l, vl, vxs, S, pl, _, rfl, hSt.keep k18, hok, hp12, hvl18, hvt18, fun sl sgs ses H19 nsl hsl hsg hodd hsel K19 => ⟨sl, rfl, ⟨_, SqL.of hsl⟩, ?_⟩⟩⟩
    have htv19 := htv18.ki (KI.of K19)
    have hvl19 := K19 _ _ hvl18 (by simp)
    have hvt19 := hvt18.tk K19.tk
    have hsgl := hsg.len
    refine for_list (K := K) (a := sl) (xs := sgs) (fun i σ H' => ∃ o7 o9 o10, σ = [some (.ref a), some (.ref l), some tv, some (.int (pl : Nat)), some (.ref vl), some (.ref dl), some (.ref MD), o7, some (.int (pc : Nat)), o9, o10, none, none, none] ∧ Keep [] H19 H') ⟨o7, none, none, by rw [← hpc]; rfl, Keep.refl _ _⟩ (fun i σ H' _ ⟨_, _, _, _, kk⟩ => SqL.of (kk _ _ hsl (by simp))) ?_ ?_
    · rintro i x σ H20 hx ⟨o7, o9, o10, rfl, k20⟩
      obtain ⟨q, la, vw, L, rs, rfl, hti, hq, hvw, hla⟩ := hsg.get hx
      obtain ⟨e0, he0, hee⟩ := List.mem_map.mp (List.mem_of_getElem? hti)
      obtain ⟨hwok, hokL, hbad⟩ := hodd e0 he0
      obtain ⟨rfl, rfl⟩ := Prod.mk.inj hee
      have hvl20 := k20 _ _ hvl19 (by simp)
      have hvt20 := hvt19.tk k20.tk
      have hq20 := k20 _ _ hq (by simp)
      have hvw20 := hvw.tk k20.tk
      refine ⟨_, rfl, vl, rfl, ⟨_, SqL.of hvl20⟩, fun W nW => ?_⟩
      refine lc_list (K := K) (a := vl) (xs := vxs) (fun i H' => ∃ ws, H' W = some (.lst ws) ∧ TDs H' ws ((((met S pl).take i).filter fun (r : Row) => !decide (r.1 = e0.1)).map dRow) ∧ Keep [] H20 H') ⟨[], upd_same, .nil, Keep.new nW⟩ (fun i H' _ ⟨_, _, _, kk⟩ => SqL.of (kk _ _ hvl20 (by simp))) ?_ ?_
      · rintro i y H7 hy ⟨ws, hW, hws, k7⟩
        have hi := (List.getElem?_eq_some_iff.mp hy).1
        have hiR : i < (met S pl).length := by omega
        obtain ⟨y', hy', hyd⟩ := (hvt20.tk k7.tk).get (i := i) (d := dRow (met S pl)[i]) (by rw [List.getElem?_map, List.getElem?_eq_getElem hiR]; rfl)
        rw [hy] at hy'
        cases hy'
        have hyd0 := hyd
        obtain ⟨tt, tes, rfl, htt, htes⟩ := td_view hyd
        cases htes with
        | @cons v0 _ _ _ h0 hr1 =>
          cases hr1 with
          | cons h1 hr2 =>
            cases hr2
            cases h1
            have hwl := hws.length
            have hfl : ((((met S pl).take i).filter fun (r : Row) => !decide (r.1 = e0.1)).map dRow).length ≤ 1000 := by
              rw [List.length_map]
              exact Nat.le_trans (List.length_filter_le _ _) (by rw [List.length_take]; omega)
            have okR := hRok _ (List.getElem_mem hiR)
            refine ⟨rfl, _, rfl, _, _, _, _, rfl, rfl, SqT.of htt, rfl, _, rfl, _, _, _, _, rfl, rfl, SqT.of (k7 _ _ hq20 (by simp)), rfl, dView _, dView _, h0.dp, (hvw20.tk k7.tk).dp, shaped_view okR, shaped_view hokL, _, rfl, ?_⟩
            rw [eqv_view okR]
            refine iteN (fun e => ?_) (fun e => ?_)
            · refine ⟨_, rfl, ws, hW, smallL (by omega), ws ++ [.ref tt], upd_same, ?_, k7.then_own nW⟩
              rw [List.take_succ_eq_append_getElem hiR, List.filter_append, List.map_append, List.filter_cons, if_pos (by simpa using e)]
              exact (hws.tk (TK.lst hW)).snoc (hyd0.tk (TK.lst hW))
            · refine ⟨ws, hW, ?_, k7⟩
              rw [List.take_succ_eq_append_getElem hiR, List.filter_append, List.filter_cons, if_neg (by simpa using e)]
              simpa using hws
      rintro H21 ⟨ws, hW, hws, k21⟩
      rw [show vxs.length = (met S pl).length from hvxl, List.take_length] at hws
      have hsub : ((met S pl).filter fun (r : Row) => !decide (r.1 = e0.1)).Sublist (met S pl) := List.filter_sublist
      have hnotin : e0.1 ∉ (((met S pl).filter fun (r : Row) => !decide (r.1 = e0.1)).map (·.1)) := fun z => by
        obtain ⟨r, hr, e⟩ := List.mem_map.mp z
        have := (List.mem_filter.mp hr).2
        rw [decide_eq_true e] at this; cases this
      have hR' : ∀ r ∈ (met S pl).filter fun (r : Row) => !decide (r.1 = e0.1), 1 ≤ r.2 ∧ r.2 ≤ 100 := fun r hr => hR r (hsub.subset hr)
      have hnd' : (((met S pl).filter fun (r : Row) => !decide (r.1 = e0.1)).map (·.1)).Nodup := (hsub.map _).nodup hnd0
      have hl' := hsub.length_le
      generalize (met S pl).filter (fun (r : Row) => !decide (r.1 = e0.1)) = R' at *
      refine ⟨W, ws, R', rfl, hW, hws, hR', hnd', by omega, fun pa A hA KA => ?_⟩
      obtain ⟨dq, d0, xs0, hqp, _, _⟩ := id hA
      refine ⟨_, _, _, rfl, hqp, rfl, _, _, rfl, hA, by rw [even_len]; omega, fun rl rgs H22 nrl hrl hrg KB => ?_⟩
      have k2022 := (k21.trans KA).trans KB
      have hq22 := k2022 _ _ hq20 (by simp)
      have hrgl := hrg.len
      rw [even_len] at hrgl
      have bigl : rgs.length ≤ 200 := by omega
      have lots0 : LotsOk (wr e0.2) := wr_lots hwok
      have bad0 : lookR (met S pl) e0.1 ≠ ((wr e0.2).length : Int) := by rw [wr_length]; exact hbad
      refine ⟨_, rfl, And.intro (by show 1 ≤ sizeLine; decide) <| fun m1 n1 => ?_⟩
      have km1 := Keep.new (W := []) (o := .lst [.ref q]) n1
      have hm1 : upd H22 m1 (.lst [.ref q]) m1 = some (.lst [.ref q]) := upd_same
      generalize upd H22 m1 (.lst [.ref q]) = H23 at *
      have hrl23 := km1 _ _ hrl (by simp)
      refine ⟨_, rfl, _, rfl, _, rfl, _, _, rfl, SqL.of hrl23, fun s1 ns1 => ?_⟩
      rw [show cutV rgs none (some ((pc : Nat) : Int)) = rgs.take pc from cutTake rgs pc]
      have ks1 := Keep.new (W := []) (o := .lst (rgs.take pc)) ns1
      have hs1 : upd H23 s1 (.lst (rgs.take pc)) s1 = some (.lst (rgs.take pc)) := upd_same
      generalize upd H23 s1 (.lst (rgs.take pc)) = H24 at *
      refine ⟨_, rfl, And.intro (by show 1 ≤ sizeLine; decide) <| fun m2 n2 => ?_⟩
      have km2 := Keep.new (W := []) (o := .lst [.ref q]) n2
      have hm2 : upd H24 m2 (.lst [.ref q]) m2 = some (.lst [.ref q]) := upd_same
      generalize upd H24 m2 (.lst [.ref q]) = H25 at *
      refine ⟨s1, m2, _, _, rfl, rfl, km2 _ _ hs1 (by simp), hm2, smallM (by rw [List.length_take]; simp; omega), fun c1 nc1 => ?_⟩
      have kc1 := Keep.new (W := []) (o := .lst (rgs.take pc ++ [.ref q])) nc1
      have hc1 : upd H25 c1 (.lst (rgs.take pc ++ [.ref q])) c1 = some (.lst (rgs.take pc ++ [.ref q])) := upd_same
      generalize upd H25 c1 (.lst (rgs.take pc ++ [.ref q])) = H26 at *
      have k2326 := (ks1.trans km2).trans kc1
      refine ⟨_, rfl, _, rfl, _, rfl, _, _, rfl, SqL.of (k2326 _ _ hrl23 (by simp)), fun s2 ns2 => ?_⟩
      rw [show cutV rgs (some ((pc : Nat) : Int)) none = rgs.drop pc from cutDrop rgs pc]
      have ks2 := Keep.new (W := []) (o := .lst (rgs.drop pc)) ns2
      have hs2 : upd H26 s2 (.lst (rgs.drop pc)) s2 = some (.lst (rgs.drop pc)) := upd_same
      generalize upd H26 s2 (.lst (rgs.drop pc)) = H27 at *
      refine ⟨c1, s2, _, _, rfl, rfl, ks2 _ _ hc1 (by simp), hs2, smallM (by rw [List.length_append, List.length_take, List.length_drop]; simp; omega), fun c2 nc2 => And.intro (by show 2 ≤ sizeLine; decide) <| fun tp2 ntp2 => ?_⟩
      have kc2 := Keep.new (W := []) (o := .lst (rgs.take pc ++ [.ref q] ++ rgs.drop pc)) nc2
      have hc2 : upd H27 c2 (.lst (rgs.take pc ++ [.ref q] ++ rgs.drop pc)) c2 = some (.lst (rgs.take pc ++ [.ref q] ++ rgs.drop pc)) := upd_same
      generalize upd H27 c2 (.lst (rgs.take pc ++ [.ref q] ++ rgs.drop pc)) = H28 at *
      have ktp2 := Keep.new (W := []) (o := .tup [.ref m1, .ref c2]) ntp2
      have htp2 : upd H28 tp2 (.tup [.ref m1, .ref c2]) tp2 = some (.tup [.ref m1, .ref c2]) := upd_same
      generalize upd H28 tp2 (.tup [.ref m1, .ref c2]) = H29 at *
      have k2329 := ((k2326.trans ks2).trans kc2).trans ktp2
      have k2229 := km1.trans k2329
      have k1929 := k20.trans (k2022.trans k2229)
      have ge : GL C_Ratio H29 [.ref q] [(e0.1, wr e0.2)] := .cons (k1929 _ _ hq (by simp)) (hvw.tk k1929.tk) (hla.keep k1929) .nil
      have gr := hrg.keep (KI.of k2229) fun b ys hb => k2229 _ _ hb (by simp)
      have B1 : RowsB C_Ratio (met S pl) H29 (.ref m1) := ⟨m1, _, _, rfl, k2329 _ _ hm1 (by simp), ge, (fun e he => by rw [List.mem_singleton.mp he]; exact lots0), ⟨_, List.mem_singleton.mpr rfl, bad0⟩, by simp, by simp⟩
      have B2 : RowsB C_Ratio (met S pl) H29 (.ref c2) := ⟨c2, _, _, rfl, ktp2 _ _ hc2 (by simp), ((gr.take pc).app ge).app (gr.drop pc), (fun e he => by
        rcases List.mem_append.mp he with he | he
        · rcases List.mem_append.mp he with he | he
          · exact even_lots hR' e (List.mem_of_mem_take he)
          · rw [List.mem_singleton.mp he]; exact lots0
        · exact even_lots hR' e (List.mem_of_mem_drop he)), ⟨(e0.1, wr e0.2), by simp, bad0⟩, by
        rw [List.append_assoc, List.map_append, List.map_append, List.map_take, List.map_drop, even_fst]
        have e5 : ∀ X : List (List Ev), X.Nodup → e0.1 ∉ X → (X.take pc ++ ([e0.1] ++ X.drop pc)).Nodup := fun X h1 h2 => by
          show (X.take pc ++ e0.1 :: X.drop pc).Nodup
          refine List.perm_middle.nodup_iff.mpr ?_
          rw [List.take_append_drop]; exact List.nodup_cons.mpr ⟨h2, h1⟩
        exact e5 _ hnd' hnotin, by
        rw [List.length_append, List.length_append, List.length_take, List.length_drop, even_len]; simp; omega⟩
      have hrows : ∀ x ∈ ([.ref m1, .ref c2] : List V), RowsB C_Ratio (met S pl) H29 x := fun x hx => by
        rcases List.mem_cons.mp hx with rfl | hx
        · exact B1
        · rw [List.mem_singleton.mp hx]; exact B2
      refine ⟨tp2, rfl, ⟨_, SqT.of htp2⟩, for_tup (K := K) (a := tp2) (xs := [.ref m1, .ref c2]) (fun i σ H' => ∃ o7, σ = [some (.ref a), some (.ref l), some tv, some (.int (pl : Nat)), some (.ref vl), some (.ref dl), some (.ref MD), o7, some (.int (pc : Nat)), some (.ref q), some (.ref rl), none, none, none] ∧ Keep [] H29 H') ⟨o7, rfl, Keep.refl _ _⟩ (fun i σ H' _ ⟨_, _, kk⟩ => SqT.of (kk _ _ htp2 (by simp))) ?_ ?_⟩
      · rintro i x σ H30 hx ⟨o7, rfl, k30⟩
        obtain ⟨lx, gs, t, rfl, hlx, hgx, hto, ⟨eb, heb, hbe⟩, htn, htl⟩ := (hrows x (List.mem_of_getElem? hx)).keep k30
        refine ⟨_, rfl, fun x dx nx ndx ne => ?_⟩
        have km := Keep.made (o := .ins C_Plan dx []) nx ndx
        refine ⟨x, dx, lx, gs, t, rfl, upd_same, km _ _ hlx (by simp), hgx.keep (KI.of km) fun b ys hb => km _ _ hb (by simp), hto, htn, by omega, fun H31 hP31 K31 => ⟨rfl, ?_⟩⟩
        have k3031 := keep_made nx ndx K31
        have k2931 := k30.trans k3031
        refine ⟨_, rfl, _, rfl, x, tv, pl, t, _, rfl, hP31, by omega, htv19.ki (KI.of (k1929.trans k2931)), by omega, by omega, by rw [hcoll]; exact hnd0, fun H32 K32 => ?_⟩
        rw [hcoll, fitsB_false heb hbe]
        exact ⟨_, _, rfl, _, rfl, iteF ⟨_, rfl, k2931.trans K32⟩⟩
      · rintro σ H30 ⟨o7, rfl, k30⟩
        exact ⟨_, _, _, rfl, k1929.trans k30⟩
    · rintro σ H20 ⟨o7, o9, o10, rfl, k20⟩
      exact k H20
end

theorem all_mk {l : PySem.W.OpenLaw} {w : World} {K : PySem.W.Frag} {h : Heap} {mg : Str → Option Value} {fa : Addr} (X : K.In h) (G : h.Ns mainGlobals mg) (hfa : mg "law" = some (.ref fa))
    {f_pure : Addr} {od_pure an_pure : Option Addr} {sl_pure : Array (Option Value)} {oc_pure kV_pure dc_pure pm_pure cd_pure ct_pure : Value}
    {f_fits : Addr} {od_fits an_fits : Option Addr} {sl_fits : Array (Option Value)} {oc_fits kV_fits dc_fits pm_fits cd_fits ct_fits : Value}
    {f_even : Addr} {od_even an_even : Option Addr} {sl_even : Array (Option Value)} {oc_even kV_even dc_even pm_even cd_even ct_even : Value}
    {f_common : Addr} {od_common an_common : Option Addr} {sl_common : Array (Option Value)} {oc_common kV_common dc_common pm_common cd_common ct_common : Value}
    {f_are_lots : Addr} {od_are_lots an_are_lots : Option Addr} {sl_are_lots : Array (Option Value)} {oc_are_lots kV_are_lots dc_are_lots pm_are_lots cd_are_lots ct_are_lots : Value}
    {f_collect : Addr} {od_collect an_collect : Option Addr} {sl_collect : Array (Option Value)} {oc_collect kV_collect dc_collect pm_collect cd_collect ct_collect : Value}
    {f_views_of : Addr} {od_views_of an_views_of : Option Addr} {sl_views_of : Array (Option Value)} {oc_views_of kV_views_of dc_views_of pm_views_of cd_views_of ct_views_of : Value}
    {f_law_cell : Addr} {od_law_cell an_law_cell : Option Addr} {sl_law_cell : Array (Option Value)} {oc_law_cell kV_law_cell dc_law_cell pm_law_cell cd_law_cell ct_law_cell : Value}
    {f_law_row : Addr} {od_law_row an_law_row : Option Addr} {sl_law_row : Array (Option Value)} {oc_law_row kV_law_row dc_law_row pm_law_row cd_law_row ct_law_row : Value}
    {f_law_stages : Addr} {od_law_stages an_law_stages : Option Addr} {sl_law_stages : Array (Option Value)} {oc_law_stages kV_law_stages dc_law_stages pm_law_stages cd_law_stages ct_law_stages : Value}
    {f_law_paths : Addr} {od_law_paths an_law_paths : Option Addr} {sl_law_paths : Array (Option Value)} {oc_law_paths kV_law_paths dc_law_paths pm_law_paths cd_law_paths ct_law_paths : Value}
    {f_law_view : Addr} {od_law_view an_law_view : Option Addr} {sl_law_view : Array (Option Value)} {oc_law_view kV_law_view dc_law_view pm_law_view cd_law_view ct_law_view : Value}
    {f_law_asked : Addr} {od_law_asked an_law_asked : Option Addr} {sl_law_asked : Array (Option Value)} {oc_law_asked kV_law_asked dc_law_asked pm_law_asked cd_law_asked ct_law_asked : Value}
    {f_law_met : Addr} {od_law_met an_law_met : Option Addr} {sl_law_met : Array (Option Value)} {oc_law_met kV_law_met dc_law_met pm_law_met cd_law_met ct_law_met : Value}
    {f_law_node : Addr} {od_law_node an_law_node : Option Addr} {sl_law_node : Array (Option Value)} {oc_law_node kV_law_node dc_law_node pm_law_node cd_law_node ct_law_node : Value}
    {f_law_is : Addr} {od_law_is an_law_is : Option Addr} {sl_law_is : Array (Option Value)} {oc_law_is kV_law_is dc_law_is pm_law_is cd_law_is ct_law_is : Value}
    {f_law_plans : Addr} {od_law_plans an_law_plans : Option Addr} {sl_law_plans : Array (Option Value)} {oc_law_plans kV_law_plans dc_law_plans pm_law_plans cd_law_plans ct_law_plans : Value}
    {f_law_strange : Addr} {od_law_strange an_law_strange : Option Addr} {sl_law_strange : Array (Option Value)} {oc_law_strange kV_law_strange dc_law_strange pm_law_strange cd_law_strange ct_law_strange : Value}
    {f_law : Addr} {od_law an_law : Option Addr} {sl_law : Array (Option Value)} {oc_law kV_law dc_law pm_law cd_law ct_law : Value}
    {C_Ratio : Addr}
    {C_Plan : Addr}
    {C_End : Addr}
    {C_Lot : Addr}
    {C_Turn : Addr}
    {f_Ratio___init : Addr} {od_Ratio___init an_Ratio___init : Option Addr} {sl_Ratio___init : Array (Option Value)} {oc_Ratio___init kV_Ratio___init dc_Ratio___init pm_Ratio___init cd_Ratio___init ct_Ratio___init : Value}
    {T_Ratio___init : Addr} {oT_Ratio___init : Value} {dT_Ratio___init : Option Addr} {nT_Ratio___init : Nat} {slT_Ratio___init : Array (Option Value)} {t_Ratio___init : Tok}
    {f_Plan___init : Addr} {od_Plan___init an_Plan___init : Option Addr} {sl_Plan___init : Array (Option Value)} {oc_Plan___init kV_Plan___init dc_Plan___init pm_Plan___init cd_Plan___init ct_Plan___init : Value}
    {f_Plan_entries : Addr} {od_Plan_entries an_Plan_entries : Option Addr} {sl_Plan_entries : Array (Option Value)} {oc_Plan_entries kV_Plan_entries dc_Plan_entries pm_Plan_entries cd_Plan_entries ct_Plan_entries : Value}
    {f_End___init : Addr} {od_End___init an_End___init : Option Addr} {sl_End___init : Array (Option Value)} {oc_End___init kV_End___init dc_End___init pm_End___init cd_End___init ct_End___init : Value}
    {f_Lot___init : Addr} {od_Lot___init an_Lot___init : Option Addr} {sl_Lot___init : Array (Option Value)} {oc_Lot___init kV_Lot___init dc_Lot___init pm_Lot___init cd_Lot___init ct_Lot___init : Value}
    {f_Turn___init : Addr} {od_Turn___init an_Turn___init : Option Addr} {sl_Turn___init : Array (Option Value)} {oc_Turn___init kV_Turn___init dc_Turn___init pm_Turn___init cd_Turn___init ct_Turn___init : Value}
    {f_Ratio___eq : Addr} {od_Ratio___eq an_Ratio___eq : Option Addr} {sl_Ratio___eq : Array (Option Value)} {oc_Ratio___eq kV_Ratio___eq dc_Ratio___eq pm_Ratio___eq cd_Ratio___eq ct_Ratio___eq : Value}
    (a_pure : PySem.W.nsIn K mainGlobals "pure" = some (some (.ref f_pure))) (l_pure : K.lookup f_pure = some ⟨oc_pure, od_pure, .func (PySem.W.fnOf "pure" "pure" (fnArgs s_pure) (fnBody s_pure) (fnScope s_pure) .none kV_pure dc_pure pm_pure an_pure cd_pure ct_pure), sl_pure⟩) (c_pure : PySem.W.codeIn K cd_pure "pure" = true) (k_pure : PySem.W.keepIn K (.ref f_pure) = true)
    (a_fits : PySem.W.nsIn K mainGlobals "fits" = some (some (.ref f_fits))) (l_fits : K.lookup f_fits = some ⟨oc_fits, od_fits, .func (PySem.W.fnOf "fits" "fits" (fnArgs s_fits) (fnBody s_fits) (fnScope s_fits) .none kV_fits dc_fits pm_fits an_fits cd_fits ct_fits), sl_fits⟩) (c_fits : PySem.W.codeIn K cd_fits "fits" = true) (k_fits : PySem.W.keepIn K (.ref f_fits) = true)
    (a_even : PySem.W.nsIn K mainGlobals "even" = some (some (.ref f_even))) (l_even : K.lookup f_even = some ⟨oc_even, od_even, .func (PySem.W.fnOf "even" "even" (fnArgs s_even) (fnBody s_even) (fnScope s_even) .none kV_even dc_even pm_even an_even cd_even ct_even), sl_even⟩) (c_even : PySem.W.codeIn K cd_even "even" = true) (k_even : PySem.W.keepIn K (.ref f_even) = true)
    (a_common : PySem.W.nsIn K mainGlobals "common" = some (some (.ref f_common))) (l_common : K.lookup f_common = some ⟨oc_common, od_common, .func (PySem.W.fnOf "common" "common" (fnArgs s_common) (fnBody s_common) (fnScope s_common) .none kV_common dc_common pm_common an_common cd_common ct_common), sl_common⟩) (c_common : PySem.W.codeIn K cd_common "common" = true) (k_common : PySem.W.keepIn K (.ref f_common) = true)
    (a_are_lots : PySem.W.nsIn K mainGlobals "are_lots" = some (some (.ref f_are_lots))) (l_are_lots : K.lookup f_are_lots = some ⟨oc_are_lots, od_are_lots, .func (PySem.W.fnOf "are_lots" "are_lots" (fnArgs s_are_lots) (fnBody s_are_lots) (fnScope s_are_lots) .none kV_are_lots dc_are_lots pm_are_lots an_are_lots cd_are_lots ct_are_lots), sl_are_lots⟩) (c_are_lots : PySem.W.codeIn K cd_are_lots "are_lots" = true) (k_are_lots : PySem.W.keepIn K (.ref f_are_lots) = true)
    (a_collect : PySem.W.nsIn K mainGlobals "_collect" = some (some (.ref f_collect))) (l_collect : K.lookup f_collect = some ⟨oc_collect, od_collect, .func (PySem.W.fnOf "_collect" "_collect" (fnArgs s_collect) (fnBody s_collect) (fnScope s_collect) .none kV_collect dc_collect pm_collect an_collect cd_collect ct_collect), sl_collect⟩) (c_collect : PySem.W.codeIn K cd_collect "_collect" = true) (k_collect : PySem.W.keepIn K (.ref f_collect) = true)
    (a_views_of : PySem.W.nsIn K mainGlobals "views_of" = some (some (.ref f_views_of))) (l_views_of : K.lookup f_views_of = some ⟨oc_views_of, od_views_of, .func (PySem.W.fnOf "views_of" "views_of" (fnArgs s_views_of) (fnBody s_views_of) (fnScope s_views_of) .none kV_views_of dc_views_of pm_views_of an_views_of cd_views_of ct_views_of), sl_views_of⟩) (c_views_of : PySem.W.codeIn K cd_views_of "views_of" = true) (k_views_of : PySem.W.keepIn K (.ref f_views_of) = true)
    (a_law_cell : PySem.W.nsIn K mainGlobals "_law_cell" = some (some (.ref f_law_cell))) (l_law_cell : K.lookup f_law_cell = some ⟨oc_law_cell, od_law_cell, .func (PySem.W.fnOf "_law_cell" "_law_cell" (fnArgs s_law_cell) (fnBody s_law_cell) (fnScope s_law_cell) .none kV_law_cell dc_law_cell pm_law_cell an_law_cell cd_law_cell ct_law_cell), sl_law_cell⟩) (c_law_cell : PySem.W.codeIn K cd_law_cell "_law_cell" = true) (k_law_cell : PySem.W.keepIn K (.ref f_law_cell) = true)
    (a_law_row : PySem.W.nsIn K mainGlobals "_law_row" = some (some (.ref f_law_row))) (l_law_row : K.lookup f_law_row = some ⟨oc_law_row, od_law_row, .func (PySem.W.fnOf "_law_row" "_law_row" (fnArgs s_law_row) (fnBody s_law_row) (fnScope s_law_row) .none kV_law_row dc_law_row pm_law_row an_law_row cd_law_row ct_law_row), sl_law_row⟩) (c_law_row : PySem.W.codeIn K cd_law_row "_law_row" = true) (k_law_row : PySem.W.keepIn K (.ref f_law_row) = true)
    (a_law_stages : PySem.W.nsIn K mainGlobals "_law_stages" = some (some (.ref f_law_stages))) (l_law_stages : K.lookup f_law_stages = some ⟨oc_law_stages, od_law_stages, .func (PySem.W.fnOf "_law_stages" "_law_stages" (fnArgs s_law_stages) (fnBody s_law_stages) (fnScope s_law_stages) .none kV_law_stages dc_law_stages pm_law_stages an_law_stages cd_law_stages ct_law_stages), sl_law_stages⟩) (c_law_stages : PySem.W.codeIn K cd_law_stages "_law_stages" = true) (k_law_stages : PySem.W.keepIn K (.ref f_law_stages) = true)
    (a_law_paths : PySem.W.nsIn K mainGlobals "_law_paths" = some (some (.ref f_law_paths))) (l_law_paths : K.lookup f_law_paths = some ⟨oc_law_paths, od_law_paths, .func (PySem.W.fnOf "_law_paths" "_law_paths" (fnArgs s_law_paths) (fnBody s_law_paths) (fnScope s_law_paths) .none kV_law_paths dc_law_paths pm_law_paths an_law_paths cd_law_paths ct_law_paths), sl_law_paths⟩) (c_law_paths : PySem.W.codeIn K cd_law_paths "_law_paths" = true) (k_law_paths : PySem.W.keepIn K (.ref f_law_paths) = true)
    (a_law_view : PySem.W.nsIn K mainGlobals "_law_view" = some (some (.ref f_law_view))) (l_law_view : K.lookup f_law_view = some ⟨oc_law_view, od_law_view, .func (PySem.W.fnOf "_law_view" "_law_view" (fnArgs s_law_view) (fnBody s_law_view) (fnScope s_law_view) .none kV_law_view dc_law_view pm_law_view an_law_view cd_law_view ct_law_view), sl_law_view⟩) (c_law_view : PySem.W.codeIn K cd_law_view "_law_view" = true) (k_law_view : PySem.W.keepIn K (.ref f_law_view) = true)
    (a_law_asked : PySem.W.nsIn K mainGlobals "_law_asked" = some (some (.ref f_law_asked))) (l_law_asked : K.lookup f_law_asked = some ⟨oc_law_asked, od_law_asked, .func (PySem.W.fnOf "_law_asked" "_law_asked" (fnArgs s_law_asked) (fnBody s_law_asked) (fnScope s_law_asked) .none kV_law_asked dc_law_asked pm_law_asked an_law_asked cd_law_asked ct_law_asked), sl_law_asked⟩) (c_law_asked : PySem.W.codeIn K cd_law_asked "_law_asked" = true) (k_law_asked : PySem.W.keepIn K (.ref f_law_asked) = true)
    (a_law_met : PySem.W.nsIn K mainGlobals "_law_met" = some (some (.ref f_law_met))) (l_law_met : K.lookup f_law_met = some ⟨oc_law_met, od_law_met, .func (PySem.W.fnOf "_law_met" "_law_met" (fnArgs s_law_met) (fnBody s_law_met) (fnScope s_law_met) .none kV_law_met dc_law_met pm_law_met an_law_met cd_law_met ct_law_met), sl_law_met⟩) (c_law_met : PySem.W.codeIn K cd_law_met "_law_met" = true) (k_law_met : PySem.W.keepIn K (.ref f_law_met) = true)
    (a_law_node : PySem.W.nsIn K mainGlobals "_law_node" = some (some (.ref f_law_node))) (l_law_node : K.lookup f_law_node = some ⟨oc_law_node, od_law_node, .func (PySem.W.fnOf "_law_node" "_law_node" (fnArgs s_law_node) (fnBody s_law_node) (fnScope s_law_node) .none kV_law_node dc_law_node pm_law_node an_law_node cd_law_node ct_law_node), sl_law_node⟩) (c_law_node : PySem.W.codeIn K cd_law_node "_law_node" = true) (k_law_node : PySem.W.keepIn K (.ref f_law_node) = true)
    (a_law_is : PySem.W.nsIn K mainGlobals "_law_is" = some (some (.ref f_law_is))) (l_law_is : K.lookup f_law_is = some ⟨oc_law_is, od_law_is, .func (PySem.W.fnOf "_law_is" "_law_is" (fnArgs s_law_is) (fnBody s_law_is) (fnScope s_law_is) .none kV_law_is dc_law_is pm_law_is an_law_is cd_law_is ct_law_is), sl_law_is⟩) (c_law_is : PySem.W.codeIn K cd_law_is "_law_is" = true) (k_law_is : PySem.W.keepIn K (.ref f_law_is) = true)
    (a_law_plans : PySem.W.nsIn K mainGlobals "_law_plans" = some (some (.ref f_law_plans))) (l_law_plans : K.lookup f_law_plans = some ⟨oc_law_plans, od_law_plans, .func (PySem.W.fnOf "_law_plans" "_law_plans" (fnArgs s_law_plans) (fnBody s_law_plans) (fnScope s_law_plans) .none kV_law_plans dc_law_plans pm_law_plans an_law_plans cd_law_plans ct_law_plans), sl_law_plans⟩) (c_law_plans : PySem.W.codeIn K cd_law_plans "_law_plans" = true) (k_law_plans : PySem.W.keepIn K (.ref f_law_plans) = true)
    (a_law_strange : PySem.W.nsIn K mainGlobals "_law_strange" = some (some (.ref f_law_strange))) (l_law_strange : K.lookup f_law_strange = some ⟨oc_law_strange, od_law_strange, .func (PySem.W.fnOf "_law_strange" "_law_strange" (fnArgs s_law_strange) (fnBody s_law_strange) (fnScope s_law_strange) .none kV_law_strange dc_law_strange pm_law_strange an_law_strange cd_law_strange ct_law_strange), sl_law_strange⟩) (c_law_strange : PySem.W.codeIn K cd_law_strange "_law_strange" = true) (k_law_strange : PySem.W.keepIn K (.ref f_law_strange) = true)
    (a_law : PySem.W.nsIn K mainGlobals "law" = some (some (.ref f_law))) (l_law : K.lookup f_law = some ⟨oc_law, od_law, .func (PySem.W.fnOf "law" "law" (fnArgs s_law) (fnBody s_law) (fnScope s_law) .none kV_law dc_law pm_law an_law cd_law ct_law), sl_law⟩) (c_law : PySem.W.codeIn K cd_law "law" = true) (k_law : PySem.W.keepIn K (.ref f_law) = true)
    (mc_Ratio : PySem.W.nsIn K mainGlobals "Ratio" = some (some (.ref C_Ratio)))
    (pg_Ratio : PySem.W.plainGet K C_Ratio Str.empty = true)
    (hd_Ratio : PySem.W.hasDictIn K C_Ratio = true)
    (po_Ratio : PySem.W.plainOver K C_Ratio = true)
    (sa_Ratio : PySem.W.findIn K (.ref C_Ratio) "__setattr__" = some (some (.builtin "object.__setattr__")))
    (mk_Ratio : PySem.W.makesIn K C_Ratio = true)
    (kc_Ratio : PySem.W.keepIn K (.ref C_Ratio) = true)
    (ha_Ratio : PySem.W.findIn K (.ref C_Ratio) "__class__" = some (some (.builtin "object.__class__")))
    (hn_Ratio : PySem.W.specialIn K (.builtin "object.__class__") "__get__" = some (some (.builtin "getset_descriptor.__get__")))
    (ht_Ratio : PySem.W.takesIn K (.builtin "object.__class__") = some true)
    (hm_Ratio : PySem.W.mroIn K C_Ratio (.type "object") = some true)
    (nnum_Ratio : PySem.W.findIn K (.ref C_Ratio) "num" = some none)
    (nden_Ratio : PySem.W.findIn K (.ref C_Ratio) "den" = some none)
    (mc_Plan : PySem.W.nsIn K mainGlobals "Plan" = some (some (.ref C_Plan)))
    (pg_Plan : PySem.W.plainGet K C_Plan Str.empty = true)
    (hd_Plan : PySem.W.hasDictIn K C_Plan = true)
    (po_Plan : PySem.W.plainOver K C_Plan = true)
    (sa_Plan : PySem.W.findIn K (.ref C_Plan) "__setattr__" = some (some (.builtin "object.__setattr__")))
    (mk_Plan : PySem.W.makesIn K C_Plan = true)
    (kc_Plan : PySem.W.keepIn K (.ref C_Plan) = true)
    (ha_Plan : PySem.W.findIn K (.ref C_Plan) "__class__" = some (some (.builtin "object.__class__")))
    (hn_Plan : PySem.W.specialIn K (.builtin "object.__class__") "__get__" = some (some (.builtin "getset_descriptor.__get__")))
    (ht_Plan : PySem.W.takesIn K (.builtin "object.__class__") = some true)
    (hm_Plan : PySem.W.mroIn K C_Plan (.type "object") = some true)
    (ntable_Plan : PySem.W.findIn K (.ref C_Plan) "table" = some none)
    (mc_End : PySem.W.nsIn K mainGlobals "End" = some (some (.ref C_End)))
    (pg_End : PySem.W.plainGet K C_End Str.empty = true)
    (hd_End : PySem.W.hasDictIn K C_End = true)
    (po_End : PySem.W.plainOver K C_End = true)
    (sa_End : PySem.W.findIn K (.ref C_End) "__setattr__" = some (some (.builtin "object.__setattr__")))
    (mk_End : PySem.W.makesIn K C_End = true)
    (kc_End : PySem.W.keepIn K (.ref C_End) = true)
    (ha_End : PySem.W.findIn K (.ref C_End) "__class__" = some (some (.builtin "object.__class__")))
    (hn_End : PySem.W.specialIn K (.builtin "object.__class__") "__get__" = some (some (.builtin "getset_descriptor.__get__")))
    (ht_End : PySem.W.takesIn K (.builtin "object.__class__") = some true)
    (hm_End : PySem.W.mroIn K C_End (.type "object") = some true)
    (npaid_End : PySem.W.findIn K (.ref C_End) "paid" = some none)
    (mc_Lot : PySem.W.nsIn K mainGlobals "Lot" = some (some (.ref C_Lot)))
    (pg_Lot : PySem.W.plainGet K C_Lot Str.empty = true)
    (hd_Lot : PySem.W.hasDictIn K C_Lot = true)
    (po_Lot : PySem.W.plainOver K C_Lot = true)
    (sa_Lot : PySem.W.findIn K (.ref C_Lot) "__setattr__" = some (some (.builtin "object.__setattr__")))
    (mk_Lot : PySem.W.makesIn K C_Lot = true)
    (kc_Lot : PySem.W.keepIn K (.ref C_Lot) = true)
    (ha_Lot : PySem.W.findIn K (.ref C_Lot) "__class__" = some (some (.builtin "object.__class__")))
    (hn_Lot : PySem.W.specialIn K (.builtin "object.__class__") "__get__" = some (some (.builtin "getset_descriptor.__get__")))
    (ht_Lot : PySem.W.takesIn K (.builtin "object.__class__") = some true)
    (hm_Lot : PySem.W.mroIn K C_Lot (.type "object") = some true)
    (nparts_Lot : PySem.W.findIn K (.ref C_Lot) "parts" = some none)
    (mc_Turn : PySem.W.nsIn K mainGlobals "Turn" = some (some (.ref C_Turn)))
    (pg_Turn : PySem.W.plainGet K C_Turn Str.empty = true)
    (hd_Turn : PySem.W.hasDictIn K C_Turn = true)
    (po_Turn : PySem.W.plainOver K C_Turn = true)
    (sa_Turn : PySem.W.findIn K (.ref C_Turn) "__setattr__" = some (some (.builtin "object.__setattr__")))
    (mk_Turn : PySem.W.makesIn K C_Turn = true)
    (kc_Turn : PySem.W.keepIn K (.ref C_Turn) = true)
    (ha_Turn : PySem.W.findIn K (.ref C_Turn) "__class__" = some (some (.builtin "object.__class__")))
    (hn_Turn : PySem.W.specialIn K (.builtin "object.__class__") "__get__" = some (some (.builtin "getset_descriptor.__get__")))
    (ht_Turn : PySem.W.takesIn K (.builtin "object.__class__") = some true)
    (hm_Turn : PySem.W.mroIn K C_Turn (.type "object") = some true)
    (nplayer_Turn : PySem.W.findIn K (.ref C_Turn) "player" = some none)
    (nview_Turn : PySem.W.findIn K (.ref C_Turn) "view" = some none)
    (nparts_Turn : PySem.W.findIn K (.ref C_Turn) "parts" = some none)
    (a_Ratio___init : PySem.W.findIn K (.ref C_Ratio) "__init__" = some (some (.ref f_Ratio___init))) (i_Ratio___init : PySem.W.isFn K (.ref f_Ratio___init) = true) (l_Ratio___init : K.lookup f_Ratio___init = some ⟨oc_Ratio___init, od_Ratio___init, .func (PySem.W.fnOf "__init__" "Ratio.__init__" (fnArgs s_Ratio___init) (fnBody s_Ratio___init) (fnScope s_Ratio___init) (.ref T_Ratio___init) kV_Ratio___init dc_Ratio___init pm_Ratio___init an_Ratio___init cd_Ratio___init ct_Ratio___init), sl_Ratio___init⟩) (c_Ratio___init : PySem.W.codeIn K cd_Ratio___init "Ratio.__init__" = true) (k_Ratio___init : PySem.W.keepIn K (.ref f_Ratio___init) = true)
    (lT_Ratio___init : K.lookup T_Ratio___init = some ⟨oT_Ratio___init, dT_Ratio___init, .seq #[.int 1 t_Ratio___init] nT_Ratio___init, slT_Ratio___init⟩)
    (a_Plan___init : PySem.W.findIn K (.ref C_Plan) "__init__" = some (some (.ref f_Plan___init))) (i_Plan___init : PySem.W.isFn K (.ref f_Plan___init) = true) (l_Plan___init : K.lookup f_Plan___init = some ⟨oc_Plan___init, od_Plan___init, .func (PySem.W.fnOf "__init__" "Plan.__init__" (fnArgs s_Plan___init) (fnBody s_Plan___init) (fnScope s_Plan___init) .none kV_Plan___init dc_Plan___init pm_Plan___init an_Plan___init cd_Plan___init ct_Plan___init), sl_Plan___init⟩) (c_Plan___init : PySem.W.codeIn K cd_Plan___init "Plan.__init__" = true) (k_Plan___init : PySem.W.keepIn K (.ref f_Plan___init) = true)
    (a_Plan_entries : PySem.W.findIn K (.ref C_Plan) "entries" = some (some (.ref f_Plan_entries))) (i_Plan_entries : PySem.W.isFn K (.ref f_Plan_entries) = true) (l_Plan_entries : K.lookup f_Plan_entries = some ⟨oc_Plan_entries, od_Plan_entries, .func (PySem.W.fnOf "entries" "Plan.entries" (fnArgs s_Plan_entries) (fnBody s_Plan_entries) (fnScope s_Plan_entries) .none kV_Plan_entries dc_Plan_entries pm_Plan_entries an_Plan_entries cd_Plan_entries ct_Plan_entries), sl_Plan_entries⟩) (c_Plan_entries : PySem.W.codeIn K cd_Plan_entries "Plan.entries" = true) (k_Plan_entries : PySem.W.keepIn K (.ref f_Plan_entries) = true)
    (a_End___init : PySem.W.findIn K (.ref C_End) "__init__" = some (some (.ref f_End___init))) (i_End___init : PySem.W.isFn K (.ref f_End___init) = true) (l_End___init : K.lookup f_End___init = some ⟨oc_End___init, od_End___init, .func (PySem.W.fnOf "__init__" "End.__init__" (fnArgs s_End___init) (fnBody s_End___init) (fnScope s_End___init) .none kV_End___init dc_End___init pm_End___init an_End___init cd_End___init ct_End___init), sl_End___init⟩) (c_End___init : PySem.W.codeIn K cd_End___init "End.__init__" = true) (k_End___init : PySem.W.keepIn K (.ref f_End___init) = true)
    (a_Lot___init : PySem.W.findIn K (.ref C_Lot) "__init__" = some (some (.ref f_Lot___init))) (i_Lot___init : PySem.W.isFn K (.ref f_Lot___init) = true) (l_Lot___init : K.lookup f_Lot___init = some ⟨oc_Lot___init, od_Lot___init, .func (PySem.W.fnOf "__init__" "Lot.__init__" (fnArgs s_Lot___init) (fnBody s_Lot___init) (fnScope s_Lot___init) .none kV_Lot___init dc_Lot___init pm_Lot___init an_Lot___init cd_Lot___init ct_Lot___init), sl_Lot___init⟩) (c_Lot___init : PySem.W.codeIn K cd_Lot___init "Lot.__init__" = true) (k_Lot___init : PySem.W.keepIn K (.ref f_Lot___init) = true)
    (a_Turn___init : PySem.W.findIn K (.ref C_Turn) "__init__" = some (some (.ref f_Turn___init))) (i_Turn___init : PySem.W.isFn K (.ref f_Turn___init) = true) (l_Turn___init : K.lookup f_Turn___init = some ⟨oc_Turn___init, od_Turn___init, .func (PySem.W.fnOf "__init__" "Turn.__init__" (fnArgs s_Turn___init) (fnBody s_Turn___init) (fnScope s_Turn___init) .none kV_Turn___init dc_Turn___init pm_Turn___init an_Turn___init cd_Turn___init ct_Turn___init), sl_Turn___init⟩) (c_Turn___init : PySem.W.codeIn K cd_Turn___init "Turn.__init__" = true) (k_Turn___init : PySem.W.keepIn K (.ref f_Turn___init) = true)
    (a_Ratio___eq : PySem.W.findIn K (.ref C_Ratio) "__eq__" = some (some (.ref f_Ratio___eq))) (i_Ratio___eq : PySem.W.isFn K (.ref f_Ratio___eq) = true) (l_Ratio___eq : K.lookup f_Ratio___eq = some ⟨oc_Ratio___eq, od_Ratio___eq, .func (PySem.W.fnOf "__eq__" "Ratio.__eq__" (fnArgs s_Ratio___eq) (fnBody s_Ratio___eq) (fnScope s_Ratio___eq) .none kV_Ratio___eq dc_Ratio___eq pm_Ratio___eq an_Ratio___eq cd_Ratio___eq ct_Ratio___eq), sl_Ratio___eq⟩) (c_Ratio___eq : PySem.W.codeIn K cd_Ratio___eq "Ratio.__eq__" = true) (k_Ratio___eq : PySem.W.keepIn K (.ref f_Ratio___eq) = true)
    (hkLE : PySem.W.kitOne K (.ref C_Lot) (.ref C_End) = some false)
    (hkTE : PySem.W.kitOne K (.ref C_Turn) (.ref C_End) = some false)
    (hkTL : PySem.W.kitOne K (.ref C_Turn) (.ref C_Lot) = some false)
    (hkLT : PySem.W.kitOne K (.ref C_Lot) (.ref C_Turn) = some false)
    (hnR : PySem.W.findIn K (.ref C_Ratio) "__ne__" = some (some (.builtin "object.__ne__")))
    (z_gcd : PySem.W.nsIn K mainGlobals "gcd" = some (some (.builtin "math.gcd")))
    (z_lcm : PySem.W.nsIn K mainGlobals "lcm" = some (some (.builtin "math.lcm")))
    (z_all : PySem.W.nsIn K mainGlobals "all" = some none)
    (z_bool : PySem.W.nsIn K mainGlobals "bool" = some none)
    (z_dict : PySem.W.nsIn K mainGlobals "dict" = some none)
    (z_enumerate : PySem.W.nsIn K mainGlobals "enumerate" = some none)
    (z_int : PySem.W.nsIn K mainGlobals "int" = some none)
    (z_isinstance : PySem.W.nsIn K mainGlobals "isinstance" = some none)
    (z_len : PySem.W.nsIn K mainGlobals "len" = some none)
    (z_list : PySem.W.nsIn K mainGlobals "list" = some none)
    (z_range : PySem.W.nsIn K mainGlobals "range" = some none)
    (z_sum : PySem.W.nsIn K mainGlobals "sum" = some none)
    (z_tuple : PySem.W.nsIn K mainGlobals "tuple" = some none)
    (z_zip : PySem.W.nsIn K mainGlobals "zip" = some none)
    : ∃ fd : FuncData, (∀ (s : Shared) (v : Value), BindsTo s fd ⟨[v], []⟩ [("script", v)]) ∧ ∀ base : Heap, K.In base → base.Ns mainGlobals mg → FnOk l.prog w K mg base C8.CX0 9 fa fd ["script"] (sp_law K) := by
  have e := hfa.symm.trans (PySem.W.mg_of X G a_law)
  cases e
  have T : Txt K mg C_Ratio C_Plan C_End C_Lot C_Turn := ⟨PySem.W.mg_none_of X G z_all, PySem.W.mg_none_of X G z_bool, PySem.W.mg_none_of X G z_dict, PySem.W.mg_none_of X G z_enumerate, PySem.W.mg_none_of X G z_int, PySem.W.mg_none_of X G z_isinstance, PySem.W.mg_none_of X G z_len, PySem.W.mg_none_of X G z_list, PySem.W.mg_none_of X G z_range, PySem.W.mg_none_of X G z_sum, PySem.W.mg_none_of X G z_tuple, PySem.W.mg_none_of X G z_zip, PySem.W.mg_of X G z_gcd, PySem.W.mg_of X G z_lcm, ⟨pg_Ratio, hd_Ratio, po_Ratio, sa_Ratio⟩, PySem.W.mg_of X G mc_Ratio, ⟨⟨pg_Ratio, hd_Ratio, po_Ratio, sa_Ratio⟩, ha_Ratio, hn_Ratio, ht_Ratio, hm_Ratio, kitSelf⟩, nnum_Ratio, nden_Ratio, ⟨pg_Plan, hd_Plan, po_Plan, sa_Plan⟩, PySem.W.mg_of X G mc_Plan, ⟨⟨pg_Plan, hd_Plan, po_Plan, sa_Plan⟩, ha_Plan, hn_Plan, ht_Plan, hm_Plan, kitSelf⟩, ntable_Plan, ⟨pg_End, hd_End, po_End, sa_End⟩, PySem.W.mg_of X G mc_End, ⟨⟨pg_End, hd_End, po_End, sa_End⟩, ha_End, hn_End, ht_End, hm_End, kitSelf⟩, npaid_End, ⟨pg_Lot, hd_Lot, po_Lot, sa_Lot⟩, PySem.W.mg_of X G mc_Lot, ⟨⟨pg_Lot, hd_Lot, po_Lot, sa_Lot⟩, ha_Lot, hn_Lot, ht_Lot, hm_Lot, kitSelf⟩, nparts_Lot, ⟨pg_Turn, hd_Turn, po_Turn, sa_Turn⟩, PySem.W.mg_of X G mc_Turn, ⟨⟨pg_Turn, hd_Turn, po_Turn, sa_Turn⟩, ha_Turn, hn_Turn, ht_Turn, hm_Turn, kitSelf⟩, nplayer_Turn, nview_Turn, nparts_Turn, hkLE, hkTE, hkTL, hkLT, hnR, True.intro⟩
  have F_Ratio___init : C8.Fun K "__init__" "Ratio.__init__" s_Ratio___init _ _ := ⟨⟨_, _, _, _, _, _, _, _, _, _, rfl, l_Ratio___init, c_Ratio___init⟩⟩
  have M_Ratio : Mk K C_Ratio f_Ratio___init := ⟨mk_Ratio, a_Ratio___init, i_Ratio___init, kc_Ratio⟩
  have FD_Ratio___init : FunD K "__init__" "Ratio.__init__" (fnArgs s_Ratio___init) (fnBody s_Ratio___init) (fnScope s_Ratio___init) [.int 1] [] f_Ratio___init _ := ⟨⟨_, _, _, _, _, _, _, _, _, _, rfl, l_Ratio___init, c_Ratio___init, .inr ⟨by simp, _, _, [_], _, rfl, lT_Ratio___init, rfl, .cons ⟨_, rfl⟩ .nil⟩, .inl rfl⟩, k_Ratio___init⟩
  obtain ⟨ds2_Ratio___init, v2_Ratio___init, b2_Ratio___init⟩ := FD_Ratio___init.binds1 (ps := ["self", "num", "den"]) 3 1 (by simp) rfl (fun _ _ _ _ _ _ _ us its hu hi => match us, hu, its, hi with | [_, _, _], _, [_], _ => ⟨_, rfl, rfl⟩)
  obtain ⟨ds1_Ratio___init, v1_Ratio___init, b1_Ratio___init⟩ := FD_Ratio___init.binds1 (ps := ["self", "num", "den"]) 2 0 (by simp) rfl (fun _ _ _ _ _ _ _ us its hu hi => match us, hu, its, hi with | [_, _], _, [_], _ => ⟨_, rfl, rfl⟩)
  have F_Plan___init : C8.Fun K "__init__" "Plan.__init__" s_Plan___init _ _ := ⟨⟨_, _, _, _, _, _, _, _, _, _, rfl, l_Plan___init, c_Plan___init⟩⟩
  have M_Plan : Mk K C_Plan f_Plan___init := ⟨mk_Plan, a_Plan___init, i_Plan___init, kc_Plan⟩
  have b_Plan___init : Binds K _ ["self", "entries"] [] := C8.Fun.binds F_Plan___init rfl fun _ _ _ _ _ _ us hl => match us, hl with | [_, _], _ => rfl
  have F_Plan_entries : C8.Fun K "entries" "Plan.entries" s_Plan_entries _ _ := ⟨⟨_, _, _, _, _, _, _, _, _, _, rfl, l_Plan_entries, c_Plan_entries⟩⟩
  have M_Plan_entries : Meth K C_Plan "entries" f_Plan_entries := ⟨a_Plan_entries, i_Plan_entries, k_Plan_entries⟩
  have b_Plan_entries : Binds K _ ["self"] [] := C8.Fun.binds F_Plan_entries rfl fun _ _ _ _ _ _ us hl => match us, hl with | [_], _ => rfl
  have F_End___init : C8.Fun K "__init__" "End.__init__" s_End___init _ _ := ⟨⟨_, _, _, _, _, _, _, _, _, _, rfl, l_End___init, c_End___init⟩⟩
  have M_End : Mk K C_End f_End___init := ⟨mk_End, a_End___init, i_End___init, kc_End⟩
  have b_End___init : Binds K _ ["self", "paid"] [] := C8.Fun.binds F_End___init rfl fun _ _ _ _ _ _ us hl => match us, hl with | [_, _], _ => rfl
  have F_Lot___init : C8.Fun K "__init__" "Lot.__init__" s_Lot___init _ _ := ⟨⟨_, _, _, _, _, _, _, _, _, _, rfl, l_Lot___init, c_Lot___init⟩⟩
  have M_Lot : Mk K C_Lot f_Lot___init := ⟨mk_Lot, a_Lot___init, i_Lot___init, kc_Lot⟩
  have b_Lot___init : Binds K _ ["self", "parts"] [] := C8.Fun.binds F_Lot___init rfl fun _ _ _ _ _ _ us hl => match us, hl with | [_, _], _ => rfl
  have F_Turn___init : C8.Fun K "__init__" "Turn.__init__" s_Turn___init _ _ := ⟨⟨_, _, _, _, _, _, _, _, _, _, rfl, l_Turn___init, c_Turn___init⟩⟩
  have M_Turn : Mk K C_Turn f_Turn___init := ⟨mk_Turn, a_Turn___init, i_Turn___init, kc_Turn⟩
  have b_Turn___init : Binds K _ ["self", "player", "view", "parts"] [] := C8.Fun.binds F_Turn___init rfl fun _ _ _ _ _ _ us hl => match us, hl with | [_, _, _, _], _ => rfl
  have F_Ratio___eq : C8.Fun K "__eq__" "Ratio.__eq__" s_Ratio___eq _ _ := ⟨⟨_, _, _, _, _, _, _, _, _, _, rfl, l_Ratio___eq, c_Ratio___eq⟩⟩
  have M_Ratio___eq : Meth K C_Ratio "__eq__" f_Ratio___eq := ⟨a_Ratio___eq, i_Ratio___eq, k_Ratio___eq⟩
  have b_Ratio___eq : Binds K _ ["self", "other"] [] := C8.Fun.binds F_Ratio___eq rfl fun _ _ _ _ _ _ us hl => match us, hl with | [_, _], _ => rfl
  have D_pure : C8.Def K mg "pure" s_pure _ _ := ⟨⟨⟨_, _, _, _, _, _, _, _, _, _, rfl, l_pure, c_pure⟩⟩, PySem.W.mg_of X G a_pure, k_pure⟩
  have b_pure : Binds K _ ["views", "moves"] [] := C8.Fun.binds D_pure.fn rfl fun _ _ _ _ _ _ us hl => match us, hl with | [_, _], _ => rfl
  have D_fits : C8.Def K mg "fits" s_fits _ _ := ⟨⟨⟨_, _, _, _, _, _, _, _, _, _, rfl, l_fits, c_fits⟩⟩, PySem.W.mg_of X G a_fits, k_fits⟩
  have b_fits : Binds K _ ["plan", "tree", "player"] [] := C8.Fun.binds D_fits.fn rfl fun _ _ _ _ _ _ us hl => match us, hl with | [_, _, _], _ => rfl
  have D_even : C8.Def K mg "even" s_even _ _ := ⟨⟨⟨_, _, _, _, _, _, _, _, _, _, rfl, l_even, c_even⟩⟩, PySem.W.mg_of X G a_even, k_even⟩
  have b_even : Binds K _ ["views"] [] := C8.Fun.binds D_even.fn rfl fun _ _ _ _ _ _ us hl => match us, hl with | [_], _ => rfl
  have D_common : C8.Def K mg "common" s_common _ _ := ⟨⟨⟨_, _, _, _, _, _, _, _, _, _, rfl, l_common, c_common⟩⟩, PySem.W.mg_of X G a_common, k_common⟩
  have b_common : Binds K _ ["ratios"] [] := C8.Fun.binds D_common.fn rfl fun _ _ _ _ _ _ us hl => match us, hl with | [_], _ => rfl
  have D_are_lots : C8.Def K mg "are_lots" s_are_lots _ _ := ⟨⟨⟨_, _, _, _, _, _, _, _, _, _, rfl, l_are_lots, c_are_lots⟩⟩, PySem.W.mg_of X G a_are_lots, k_are_lots⟩
  have b_are_lots : Binds K _ ["ratios"] [] := C8.Fun.binds D_are_lots.fn rfl fun _ _ _ _ _ _ us hl => match us, hl with | [_], _ => rfl
  have D_collect : C8.Def K mg "_collect" s_collect _ _ := ⟨⟨⟨_, _, _, _, _, _, _, _, _, _, rfl, l_collect, c_collect⟩⟩, PySem.W.mg_of X G a_collect, k_collect⟩
  have b_collect : Binds K _ ["tree", "player", "found"] [] := C8.Fun.binds D_collect.fn rfl fun _ _ _ _ _ _ us hl => match us, hl with | [_, _, _], _ => rfl
  have D_views_of : C8.Def K mg "views_of" s_views_of _ _ := ⟨⟨⟨_, _, _, _, _, _, _, _, _, _, rfl, l_views_of, c_views_of⟩⟩, PySem.W.mg_of X G a_views_of, k_views_of⟩
  have b_views_of : Binds K _ ["tree", "player"] [] := C8.Fun.binds D_views_of.fn rfl fun _ _ _ _ _ _ us hl => match us, hl with | [_, _], _ => rfl
  have D_law_cell : C8.Def K mg "_law_cell" s_law_cell _ _ := ⟨⟨⟨_, _, _, _, _, _, _, _, _, _, rfl, l_law_cell, c_law_cell⟩⟩, PySem.W.mg_of X G a_law_cell, k_law_cell⟩
  have b_law_cell : Binds K _ ["script", "k"] [] := C8.Fun.binds D_law_cell.fn rfl fun _ _ _ _ _ _ us hl => match us, hl with | [_, _], _ => rfl
  have D_law_row : C8.Def K mg "_law_row" s_law_row _ _ := ⟨⟨⟨_, _, _, _, _, _, _, _, _, _, rfl, l_law_row, c_law_row⟩⟩, PySem.W.mg_of X G a_law_row, k_law_row⟩
  have b_law_row : Binds K _ ["cell", "count", "size"] [] := C8.Fun.binds D_law_row.fn rfl fun _ _ _ _ _ _ us hl => match us, hl with | [_, _, _], _ => rfl
  have D_law_stages : C8.Def K mg "_law_stages" s_law_stages _ _ := ⟨⟨⟨_, _, _, _, _, _, _, _, _, _, rfl, l_law_stages, c_law_stages⟩⟩, PySem.W.mg_of X G a_law_stages, k_law_stages⟩
  have b_law_stages : Binds K _ ["script", "most"] [] := C8.Fun.binds D_law_stages.fn rfl fun _ _ _ _ _ _ us hl => match us, hl with | [_, _], _ => rfl
  have D_law_paths : C8.Def K mg "_law_paths" s_law_paths _ _ := ⟨⟨⟨_, _, _, _, _, _, _, _, _, _, rfl, l_law_paths, c_law_paths⟩⟩, PySem.W.mg_of X G a_law_paths, k_law_paths⟩
  have b_law_paths : Binds K _ ["stages"] [] := C8.Fun.binds D_law_paths.fn rfl fun _ _ _ _ _ _ us hl => match us, hl with | [_], _ => rfl
  have D_law_view : C8.Def K mg "_law_view" s_law_view _ _ := ⟨⟨⟨_, _, _, _, _, _, _, _, _, _, rfl, l_law_view, c_law_view⟩⟩, PySem.W.mg_of X G a_law_view, k_law_view⟩
  have b_law_view : Binds K _ ["stages", "path", "player"] [] := C8.Fun.binds D_law_view.fn rfl fun _ _ _ _ _ _ us hl => match us, hl with | [_, _, _], _ => rfl
  have D_law_asked : C8.Def K mg "_law_asked" s_law_asked _ _ := ⟨⟨⟨_, _, _, _, _, _, _, _, _, _, rfl, l_law_asked, c_law_asked⟩⟩, PySem.W.mg_of X G a_law_asked, k_law_asked⟩
  have b_law_asked : Binds K _ ["stages", "path"] [] := C8.Fun.binds D_law_asked.fn rfl fun _ _ _ _ _ _ us hl => match us, hl with | [_, _], _ => rfl
  have D_law_met : C8.Def K mg "_law_met" s_law_met _ _ := ⟨⟨⟨_, _, _, _, _, _, _, _, _, _, rfl, l_law_met, c_law_met⟩⟩, PySem.W.mg_of X G a_law_met, k_law_met⟩
  have b_law_met : Binds K _ ["stages", "player"] [] := C8.Fun.binds D_law_met.fn rfl fun _ _ _ _ _ _ us hl => match us, hl with | [_, _], _ => rfl
  have D_law_node : C8.Def K mg "_law_node" s_law_node _ _ := ⟨⟨⟨_, _, _, _, _, _, _, _, _, _, rfl, l_law_node, c_law_node⟩⟩, PySem.W.mg_of X G a_law_node, k_law_node⟩
  have b_law_node : Binds K _ ["stages", "paid", "path"] [] := C8.Fun.binds D_law_node.fn rfl fun _ _ _ _ _ _ us hl => match us, hl with | [_, _, _], _ => rfl
  have D_law_is : C8.Def K mg "_law_is" s_law_is _ _ := ⟨⟨⟨_, _, _, _, _, _, _, _, _, _, rfl, l_law_is, c_law_is⟩⟩, PySem.W.mg_of X G a_law_is, k_law_is⟩
  have b_law_is : Binds K _ ["actual", "due"] [] := C8.Fun.binds D_law_is.fn rfl fun _ _ _ _ _ _ us hl => match us, hl with | [_, _], _ => rfl
  have D_law_plans : C8.Def K mg "_law_plans" s_law_plans _ _ := ⟨⟨⟨_, _, _, _, _, _, _, _, _, _, rfl, l_law_plans, c_law_plans⟩⟩, PySem.W.mg_of X G a_law_plans, k_law_plans⟩
  have b_law_plans : Binds K _ ["views", "moves"] [] := C8.Fun.binds D_law_plans.fn rfl fun _ _ _ _ _ _ us hl => match us, hl with | [_, _], _ => rfl
  have D_law_strange : C8.Def K mg "_law_strange" s_law_strange _ _ := ⟨⟨⟨_, _, _, _, _, _, _, _, _, _, rfl, l_law_strange, c_law_strange⟩⟩, PySem.W.mg_of X G a_law_strange, k_law_strange⟩
  have b_law_strange : Binds K _ ["stages", "views", "player", "at"] [] := C8.Fun.binds D_law_strange.fn rfl fun _ _ _ _ _ _ us hl => match us, hl with | [_, _, _, _], _ => rfl
  have F_law : C8.Fun K "law" "law" s_law _ _ := ⟨⟨_, _, _, _, _, _, _, _, _, _, rfl, l_law, c_law⟩⟩
  refine ⟨PySem.W.fnOf "law" "law" (fnArgs s_law) (fnBody s_law) (fnScope s_law) .none kV_law dc_law pm_law an_law cd_law ct_law, fun s v => .of_eq rfl, fun base _ _ => ?_⟩
  have c_Ratio := ok_rat_init (P := l.prog) (w := w) (base := base) M_Ratio F_Ratio___init b1_Ratio___init v1_Ratio___init T
  have c_Ratio2 := ok_rat_init (P := l.prog) (w := w) (base := base) M_Ratio F_Ratio___init b2_Ratio___init v2_Ratio___init T
  have c_Ratio_eq := ok_req (P := l.prog) (w := w) (base := base) M_Ratio___eq F_Ratio___eq b_Ratio___eq T
  have c_common := ok_common (P := l.prog) (w := w) (base := base) D_common b_common T
  have c_are_lots := ok_are_lots D_are_lots b_are_lots T c_common
  have c_Plan := ok_plan M_Plan F_Plan___init b_Plan___init T c_are_lots
  have c_Plan_entries := ok_pentries (P := l.prog) (w := w) (base := base) M_Plan_entries F_Plan_entries b_Plan_entries T
  have c_End := ok_end (P := l.prog) (w := w) (base := base) M_End F_End___init b_End___init T
  have c_Lot := ok_lot (P := l.prog) (w := w) (base := base) M_Lot F_Lot___init b_Lot___init T
  have c_Turn := ok_turn (P := l.prog) (w := w) (base := base) M_Turn F_Turn___init b_Turn___init T
  have c_law_cell := ok_cell (P := l.prog) (w := w) (base := base) D_law_cell b_law_cell T
  have c_law_row := ok_row (P := l.prog) (w := w) (base := base) D_law_row b_law_row T
  have c_law_stages := ok_stages D_law_stages b_law_stages T c_law_cell c_law_row
  have c_law_paths := ok_paths (P := l.prog) (w := w) (base := base) D_law_paths b_law_paths T
  have c_law_view := ok_view (P := l.prog) (w := w) (base := base) D_law_view b_law_view T
  have c_law_asked := ok_asked D_law_asked b_law_asked T c_law_view
  have c_law_met := ok_met D_law_met b_law_met T c_law_paths c_law_asked
  have c_law_node := node_all D_law_node b_law_node T c_End c_Lot c_Turn c_law_asked 5
  have c_collect := collect_all (P := l.prog) (w := w) (base := base) D_collect b_collect T 5
  have c_views_of := ok_views_of D_views_of b_views_of T c_collect
  have c_pure := ok_pure D_pure b_pure T c_Ratio c_Plan
  have c_even := ok_even D_even b_even T c_Ratio2 c_Plan
  have c_fits := ok_fits D_fits b_fits T c_views_of c_Plan_entries
  have c_law_is := ok_is (P := l.prog) (w := w) (base := base) D_law_is b_law_is T
  have c_law_plans := ok_plans D_law_plans b_law_plans T c_Ratio c_Ratio2 c_Ratio_eq c_pure c_even c_Plan_entries
  have c_law_strange := ok_strange D_law_strange b_law_strange T c_law_met c_Ratio c_Ratio2
  exact ok_law F_law T c_law_stages c_law_paths c_law_node c_law_cell c_law_row c_law_met c_law_plans c_law_is c_law_strange c_fits c_pure c_even c_Plan c_Plan_entries
theorem walk {l : PySem.W.OpenLaw} {q : Program} {loose : List Str} {XP : (Str → Option Value) → Heap → Prop} {YP : World → Heap → Prop} {d : DefRec} {K : Params → PySem.W.Frag} (hn : l.most = some 63) (hdf : d.params.defaults = [])
    (hY : ∀ (w : World) (h : Heap), YP w h → (K w.params).In h)
    (F : ∀ (w : World) (mg : Str → Option Value) (fa : Addr) (h : Heap), (K w.params).In h → h.Ns mainGlobals mg → mg d.name = some (.ref fa) →
      ∃ fd : FuncData, (∀ (s : Shared) (u : Value), BindsTo s fd ⟨[u], []⟩ [("script", u)]) ∧ ∀ base : Heap, (K w.params).In base → base.Ns mainGlobals mg → FnOk l.prog w (K w.params) mg base C8.CX0 9 fa fd ["script"] (sp_law (K w.params))) :
    PySem.W.WalkO q loose XP YP l.row.toRowW d [] (fun f vs => PySem.call f vs) :=
  L2.walk_ofB (n := 63) (k := 9) (x := "script") (CX := fun _ => C8.CX0) (sp := fun w => sp_law (K w.params)) hn (by decide) hdf ⟨rfl, by decide, by decide⟩ hY F (fun _ _ a ns hl hb _ hS => ⟨a, ns, rfl, hS, fun _ => rfl⟩) fun _ _ _ _ _ z => z
end My
open PySem PySem.W PyProof.Rows
set_option maxRecDepth 100000 in
set_option maxHeartbeats 0 in
theorem PySem.Challenge.cw_bothgain_k42_pure_and_even_plans_holds : PySem.Challenge.rw_bothgain_k42_pure_and_even_plans.Holds := by
  w_on; o_law; k_head; (case hw => w_witness2)
  k_fill
  refine My.walk (l := PySem.Challenge.rw_bothgain_k42_pure_and_even_plans) rfl rfl (fun w h Y => PySem.W.kIn_of Y) ?F
  case F =>
    intro w mg fa h KX G hmg
    refine' My.all_mk KX G hmg ?a_pure ?l_pure ?c_pure ?k_pure ?a_fits ?l_fits ?c_fits ?k_fits ?a_even ?l_even ?c_even ?k_even ?a_common ?l_common ?c_common ?k_common ?a_are_lots ?l_are_lots ?c_are_lots ?k_are_lots ?a_collect ?l_collect ?c_collect ?k_collect ?a_views_of ?l_views_of ?c_views_of ?k_views_of ?a_law_cell ?l_law_cell ?c_law_cell ?k_law_cell ?a_law_row ?l_law_row ?c_law_row ?k_law_row ?a_law_stages ?l_law_stages ?c_law_stages ?k_law_stages ?a_law_paths ?l_law_paths ?c_law_paths ?k_law_paths ?a_law_view ?l_law_view ?c_law_view ?k_law_view ?a_law_asked ?l_law_asked ?c_law_asked ?k_law_asked ?a_law_met ?l_law_met ?c_law_met ?k_law_met ?a_law_node ?l_law_node ?c_law_node ?k_law_node ?a_law_is ?l_law_is ?c_law_is ?k_law_is ?a_law_plans ?l_law_plans ?c_law_plans ?k_law_plans ?a_law_strange ?l_law_strange ?c_law_strange ?k_law_strange ?a_law ?l_law ?c_law ?k_law ?mc_Ratio ?pg_Ratio ?hd_Ratio ?po_Ratio ?sa_Ratio ?mk_Ratio ?kc_Ratio ?ha_Ratio ?hn_Ratio ?ht_Ratio ?hm_Ratio ?nnum_Ratio ?nden_Ratio ?mc_Plan ?pg_Plan ?hd_Plan ?po_Plan ?sa_Plan ?mk_Plan ?kc_Plan ?ha_Plan ?hn_Plan ?ht_Plan ?hm_Plan ?ntable_Plan ?mc_End ?pg_End ?hd_End ?po_End ?sa_End ?mk_End ?kc_End ?ha_End ?hn_End ?ht_End ?hm_End ?npaid_End ?mc_Lot ?pg_Lot ?hd_Lot ?po_Lot ?sa_Lot ?mk_Lot ?kc_Lot ?ha_Lot ?hn_Lot ?ht_Lot ?hm_Lot ?nparts_Lot ?mc_Turn ?pg_Turn ?hd_Turn ?po_Turn ?sa_Turn ?mk_Turn ?kc_Turn ?ha_Turn ?hn_Turn ?ht_Turn ?hm_Turn ?nplayer_Turn ?nview_Turn ?nparts_Turn ?a_Ratio___init ?i_Ratio___init ?l_Ratio___init ?c_Ratio___init ?k_Ratio___init ?lT_Ratio___init ?a_Plan___init ?i_Plan___init ?l_Plan___init ?c_Plan___init ?k_Plan___init ?a_Plan_entries ?i_Plan_entries ?l_Plan_entries ?c_Plan_entries ?k_Plan_entries ?a_End___init ?i_End___init ?l_End___init ?c_End___init ?k_End___init ?a_Lot___init ?i_Lot___init ?l_Lot___init ?c_Lot___init ?k_Lot___init ?a_Turn___init ?i_Turn___init ?l_Turn___init ?c_Turn___init ?k_Turn___init ?a_Ratio___eq ?i_Ratio___eq ?l_Ratio___eq ?c_Ratio___eq ?k_Ratio___eq ?hkLE ?hkTE ?hkTL ?hkLT ?hnR ?z_gcd ?z_lcm ?z_all ?z_bool ?z_dict ?z_enumerate ?z_int ?z_isinstance ?z_len ?z_list ?z_range ?z_sum ?z_tuple ?z_zip
    (case a_pure => k_is)
    (case l_pure => k_is)
    (case c_pure => k_is)
    (case k_pure => k_is)
    (case a_fits => k_is)
    (case l_fits => k_is)
    (case c_fits => k_is)
    (case k_fits => k_is)
    (case a_even => k_is)
    (case l_even => k_is)
    (case c_even => k_is)
    (case k_even => k_is)
    (case a_common => k_is)
    (case l_common => k_is)
    (case c_common => k_is)
    (case k_common => k_is)
    (case a_are_lots => k_is)
    (case l_are_lots => k_is)
    (case c_are_lots => k_is)
    (case k_are_lots => k_is)
    (case a_collect => k_is)
    (case l_collect => k_is)
    (case c_collect => k_is)
    (case k_collect => k_is)
    (case a_views_of => k_is)
    (case l_views_of => k_is)
    (case c_views_of => k_is)
    (case k_views_of => k_is)
    (case a_law_cell => k_is)
    (case l_law_cell => k_is)
    (case c_law_cell => k_is)
    (case k_law_cell => k_is)
    (case a_law_row => k_is)
    (case l_law_row => k_is)
    (case c_law_row => k_is)
    (case k_law_row => k_is)
    (case a_law_stages => k_is)
    (case l_law_stages => k_is)
    (case c_law_stages => k_is)
    (case k_law_stages => k_is)
    (case a_law_paths => k_is)
    (case l_law_paths => k_is)
    (case c_law_paths => k_is)
    (case k_law_paths => k_is)
    (case a_law_view => k_is)
    (case l_law_view => k_is)
    (case c_law_view => k_is)
    (case k_law_view => k_is)
    (case a_law_asked => k_is)
    (case l_law_asked => k_is)
    (case c_law_asked => k_is)
    (case k_law_asked => k_is)
    (case a_law_met => k_is)
    (case l_law_met => k_is)
    (case c_law_met => k_is)
    (case k_law_met => k_is)
    (case a_law_node => k_is)
    (case l_law_node => k_is)
    (case c_law_node => k_is)
    (case k_law_node => k_is)
    (case a_law_is => k_is)
    (case l_law_is => k_is)
    (case c_law_is => k_is)
    (case k_law_is => k_is)
    (case a_law_plans => k_is)
    (case l_law_plans => k_is)
    (case c_law_plans => k_is)
    (case k_law_plans => k_is)
    (case a_law_strange => k_is)
    (case l_law_strange => k_is)
    (case c_law_strange => k_is)
    (case k_law_strange => k_is)
    (case a_law => k_is)
    (case l_law => k_is)
    (case c_law => k_is)
    (case k_law => k_is)
    (case mc_Ratio => k_is)
    (case pg_Ratio => k_is)
    (case hd_Ratio => k_is)
    (case po_Ratio => k_is)
    (case sa_Ratio => k_is)
    (case mk_Ratio => k_is)
    (case kc_Ratio => k_is)
    (case ha_Ratio => k_is)
    (case hn_Ratio => k_is)
    (case ht_Ratio => k_is)
    (case hm_Ratio => k_is)
    (case nnum_Ratio => k_is)
    (case nden_Ratio => k_is)
    (case mc_Plan => k_is)
    (case pg_Plan => k_is)
    (case hd_Plan => k_is)
    (case po_Plan => k_is)
    (case sa_Plan => k_is)
    (case mk_Plan => k_is)
    (case kc_Plan => k_is)
    (case ha_Plan => k_is)
    (case hn_Plan => k_is)
    (case ht_Plan => k_is)
    (case hm_Plan => k_is)
    (case ntable_Plan => k_is)
    (case mc_End => k_is)
    (case pg_End => k_is)
    (case hd_End => k_is)
    (case po_End => k_is)
    (case sa_End => k_is)
    (case mk_End => k_is)
    (case kc_End => k_is)
    (case ha_End => k_is)
    (case hn_End => k_is)
    (case ht_End => k_is)
    (case hm_End => k_is)
    (case npaid_End => k_is)
    (case mc_Lot => k_is)
    (case pg_Lot => k_is)
    (case hd_Lot => k_is)
    (case po_Lot => k_is)
    (case sa_Lot => k_is)
    (case mk_Lot => k_is)
    (case kc_Lot => k_is)
    (case ha_Lot => k_is)
    (case hn_Lot => k_is)
    (case ht_Lot => k_is)
    (case hm_Lot => k_is)
    (case nparts_Lot => k_is)
    (case mc_Turn => k_is)
    (case pg_Turn => k_is)
    (case hd_Turn => k_is)
    (case po_Turn => k_is)
    (case sa_Turn => k_is)
    (case mk_Turn => k_is)
    (case kc_Turn => k_is)
    (case ha_Turn => k_is)
    (case hn_Turn => k_is)
    (case ht_Turn => k_is)
    (case hm_Turn => k_is)
    (case nplayer_Turn => k_is)
    (case nview_Turn => k_is)
    (case nparts_Turn => k_is)
    (case a_Ratio___init => k_is)
    (case i_Ratio___init => k_is)
    (case l_Ratio___init => k_is)
    (case c_Ratio___init => k_is)
    (case k_Ratio___init => k_is)
    (case lT_Ratio___init => k_is)
    (case a_Plan___init => k_is)
    (case i_Plan___init => k_is)
    (case l_Plan___init => k_is)
    (case c_Plan___init => k_is)
    (case k_Plan___init => k_is)
    (case a_Plan_entries => k_is)
    (case i_Plan_entries => k_is)
    (case l_Plan_entries => k_is)
    (case c_Plan_entries => k_is)
    (case k_Plan_entries => k_is)
    (case a_End___init => k_is)
    (case i_End___init => k_is)
    (case l_End___init => k_is)
    (case c_End___init => k_is)
    (case k_End___init => k_is)
    (case a_Lot___init => k_is)
    (case i_Lot___init => k_is)
    (case l_Lot___init => k_is)
    (case c_Lot___init => k_is)
    (case k_Lot___init => k_is)
    (case a_Turn___init => k_is)
    (case i_Turn___init => k_is)
    (case l_Turn___init => k_is)
    (case c_Turn___init => k_is)
    (case k_Turn___init => k_is)
    (case a_Ratio___eq => k_is)
    (case i_Ratio___eq => k_is)
    (case l_Ratio___eq => k_is)
    (case c_Ratio___eq => k_is)
    (case k_Ratio___eq => k_is)
    (case hkLE => first | k_is | kit_is | rfl | decide +kernel)
    (case hkTE => first | k_is | kit_is | rfl | decide +kernel)
    (case hkTL => first | k_is | kit_is | rfl | decide +kernel)
    (case hkLT => first | k_is | kit_is | rfl | decide +kernel)
    (case hnR => first | k_is | kit_is | rfl | decide +kernel)
    (case z_gcd => k_is)
    (case z_lcm => k_is)
    (case z_all => k_is)
    (case z_bool => k_is)
    (case z_dict => k_is)
    (case z_enumerate => k_is)
    (case z_int => k_is)
    (case z_isinstance => k_is)
    (case z_len => k_is)
    (case z_list => k_is)
    (case z_range => k_is)
    (case z_sum => k_is)
    (case z_tuple => k_is)
    (case z_zip => k_is)

