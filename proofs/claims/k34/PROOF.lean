
import PyProof.Rows.All
import Wide.All
import OpenK.AllK
import Wide.FinOn
import HandS.ForMost
import HandS.Codes
import HandS.IsInst
import HandS.EndBits
import HandS.Walk
import HandS.DeepEq
import HandS.Style
import HandS.TupAny
import PySem.Challenge.RW_bothgain_k34_last_rows_and_ways
set_option Elab.async false
set_option linter.all false
set_option maxRecDepth 100000
set_option maxHeartbeats 4000000

namespace My
open PySem L2 C8 SX
/-! own base: tests, heaps -/
theorem bo_len : bootBuiltins "len" = some (.builtin "len") := by decide +kernel
theorem bo_isinstance : bootBuiltins "isinstance" = some (.builtin "isinstance") := by decide +kernel
theorem bo_min : bootBuiltins "min" = some (.builtin "min") := by decide +kernel
theorem bo_max : bootBuiltins "max" = some (.builtin "max") := by decide +kernel
theorem bo_abs : bootBuiltins "abs" = some (.builtin "abs") := by decide +kernel
theorem bo_int : bootBuiltins "int" = some (.type "int") := by decide +kernel
theorem bo_str : bootBuiltins "str" = some (.type "str") := by decide +kernel
theorem bo_bool : bootBuiltins "bool" = some (.type "bool") := by decide +kernel
theorem bo_list : bootBuiltins "list" = some (.type "list") := by decide +kernel
theorem bo_tuple : bootBuiltins "tuple" = some (.type "tuple") := by decide +kernel
theorem iteD {p A B : Prop} [Decidable p] (h1 : p → A) (h2 : ¬ p → B) : if decide p = true then A else B := by
  by_cases h : p
  · rw [decide_eq_true h]; exact iteT (h1 h)
  · rw [decide_eq_false h]; exact iteF (h2 h)
theorem iteN {p A B : Prop} [Decidable p] (h1 : ¬ p → A) (h2 : p → B) : if (!decide p) = true then A else B := by
  by_cases h : p
  · rw [decide_eq_true h]; exact iteF (h2 h)
  · rw [decide_eq_false h]; exact iteT (h1 h)
theorem iteDT {p A B : Prop} [Decidable p] (h : p) (k : A) : if decide p = true then A else B := iteD (fun _ => k) fun z => absurd h z
theorem iteDF {p A B : Prop} [Decidable p] (h : ¬ p) (k : B) : if decide p = true then A else B := iteD (fun z => absurd z h) fun _ => k
theorem iteNT {p A B : Prop} [Decidable p] (h : ¬ p) (k : A) : if (!decide p) = true then A else B := iteN (fun _ => k) fun z => absurd z h
theorem iteNF {p A B : Prop} [Decidable p] (h : p) (k : B) : if (!decide p) = true then A else B := iteN (fun z => absurd h z) fun _ => k
theorem iteB {b : Bool} {A B : Prop} (h1 : b = true → A) (h2 : b = false → B) : if b = true then A else B := by
  cases b with
  | true => exact iteT (h1 rfl)
  | false => exact iteF (h2 rfl)
/-- in a comprehension without a test -/
theorem yes_then {σ : St} {H : Hp} {F G : Hp → Prop} (h : F H) : tYes σ H (fun b H3 => if b = true then F H3 else G H3) := h
/-- all that was tracked stands, but at W -/
def Keep (W : List Addr) (H H' : Hp) : Prop := ∀ b o, H b = some o → b ∉ W → H' b = some o
theorem Keep.refl (W : List Addr) (H : Hp) : Keep W H H := fun _ _ h _ => h
theorem Keep.trans {W : List Addr} {H H1 H2 : Hp} (a : Keep W H H1) (b : Keep W H1 H2) : Keep W H H2 := fun c o h w => b c o (a c o h w) w
theorem Keep.mono {W W' : List Addr} {H H1 : Hp} (a : Keep W H H1) (h : ∀ b, b ∈ W → b ∈ W') : Keep W' H H1 := fun c o q w => a c o q fun z => w (h c z)
theorem Keep.new {W : List Addr} {H : Hp} {p : Addr} {o : HO} (h : H p = none) : Keep W H (upd H p o) := fun b u q _ => by
  rw [upd_ne (ne_of_none q h)]; exact q
theorem Keep.at_ {W : List Addr} {H : Hp} {p : Addr} {o : HO} (h : p ∈ W) : Keep W H (upd H p o) := fun b u q w => by
  rw [upd_ne (fun z => w (by rw [z]; exact h))]; exact q
theorem Keep.then_new {W : List Addr} {H H1 : Hp} {p : Addr} {o : HO} (a : Keep W H H1) (h : H1 p = none) : Keep W H (upd H1 p o) := a.trans (Keep.new h)
theorem Keep.then_at {W : List Addr} {H H1 : Hp} {p : Addr} {o : HO} (a : Keep W H H1) (h : p ∈ W) : Keep W H (upd H1 p o) := a.trans (Keep.at_ h)
/-- what was new since H is not among the kept -/
theorem Keep.then_own {W : List Addr} {H H1 : Hp} {p : Addr} {o : HO} (a : Keep W H H1) (h : H p = none) : Keep W H (upd H1 p o) := fun b u q w => by
  rw [upd_ne (ne_of_none q h)]; exact a b u q w
theorem Keep.free {H H' : Hp} (e : Keep [] H H') {l : Addr} (h : H' l = none) : H l = none := by
  cases q : H l with
  | none => rfl
  | some o => rw [e l o q (by simp)] at h; cases h
theorem Keep.free1 {H H' : Hp} {p : Addr} {o : HO} (e : Keep [p] H H') (hp : H' p = some o) {l : Addr} (h : H' l = none) : H l = none := by
  cases q : H l with
  | none => rfl
  | some u =>
    by_cases z : l = p
    · subst z; rw [hp] at h; cases h
    · rw [e l u q (by simpa using z)] at h; cases h
theorem Keep.seqL {W : List Addr} {K : PySem.W.Frag} {H H' : Hp} {a : Addr} {xs : List V} (e : Keep W H H') (h : SqL K H a xs) (w : a ∉ W) : SqL K H' a xs := by
  rcases h with (h | ⟨o, h⟩) | h
  · exact .inl (.inl (e _ _ h w))
  · exact .inl (.inr ⟨o, e _ _ h w⟩)
  · exact .inr h
theorem Keep.seqT {W : List Addr} {K : PySem.W.Frag} {H H' : Hp} {a : Addr} {xs : List V} (e : Keep W H H') (h : SqT K H a xs) (w : a ∉ W) : SqT K H' a xs := by
  rcases h with (h | ⟨o, h⟩) | h
  · exact .inl (.inl (e _ _ h w))
  · exact .inl (.inr ⟨o, e _ _ h w⟩)
  · exact .inr h
theorem Keep.same {H H' : Hp} (e : Keep [] H H') : Same H H' := fun b o h => e b o h (by simp)
theorem ints_get {ns : List Int} {i : Nat} {v : V} (h : (ns.map V.int)[i]? = some v) : ∃ z, ns[i]? = some z ∧ v = V.int z := by
  rw [List.getElem?_map] at h
  cases e : ns[i]? with
  | none => rw [e] at h; cases h
  | some z => rw [e] at h; exact ⟨z, rfl, (Option.some.inj h).symm⟩
theorem strs_get {ns : List Str} {i : Nat} {v : V} (h : (ns.map V.str)[i]? = some v) : ∃ z, ns[i]? = some z ∧ v = V.str z := by
  rw [List.getElem?_map] at h
  cases e : ns[i]? with
  | none => rw [e] at h; cases h
  | some z => rw [e] at h; exact ⟨z, rfl, (Option.some.inj h).symm⟩
theorem smallM {n : Nat} (h : n ≤ 1000000) : n ≤ sizeLine := Nat.le_trans h (by decide)
theorem smallL {n : Nat} (h : n ≤ 1000000) : n < sizeLine := Nat.lt_of_le_of_lt h (by decide)
/-- a promise that asks the impossible: any def at all keeps it -/
def spNo : Sp := fun _ _ _ _ => False

/-! the text by places -/
def top (i : Nat) : Stmt := PySem.Challenge.pw_bothgain_k34_last_rows_and_ways.main.body.getD i (.Pass ⟨0, 0, 0, 0⟩)
abbrev s_last_row : Stmt := top 1
theorem sc_last_row : FnScope ["view", "index"] ["view"] (fnScope s_last_row) := fnScope_by (by decide +kernel)
abbrev s_way_to : Stmt := top 2
theorem sc_way_to : FnScope ["view", "rows", "row"] ["view"] (fnScope s_way_to) := fnScope_by (by decide +kernel)
abbrev s_law_cell : Stmt := top 4
theorem sc_law_cell : FnScope ["script", "k"] ["script", "k"] (fnScope s_law_cell) := fnScope_by (by decide +kernel)
abbrev s_law_is_integer : Stmt := top 5
theorem sc_law_is_integer : FnScope ["actual"] ["actual"] (fnScope s_law_is_integer) := fnScope_by (by decide +kernel)
abbrev s_law_is_row : Stmt := top 6
theorem sc_law_is_row : FnScope ["actual", "due"] ["actual", "due"] (fnScope s_law_is_row) := fnScope_by (by decide +kernel)
abbrev s_law_are_rows : Stmt := top 7
theorem sc_law_are_rows : FnScope ["actual", "due", "k"] ["actual", "due"] (fnScope s_law_are_rows) := fnScope_by (by decide +kernel)
abbrev s_law : Stmt := top 8
theorem sc_law : FnScope ["script", "view", "rows", "cell", "count", "move", "way", "due", "turn", "told", "place", "earlier"] ["script"] (fnScope s_law) := fnScope_by (by decide +kernel)
/-- what the walk asks of the module -/
structure Txt (K : PySem.W.Frag) (mg : Str → Option Value) : Prop where
  n_abs : mg "abs" = none
  n_bool : mg "bool" = none
  n_int : mg "int" = none
  n_isinstance : mg "isinstance" = none
  n_len : mg "len" = none
  n_list : mg "list" = none
  n_max : mg "max" = none
  n_range : mg "range" = none
  n_tuple : mg "tuple" = none
  ok : True
/-! data of tuples: what never changes -/
mutual
inductive TD (H : Hp) : V → PyData → Prop
  | non : TD H .non .none
  | bl (b : Bool) : TD H (.bl b) (.bool b)
  | int (i : Int) : TD H (.int i) (.int i)
  | str (x : Str) : TD H (.str x) (.str x)
  | tup {a : Addr} {xs : List V} {ds : List PyData} : H a = some (.tup xs) → TDs H xs ds → TD H (.ref a) (.tuple ds)
inductive TDs (H : Hp) : List V → List PyData → Prop
  | nil : TDs H [] []
  | cons {v : V} {vs : List V} {d : PyData} {ds : List PyData} : TD H v d → TDs H vs ds → TDs H (v :: vs) (d :: ds)
end
/-- tuples stand -/
def TK (H H' : Hp) : Prop := ∀ b xs, H b = some (.tup xs) → H' b = some (.tup xs)
theorem TK.refl (H : Hp) : TK H H := fun _ _ h => h
theorem TK.trans {H H1 H2 : Hp} (a : TK H H1) (b : TK H1 H2) : TK H H2 := fun c xs h => b c xs (a c xs h)
theorem TK.new {H : Hp} {p : Addr} {o : HO} (h : H p = none) : TK H (upd H p o) := fun b xs q => by rw [upd_ne (ne_of_none q h)]; exact q
theorem TK.lst {H : Hp} {p : Addr} {o : HO} {ys : List V} (h : H p = some (.lst ys)) : TK H (upd H p o) := fun b xs q => by
  rw [upd_ne (ne_of q h (by intro z; cases z))]; exact q
theorem Keep.tk {H H' : Hp} (k : Keep [] H H') : TK H H' := fun b xs q => k b _ q (by simp)
theorem Keep.tk1 {H H' : Hp} {p : Addr} {ys : List V} (k : Keep [p] H H') (h : H p = some (.lst ys)) : TK H H' := fun b xs q => k b _ q (by
  have := ne_of q h (by intro z; cases z)
  simpa using this)
mutual
theorem TD.tk {H H' : Hp} (k : TK H H') : ∀ {d : PyData} {v : V}, TD H v d → TD H' v d
  | _, _, .non => .non
  | _, _, .bl b => .bl b
  | _, _, .int i => .int i
  | _, _, .str x => .str x
  | _, _, .tup h t => .tup (k _ _ h) (TDs.tk k t)
theorem TDs.tk {H H' : Hp} (k : TK H H') : ∀ {ds : List PyData} {vs : List V}, TDs H vs ds → TDs H' vs ds
  | _, _, .nil => .nil
  | _, _, .cons h t => .cons (TD.tk k h) (TDs.tk k t)
end
mutual
theorem TD.dp {K : PySem.W.Frag} {H : Hp} : ∀ {d : PyData} {v : V}, TD H v d → Dp K H v d
  | _, _, .non => .non
  | _, _, .bl b => .bl b
  | _, _, .int i => .int i
  | _, _, .str x => .str x
  | _, _, .tup h t => .tup (SqT.of h) (TDs.dp t)
theorem TDs.dp {K : PySem.W.Frag} {H : Hp} : ∀ {ds : List PyData} {vs : List V}, TDs H vs ds → DpAll K H vs ds
  | _, _, .nil => .nil
  | _, _, .cons h t => .cons (TD.dp h) (TDs.dp t)
end
theorem TDs.length {H : Hp} : ∀ {vs : List V} {ds : List PyData}, TDs H vs ds → vs.length = ds.length
  | _, _, .nil => rfl
  | _, _, .cons _ t => by rw [List.length_cons, List.length_cons, t.length]
theorem TDs.get {H : Hp} : ∀ {vs : List V} {ds : List PyData}, TDs H vs ds → ∀ {i : Nat} {d : PyData}, ds[i]? = some d → ∃ v, vs[i]? = some v ∧ TD H v d
  | _, _, .nil, i, d, e => by simp at e
  | _, _, .cons h t, 0, d, e => by simp at e; subst e; exact ⟨_, rfl, h⟩
  | _, _, .cons h t, i + 1, d, e => by
    obtain ⟨v, h1, h2⟩ := t.get (i := i) (by simpa using e)
    exact ⟨v, by simpa using h1, h2⟩
theorem TDs.append {H : Hp} : ∀ {vs ws : List V} {ds es : List PyData}, TDs H vs ds → TDs H ws es → TDs H (vs ++ ws) (ds ++ es)
  | _, _, _, _, .nil, s => s
  | _, _, _, _, .cons h t, s => .cons h (t.append s)
theorem TDs.take {H : Hp} : ∀ {vs : List V} {ds : List PyData} (n : Nat), TDs H vs ds → TDs H (vs.take n) (ds.take n)
  | _, _, 0, _ => .nil
  | _, _, _ + 1, .nil => .nil
  | _, _, n + 1, .cons h t => .cons h (t.take n)
theorem TDs.reverse {H : Hp} : ∀ {vs : List V} {ds : List PyData}, TDs H vs ds → TDs H vs.reverse ds.reverse
  | _, _, .nil => .nil
  | _, _, .cons h t => by rw [List.reverse_cons, List.reverse_cons]; exact t.reverse.append (.cons h .nil)
theorem TDs.snoc {H : Hp} {vs : List V} {ds : List PyData} {v : V} {d : PyData} (t : TDs H vs ds) (h : TD H v d) : TDs H (vs ++ [v]) (ds ++ [d]) := t.append (.cons h .nil)
theorem TDs.nil_of {H : Hp} {vs : List V} (t : TDs H vs []) : vs = [] := by cases t; rfl
/-! events and views -/
abbrev Ev := Str × List Int
def dEv (e : Ev) : PyData := .tuple (.str e.1 :: e.2.map PyData.int)
def dView (L : List Ev) : PyData := .tuple (L.map dEv)
abbrev Row := List Ev × Int
def dRow (r : Row) : PyData := .tuple [dView r.1, .int r.2]
def dRowO : Option Row → PyData
  | none => .none
  | some r => dRow r
theorem td_ints {H : Hp} : ∀ l : List Int, TDs H (l.map V.int) (l.map PyData.int)
  | [] => .nil
  | a :: r => .cons (.int a) (td_ints r)
def isDid (e : Ev) : Bool := decide (e.1 = "did")
def lastR : List Ev → Option Row
  | [] => none
  | e :: r => if isDid e = true then some (r.reverse, e.2.headD 0) else lastR r
def lastRow (L : List Ev) : Option Row := lastR L.reverse
def rowsR : List Ev → List Row
  | [] => []
  | e :: r => if isDid e = true then rowsR r ++ [(r.reverse, e.2.headD 0)] else rowsR r
theorem rowsR_cons (e : Ev) (r : List Ev) : rowsR (e :: r) = if isDid e = true then rowsR r ++ [(r.reverse, e.2.headD 0)] else rowsR r := rfl
theorem lastR_cons (e : Ev) (r : List Ev) : lastR (e :: r) = if isDid e = true then some (r.reverse, e.2.headD 0) else lastR r := rfl
def allRows (L : List Ev) : List Row := rowsR L.reverse
theorem allRows_snoc (L : List Ev) (e : Ev) : allRows (L ++ [e]) = if isDid e = true then allRows L ++ [(L, e.2.headD 0)] else allRows L := by
  unfold allRows
  rw [List.reverse_append]
  show rowsR (e :: L.reverse) = _
  rw [rowsR, List.reverse_reverse]
theorem lastR_rows : ∀ (R : List Ev), rowsR R = (match lastR R with | none => [] | some (V, k) => rowsR V.reverse ++ [(V, k)])
  | [] => rfl
  | e :: r => by
    rw [rowsR_cons, lastR_cons]
    by_cases h : isDid e = true
    · rw [if_pos h, if_pos h]; simp only [List.reverse_reverse]
    · rw [if_neg h, if_neg h]; exact lastR_rows r
theorem lastRow_rows (L : List Ev) : allRows L = (match lastRow L with | none => [] | some (V, k) => allRows V ++ [(V, k)]) := lastR_rows L.reverse
theorem lastR_len : ∀ (R : List Ev) {V : List Ev} {k : Int}, lastR R = some (V, k) → V.length < R.length
  | [], V, k, h => by cases h
  | e :: r, V, k, h => by
    rw [lastR_cons] at h
    by_cases g : isDid e = true
    · rw [if_pos g] at h
      cases h
      simp
    · rw [if_neg g] at h
      have := lastR_len r h
      simp; omega
theorem lastRow_len {L V : List Ev} {k : Int} (h : lastRow L = some (V, k)) : V.length < L.length := by
  have := lastR_len _ h
  simpa using this
theorem lastRow_last (L : List Ev) : lastRow L = (allRows L).getLast? := by
  rw [lastRow_rows]
  cases h : lastRow L with
  | none => rfl
  | some x => simp
theorem rowsR_take : ∀ (R : List Ev) {j : Nat} {V : List Ev} {k : Int}, (rowsR R)[j]? = some (V, k) → rowsR V.reverse = (rowsR R).take j
  | [], j, V, k, h => by simp [rowsR] at h
  | e :: r, j, V, k, h => by
    rw [rowsR_cons] at h ⊢
    by_cases g : isDid e = true
    · rw [if_pos g] at h ⊢
      by_cases hj : j < (rowsR r).length
      · rw [List.getElem?_append_left hj] at h
        rw [List.take_append_of_le_length (Nat.le_of_lt hj)]
        exact rowsR_take r h
      · have hj' : j = (rowsR r).length := by
          have := (List.getElem?_eq_some_iff.mp h).1
          rw [List.length_append] at this
          simp at this; omega
        subst hj'
        rw [List.getElem?_append_right (Nat.le_refl _), Nat.sub_self] at h
        have e1 : r.reverse = V := congrArg Prod.fst (Option.some.inj h)
        rw [← e1, List.reverse_reverse, List.take_left]
    · rw [if_neg g] at h ⊢
      exact rowsR_take r h
theorem allRows_take {L : List Ev} {j : Nat} {V : List Ev} {k : Int} (h : (allRows L)[j]? = some (V, k)) : allRows V = (allRows L).take j := rowsR_take _ h
theorem rowsR_mem : ∀ (R : List Ev) {V : List Ev} {k : Int}, (V, k) ∈ rowsR R → ∃ M, R.reverse = V ++ M
  | [], V, k, h => by cases h
  | e :: r, V, k, h => by
    rw [rowsR_cons] at h
    rw [List.reverse_cons]
    by_cases g : isDid e = true
    · rw [if_pos g] at h
      rcases List.mem_append.mp h with h | h
      · obtain ⟨M, e1⟩ := rowsR_mem r h
        exact ⟨M ++ [e], by rw [e1, List.append_assoc]⟩
      · have := List.mem_singleton.mp h
        cases this
        exact ⟨[e], rfl⟩
    · rw [if_neg g] at h
      obtain ⟨M, e1⟩ := rowsR_mem r h
      exact ⟨M ++ [e], by rw [e1, List.append_assoc]⟩
theorem allRows_mem {L V : List Ev} {k : Int} (h : (V, k) ∈ allRows L) : ∃ M, L = V ++ M := by
  obtain ⟨M, e⟩ := rowsR_mem _ h
  exact ⟨M, by rw [← e, List.reverse_reverse]⟩
theorem rowsR_len : ∀ R : List Ev, (rowsR R).length ≤ R.length
  | [] => Nat.le_refl _
  | e :: r => by
    have h := rowsR_len r
    rw [rowsR_cons]
    split
    · rw [List.length_append]; simp; omega
    · simp; omega
theorem allRows_len (L : List Ev) : (allRows L).length ≤ L.length := by
  have h := rowsR_len L.reverse
  rw [List.length_reverse] at h
  exact h
/-- every move made tells it -/
def Good (L : List Ev) : Prop := ∀ e ∈ L, isDid e = true → e.2 ≠ []
theorem Good.pre {L V M : List Ev} (g : Good L) (h : L = V ++ M) : Good V := fun e he => g e (by rw [h]; exact List.mem_append_left _ he)
theorem lastRow_pre {L V : List Ev} {k : Int} (h : lastRow L = some (V, k)) : ∃ M, L = V ++ M := by
  refine allRows_mem (k := k) ?_
  rw [lastRow_rows, h]
  simp
def sp_last_row : Sp := fun vs H Q _ => ∃ (v : V) (L : List Ev), vs = [v] ∧ TD H v (dView L) ∧ L.length ≤ 100000 ∧ Good L ∧ ∀ r H', Keep [] H H' → TD H' r (dRowO (lastRow L)) → Q r H'
theorem td_view {H : Hp} {v : V} {ds : List PyData} (h : TD H v (.tuple ds)) : ∃ a xs, v = .ref a ∧ H a = some (.tup xs) ∧ TDs H xs ds := by
  cases h with
  | tup h t => exact ⟨_, _, rfl, h, t⟩

section
variable {P : Program} {w : World} {K : PySem.W.Frag} {mg : Str → Option Value} {base : Heap}
theorem ok_last_row {f : Addr} {fd : FuncData} (D : C8.Def K mg "last_row" s_last_row f fd) (b : Binds K fd ["view"] []) (T : Txt K mg) : C8.Cal P w K mg base 1 "last_row" sp_last_row [] := by
  refine cal0 D b .nil sc_last_row (fun vs H Q E h => ?_) (fun cdv A outer s H vs Q E hr h => ?_)
  · obtain ⟨v, L, rfl, _⟩ := h
    rfl
  · obtain ⟨v, L, rfl, hv, hn, hg, k⟩ := h
    obtain ⟨a, xs, rfl, ha, ht⟩ := td_view hv
    have hlen : xs.length = L.length := by rw [ht.length, List.length_map]
    have hrg : RgC ((xs.length : Int) - 1) (-1) (-1) L.length := by
      have z := RgC.neg (i := (xs.length : Int) - 1) (j := -1) (by omega) (by omega) (by decide) (by decide)
      have e : ((xs.length : Int) - 1 - -1).toNat = L.length := by omega
      rw [e] at z; exact z
    refine ⟨_, (pss_cons (ps_for PassesOwn.never rfl (pi_range3 (by rfl) T.n_range (pa_cons (pe_op op_sub (pe_callB call_len_seq (by rfl) T.n_len bo_len (pa_cons (pv 0) pa_nil)) pe_int) (pa_cons (pe_un un_neg pe_int) (pa_cons (pe_un un_neg pe_int) pa_nil)))) (pg_name (i := 1) sc_last_row.nd rfl (by first | exact Or.inl rfl | exact Or.inr rfl))
  (pss_one (ps_if (pt_cmpR op_eq (pe_ix ix_tup (pe_ix ix_tup (pv 0) (pv 1) (fun _ _ => rfl)) pe_int (fun _ _ => rfl)) pe_str (nomark _))
    (pss_one (ps_ret (pe_tup (pa_cons (pe_slice sl_tup (pv 0) po_none (po_some (pv 1))) (pa_cons (pe_ix ix_tup (pe_ix ix_tup (pv 0) (pv 1) (fun _ _ => rfl)) pe_int (fun _ _ => rfl)) pa_nil)))))
    pss_nil)))
(pss_one (ps_ret pe_non))), ?_⟩
    refine ⟨_, rfl, _, _, rfl, .inr (SqT.of ha), _, _, rfl, rfl, _, rfl, _, rfl, _, _, _, L.length, rfl, hrg, for_rangeC (lo := (xs.length : Int) - 1) (c := -1) (n := L.length)
      (fun i σ H' => ∃ v2, σ = [some (.ref a), v2] ∧ H' = H ∧ lastRow L = lastRow (L.take (L.length - i))) ⟨none, rfl, rfl, by rw [Nat.sub_zero, List.take_length]⟩ ?_ ?_⟩
    · rintro i σ H' hi ⟨v2, rfl, rfl, hL⟩
      obtain ⟨m, hm⟩ : ∃ m, L.length - i = m + 1 := ⟨L.length - i - 1, by omega⟩
      have hmL : m < L.length := by omega
      have e1 : (xs.length : Int) - 1 + (i : Nat) * -1 = (m : Int) := by omega
      rw [e1]
      have hLm : L[m]? = some L[m] := List.getElem?_eq_getElem hmL
      obtain ⟨x, hx, hd⟩ := ht.get (i := m) (d := dEv L[m]) (by rw [List.getElem?_map, hLm]; rfl)
      obtain ⟨ea, es, rfl, he, hes⟩ := td_view hd
      obtain ⟨x0, h0, d0⟩ := hes.get (i := 0) (d := .str L[m].1) rfl
      cases d0
      have etake : (L.take (m + 1)).reverse = L[m] :: (L.take m).reverse := by
        rw [List.take_add_one, hLm]; simp
      have elast : lastRow L = if isDid L[m] = true then some (L.take m, L[m].2.headD 0) else lastRow (L.take m) := by
        rw [hL, hm]
        unfold lastRow
        rw [etake]
        show (if isDid L[m] = true then some ((L.take m).reverse.reverse, L[m].2.headD 0) else lastR (L.take m).reverse) = _
        rw [List.reverse_reverse]
      refine ⟨_, rfl, _, rfl, _, _, _, _, rfl, rfl, SqT.of ha, atI_nat hx, _, _, _, _, rfl, rfl, SqT.of he, atI_nat (j := 0) h0, rfl, _, rfl, iteD (fun e => ?_) (fun e => ?_)⟩
      · have hdid : isDid L[m] = true := decide_eq_true (V.str.inj e)
        rw [if_pos hdid] at elast
        obtain ⟨kk, hkk⟩ : ∃ kk, L[m].2[0]? = some kk := by
          cases q : L[m].2 with
          | nil => exact absurd q (hg _ (List.getElem_mem hmL) hdid)
          | cons z r => exact ⟨z, rfl⟩
        obtain ⟨x1, h1, d1⟩ := hes.get (i := 1) (d := .int kk) (by
          show ((L[m].2.map PyData.int)[0]?) = _
          rw [List.getElem?_map, hkk]; rfl)
        cases d1
        have hhd : L[m].2.headD 0 = kk := by
          cases q : L[m].2 with
          | nil => rw [q] at hkk; cases hkk
          | cons z r => rw [q] at hkk; exact Option.some.inj hkk
        have hcut : ¬ (HT.sIx xs.length 0 none = 0 ∧ HT.sIx xs.length xs.length (some (m : Int)) = xs.length) := by
          rintro ⟨_, z⟩
          rw [HT.sIx_nat] at z
          omega
        refine ⟨_, rfl, _, rfl, _, rfl, _, _, rfl, SqT.of ha, hcut, fun p hp => ?_⟩
        have hnew : ∀ (b : Addr) (o : HO), H' b = some o → upd H' p (.tup (cutV xs none (some (m : Int)))) b = some o := fun b o q => by rw [upd_ne (ne_of_none q hp)]; exact q
        refine ⟨_, rfl, _, rfl, _, _, _, _, rfl, rfl, SqT.of (hnew _ _ ha), atI_nat hx, _, _, _, _, rfl, rfl, SqT.of (hnew _ _ he), atI_nat (j := 1) h1, by show 2 ≤ sizeLine; decide, fun r hr' => ?_⟩
        have ecut : cutV xs none (some (m : Int)) = xs.take m := by
          show (xs.drop (HT.sIx xs.length 0 none)).take (HT.sIx xs.length xs.length (some (m : Int)) - HT.sIx xs.length 0 none) = xs.take m
          rw [HT.sIx_none, HT.sIx_nat, List.drop_zero, Nat.sub_zero, Nat.min_eq_left (by omega)]
        have kk2 : Keep [] H' (upd (upd H' p (.tup (cutV xs none (some (m : Int))))) r (.tup [.ref p, .int kk])) := (Keep.new hp).then_new hr'
        have npr : p ≠ r := ne_of_none (H := upd H' p _) upd_same hr'
        refine k _ _ kk2 ?_
        rw [elast, hhd]
        refine .tup upd_same (.cons (.tup (by rw [upd_ne npr]; exact upd_same) ?_) (.cons (.int kk) .nil))
        have t9 := (ht.take m).tk kk2.tk
        rw [← List.map_take] at t9
        exact Eq.mpr (congrArg (fun z => TDs _ z _) ecut) t9
      · have hdid : ¬ isDid L[m] = true := fun z => e (congrArg V.str (of_decide_eq_true z))
        rw [if_neg hdid] at elast
        refine ⟨_, rfl, rfl, ?_⟩
        have : L.length - (i + 1) = m := by omega
        rw [this]; exact elast
    · rintro σ H' ⟨v2, rfl, rfl, hL⟩
      refine k _ _ (Keep.refl _ _) ?_
      rw [hL, Nat.sub_self]
      exact .non
end

/-! the law's look whether two values are the same: only the answer True is told -/
def SameV : Nat → Hp → V → V → Prop
  | 0, _, _, _ => False
  | n + 1, H, a, d => (a = d ∧ ((∃ x, d = .str x) ∨ (∃ i, d = .int i) ∨ (∃ b, d = .bl b) ∨ d = .non)) ∨
    ∃ p q xs ys, a = .ref p ∧ d = .ref q ∧ ((H p = some (.lst xs) ∧ H q = some (.lst ys)) ∨ (H p = some (.tup xs) ∧ H q = some (.tup ys))) ∧ xs.length = ys.length ∧ xs.length ≤ sizeLine ∧
      ∀ (i : Nat) x y, xs[i]? = some x → ys[i]? = some y → SameV n H x y
def sp_law_same (n : Nat) : Sp := fun vs H Q _ => ∃ a d, vs = [a, d] ∧ SameV n H a d ∧ Q (.bl true) H
theorem sameV_strs {n : Nat} {H : Hp} {p q : Addr} {ys : List Str} (h1 : H p = some (.lst (ys.map V.str))) (h2 : H q = some (.lst (ys.map V.str))) (hl : ys.length ≤ sizeLine) : SameV (n + 2) H (.ref p) (.ref q) := by
  refine .inr ⟨p, q, _, _, rfl, rfl, .inl ⟨h1, h2⟩, rfl, by rw [List.length_map]; exact hl, fun i x y hx hy => ?_⟩
  rw [hx] at hy; cases hy
  obtain ⟨z, _, rfl⟩ := strs_get hx
  exact .inl ⟨rfl, .inl ⟨z, rfl⟩⟩
theorem sameV_str {n : Nat} {H : Hp} (x : Str) : SameV (n + 1) H (.str x) (.str x) := .inl ⟨rfl, .inl ⟨x, rfl⟩⟩
section
variable {K : PySem.W.Frag}
theorem kLT : PySem.W.kitOne K (.type "list") (.type "tuple") = some false := kit_ty (by decide +kernel)
theorem kLL : PySem.W.kitOne K (.type "list") (.type "list") = some true := kit_ty (by decide +kernel)
theorem kTT : PySem.W.kitOne K (.type "tuple") (.type "tuple") = some true := kit_ty (by decide +kernel)
theorem kTL : PySem.W.kitOne K (.type "tuple") (.type "list") = some false := kit_ty (by decide +kernel)
theorem kST : PySem.W.kitOne K (.type "str") (.type "tuple") = some false := kit_ty (by decide +kernel)
theorem kSL : PySem.W.kitOne K (.type "str") (.type "list") = some false := kit_ty (by decide +kernel)
theorem kSB : PySem.W.kitOne K (.type "str") (.type "bool") = some false := kit_ty (by decide +kernel)
theorem kSI : PySem.W.kitOne K (.type "str") (.type "int") = some false := kit_ty (by decide +kernel)
theorem kSS : PySem.W.kitOne K (.type "str") (.type "str") = some true := kit_ty (by decide +kernel)
theorem kIT : PySem.W.kitOne K (.type "int") (.type "tuple") = some false := kit_ty (by decide +kernel)
theorem kIL : PySem.W.kitOne K (.type "int") (.type "list") = some false := kit_ty (by decide +kernel)
theorem kIB : PySem.W.kitOne K (.type "int") (.type "bool") = some false := kit_ty (by decide +kernel)
theorem kII : PySem.W.kitOne K (.type "int") (.type "int") = some true := kit_ty (by decide +kernel)
theorem kBT : PySem.W.kitOne K (.type "bool") (.type "tuple") = some false := kit_ty (by decide +kernel)
theorem kBL : PySem.W.kitOne K (.type "bool") (.type "list") = some false := kit_ty (by decide +kernel)
theorem kBB : PySem.W.kitOne K (.type "bool") (.type "bool") = some true := kit_ty (by decide +kernel)
theorem kBI : PySem.W.kitOne K (.type "bool") (.type "int") = some true := kit_ty (by decide +kernel)
theorem kNT : PySem.W.kitOne K (.type "NoneType") (.type "tuple") = some false := kit_ty (by decide +kernel)
theorem kNL : PySem.W.kitOne K (.type "NoneType") (.type "list") = some false := kit_ty (by decide +kernel)
theorem kNB : PySem.W.kitOne K (.type "NoneType") (.type "bool") = some false := kit_ty (by decide +kernel)
theorem kNI : PySem.W.kitOne K (.type "NoneType") (.type "int") = some false := kit_ty (by decide +kernel)
end
theorem paired_strs {K : PySem.W.Frag} {H : Hp} {n : Nat} : ∀ ys : List Str, Paired (EqV K H (n + 1)) (ys.map V.str) (ys.map V.str)
  | [] => .nil
  | y :: r => .cons (.inl ⟨rfl, rfl⟩) (paired_strs r)

theorem tyT {K : PySem.W.Frag} {H : Hp} {a : Addr} {xs : List V} (h : H a = some (.tup xs)) : TyX K H (.ref a) (.type "tuple") := .base (.tup h)
def Lay (d : PyData) : Prop := SeqAt.shaped d = true
theorem canLay_ints : ∀ l : List Int, PyData.canLayAll0 (l.map PyData.int) = true
  | [] => rfl
  | a :: r => by simp [PyData.canLayAll0, PyData.canLay0, canLay_ints r]
theorem depth_ints : ∀ l : List Int, PyData.depthAll (l.map PyData.int) ≤ 1
  | [] => by simp [PyData.depthAll]
  | a :: r => by
    have := depth_ints r
    simp only [List.map_cons, PyData.depthAll, PyData.depth]
    omega
def OkE (e : Ev) : Prop := PyData.strOk e.1 = true
theorem canLay_ev {e : Ev} (h : OkE e) : (dEv e).canLay0 = true := by
  show ((PyData.str e.1).canLay0 && PyData.canLayAll0 (e.2.map PyData.int)) = true
  rw [canLay_ints, Bool.and_true]; exact h
theorem depth_ev (e : Ev) : (dEv e).depth ≤ 2 := by
  have := depth_ints e.2
  simp only [dEv, PyData.depth, PyData.depthAll]
  omega
theorem canLay_evs : ∀ {L : List Ev}, (∀ e ∈ L, OkE e) → PyData.canLayAll0 (L.map dEv) = true
  | [], _ => rfl
  | e :: r, h => by
    rw [List.map_cons]
    show ((dEv e).canLay0 && PyData.canLayAll0 (r.map dEv)) = true
    rw [canLay_ev (h e (List.mem_cons_self ..)), canLay_evs fun z hz => h z (List.mem_cons_of_mem _ hz)]; rfl
theorem depth_evs : ∀ L : List Ev, PyData.depthAll (L.map dEv) ≤ 2
  | [] => by simp [PyData.depthAll]
  | e :: r => by
    have h1 := depth_evs r
    have h2 := depth_ev e
    simp only [List.map_cons, PyData.depthAll]
    omega
theorem shaped_row {r : Row} (h : ∀ e ∈ r.1, OkE e) : SeqAt.shaped (dRow r) = true := by
  unfold SeqAt.shaped
  rw [Bool.and_eq_true]
  constructor
  · show (PyData.canLayAll0 (r.1.map dEv) && true) = true
    rw [canLay_evs h]; rfl
  · have := depth_evs r.1
    refine decide_eq_true ?_
    simp only [dRow, dView, PyData.depth, PyData.depthAll]
    omega
def sp_way_to : Sp := fun vs H Q _ => ∃ (v : V) (L : List Ev), vs = [v] ∧ TD H v (dView L) ∧ L.length ≤ 100000 ∧ Good L ∧
  ∀ p xs H', Keep [] H H' → H p = none → H' p = some (.lst xs) → TDs H' xs ((allRows L).map dRow) → Q (.ref p) H'
def sp_law_cell (K : PySem.W.Frag) : Sp := fun vs H Q _ => ∃ (a : Addr) (ns : List Int) (k : Int), vs = [.ref a, .int k] ∧ SqL K H a (ns.map V.int) ∧ 0 ≤ k ∧ ∀ z, Q (.int z) H
def sp_law_is_integer : Sp := fun vs H Q _ => ∃ z : Int, vs = [.int z] ∧ Q (.bl true) H
def sp_law_is_row : Sp := fun vs H Q _ => ∃ (x y : V) (r : Option Row), vs = [x, y] ∧ TD H x (dRowO r) ∧ TD H y (dRowO r) ∧ (∀ q, r = some q → ∀ e ∈ q.1, OkE e) ∧ Q (.bl true) H
def sp_law_are_rows : Sp := fun vs H Q _ => ∃ (p q : Addr) (xs ys : List V) (rs : List Row), vs = [.ref p, .ref q] ∧ H p = some (.lst xs) ∧ H q = some (.lst ys) ∧ TDs H xs (rs.map dRow) ∧ TDs H ys (rs.map dRow) ∧ rs.length ≤ 1000 ∧
  (∀ r ∈ rs, ∀ e ∈ r.1, OkE e) ∧ Q (.bl true) H
section
variable {P : Program} {w : World} {K : PySem.W.Frag} {mg : Str → Option Value} {base : Heap}
theorem ok_law_cell {f : Addr} {fd : FuncData} (D : C8.Def K mg "_law_cell" s_law_cell f fd) (b : Binds K fd ["script", "k"] []) (T : Txt K mg) : C8.Cal P w K mg base 1 "_law_cell" (sp_law_cell K) [] := by
  refine cal0 D b .nil sc_law_cell (fun vs H Q E h => ?_) (fun cdv A outer s H vs Q E hr h => ?_)
  · obtain ⟨a, ns, k, rfl, _⟩ := h
    rfl
  · obtain ⟨a, ns, z, rfl, hS, h0, k⟩ := h
    refine ⟨_, (pss_cons (ps_if (pt_cmpR op_lt (pv 1) (pe_callB call_len_seq (by rfl) T.n_len bo_len (pa_cons (pv 0) pa_nil)) (nomark _))
  (pss_one (ps_ret (pe_ix ix_list (pv 0) (pv 1) (fun _ _ => rfl))))
  pss_nil)
(pss_one (ps_ret pe_int))), ?_⟩
    refine ⟨_, rfl, _, rfl, _, _, rfl, .inl hS, _, _, rfl, rfl, _, rfl, iteD (fun hlt => ?_) (fun _ => k 0)⟩
    obtain ⟨j, rfl⟩ : ∃ j : Nat, z = (j : Int) := ⟨z.toNat, by omega⟩
    have hj : j < (ns.map V.int).length := by omega
    have hj' : j < ns.length := by rw [List.length_map] at hj; exact hj
    refine ⟨_, rfl, _, rfl, _, _, _, _, rfl, rfl, hS, atI_nat (v := .int ns[j]) (by rw [List.getElem?_map, List.getElem?_eq_getElem hj']; rfl), k _⟩
theorem ok_law_is_integer {f : Addr} {fd : FuncData} (D : C8.Def K mg "_law_is_integer" s_law_is_integer f fd) (b : Binds K fd ["actual"] []) (T : Txt K mg) : C8.Cal P w K mg base 1 "_law_is_integer" sp_law_is_integer [] := by
  refine cal0 D b .nil sc_law_is_integer (fun vs H Q E h => ?_) (fun cdv A outer s H vs Q E hr h => ?_)
  · obtain ⟨a, rfl, _⟩ := h
    rfl
  · obtain ⟨z, rfl, k⟩ := h
    refine ⟨_, (pss_one (ps_ret (pe_and (pe_callB call_isi (by rfl) T.n_isinstance bo_isinstance (pa_cons (pv 0) (pa_cons (pe_bltn (v := .ty "int") (by rfl) T.n_int bo_int rfl) pa_nil))) (pe_one (pe_not (pe_callB call_isi (by rfl) T.n_isinstance bo_isinstance (pa_cons (pv 0) (pa_cons (pe_bltn (v := .ty "bool") (by rfl) T.n_bool bo_bool rfl) pa_nil)))))))), ?_⟩
    exact ⟨_, rfl, _, _, _, _, _, rfl, .ty _, .base (.int z), kII, _, rfl, iteT ⟨_, rfl, _, _, _, _, _, rfl, .ty _, .base (.int z), kIB, _, rfl, k⟩⟩
theorem ok_law_is_row {f : Addr} {fd : FuncData} (D : C8.Def K mg "_law_is_row" s_law_is_row f fd) (b : Binds K fd ["actual", "due"] []) (T : Txt K mg) (c_law_is_integer : C8.Cal P w K mg base 1 "_law_is_integer" sp_law_is_integer []) :
    C8.Cal P w K mg base 2 "_law_is_row" sp_law_is_row [] := by
  refine cal0 D b .nil sc_law_is_row (fun vs H Q E h => ?_) (fun cdv A outer s H vs Q E hr h => ?_)
  · obtain ⟨x, y, r, rfl, _⟩ := h
    rfl
  · obtain ⟨x, y, r, rfl, hx, hy, hok, k⟩ := h
    refine ⟨_, (pss_cons (ps_if (PW.pt (pw_or (pt_cmpR op_isN (pv 1) pe_non (nomark _)) (pw_or1 (pt_cmpR op_isN (pv 0) pe_non (nomark _)))))
  (pss_one (ps_ret (pe_and (pe_cmpR op_isN (pv 1) pe_non (nomark _)) (pe_one (pe_cmpR op_isN (pv 0) pe_non (nomark _))))))
  pss_nil)
(pss_one (ps_ret (pe_and (pe_callB call_isi (by rfl) T.n_isinstance bo_isinstance (pa_cons (pv 0) (pa_cons (pe_bltn (v := .ty "tuple") (by rfl) T.n_tuple bo_tuple rfl) pa_nil))) (pe_and (pe_cmpR op_eq (pe_callB call_len_seq (by rfl) T.n_len bo_len (pa_cons (pv 0) pa_nil)) pe_int (nomark _)) (pe_and (pe_cmpR (op_eqD hr.units) (pv 0) (pv 1) (nomark _)) (pe_one (pe_c c_law_is_integer hr (by first | exact Nat.le_refl _ | decide) rfl (pa_cons (pe_ix ix_tup (pv 0) pe_int (fun _ _ => rfl)) pa_nil))))))))), ?_⟩
    cases r with
    | none =>
      cases hx; cases hy
      exact ⟨_, rfl, rfl, _, rfl, iteDT rfl ⟨_, rfl, rfl, _, rfl, iteDT rfl ⟨_, rfl, rfl, by rw [decide_eq_true rfl]; exact k⟩⟩⟩
    | some r =>
      obtain ⟨a, xs, rfl, ha, hxs⟩ := td_view (ds := [dView r.1, .int r.2]) hx
      obtain ⟨b, ys, rfl, hb, hys⟩ := td_view (ds := [dView r.1, .int r.2]) hy
      have hs := shaped_row (hok r rfl)
      obtain ⟨x1, h1, d1⟩ := hxs.get (i := 1) (d := .int r.2) rfl
      cases d1
      have hl : xs.length = 2 := hxs.length
      refine ⟨_, rfl, rfl, _, rfl, iteDF (by simp) ⟨_, rfl, rfl, _, rfl, iteDF (by simp) ?_⟩⟩
      refine ⟨_, rfl, _, _, _, _, _, rfl, .ty _, tyT ha, kTT, _, rfl, iteT ?_⟩
      refine ⟨_, rfl, _, _, rfl, .inr (SqT.of ha), rfl, _, rfl, iteDT (by rw [hl]; rfl) ?_⟩
      refine ⟨_, rfl, _, rfl, _, _, hx.dp, hy.dp, hs, hs, _, rfl, ?_⟩
      rw [show PyData.eqv (dRowO (some r)) (dRowO (some r)) = true from SeqAt.eqv_refl _ (SeqAt.canLay_of_shaped hs)]
      refine iteT ?_
      exact ⟨_, rfl, _, _, _, _, rfl, rfl, SqT.of ha, atI_nat (j := 1) h1, _, rfl, k⟩
theorem ok_law_are_rows {f : Addr} {fd : FuncData} (D : C8.Def K mg "_law_are_rows" s_law_are_rows f fd) (b : Binds K fd ["actual", "due"] []) (T : Txt K mg) (c_law_is_row : C8.Cal P w K mg base 2 "_law_is_row" sp_law_is_row []) :
    C8.Cal P w K mg base 3 "_law_are_rows" sp_law_are_rows [] := by
  refine cal0 D b .nil sc_law_are_rows (fun vs H Q E h => ?_) (fun cdv A outer s H vs Q E hr h => ?_)
  · obtain ⟨p, q, xs, ys, rs, rfl, _⟩ := h
    rfl
  · obtain ⟨p, q, xs, ys, rs, rfl, hp, hq, hxs, hys, hn, hok, k⟩ := h
    refine ⟨_, (pss_cons (ps_if (PW.pt (pw_or (pt_not (pt_val (pe_callB call_isi (by rfl) T.n_isinstance bo_isinstance (pa_cons (pv 0) (pa_cons (pe_bltn (v := .ty "list") (by rfl) T.n_list bo_list rfl) pa_nil))))) (pw_or1 (pt_cmpR op_ne (pe_callB call_len_seq (by rfl) T.n_len bo_len (pa_cons (pv 0) pa_nil)) (pe_callB call_len_seq (by rfl) T.n_len bo_len (pa_cons (pv 1) pa_nil)) (nomark _)))))
  (pss_one (ps_ret pe_bl))
  pss_nil)
(pss_cons (ps_for PassesOwn.never rfl (pi_range1 (by rfl) T.n_range (pa_cons (pe_callB call_len_seq (by rfl) T.n_len bo_len (pa_cons (pv 1) pa_nil)) pa_nil)) (pg_name (i := 2) sc_law_are_rows.nd rfl (by first | exact Or.inl rfl | exact Or.inr rfl))
  (pss_one (ps_if (pt_not (pt_val (pe_c c_law_is_row hr (by first | exact Nat.le_refl _ | decide) rfl (pa_cons (pe_ix ix_list (pv 0) (pv 2) (fun _ _ => rfl)) (pa_cons (pe_ix ix_list (pv 1) (pv 2) (fun _ _ => rfl)) pa_nil)))))
    (pss_one (ps_ret pe_bl))
    pss_nil)))
(pss_one (ps_ret pe_bl)))), ?_⟩
    have lx : xs.length = rs.length := by rw [hxs.length, List.length_map]
    have ly : ys.length = rs.length := by rw [hys.length, List.length_map]
    refine ⟨_, rfl, _, _, _, _, _, rfl, .ty _, .base (.lst hp), kLL, _, rfl, iteF ?_⟩
    refine ⟨_, rfl, _, _, rfl, .inl (SqL.of hp), _, rfl, _, _, rfl, .inl (SqL.of hq), rfl, _, rfl, iteNF (by rw [lx, ly]) ?_⟩
    refine ⟨_, rfl, _, _, rfl, .inl (SqL.of hq), _, rfl, by omega, by omega, for_range (lo := 0) (n := ys.length) (fun i σ H' => ∃ kv, σ = [some (.ref p), some (.ref q), kv] ∧ H' = H) ⟨none, rfl, rfl⟩ ?_ ?_⟩
    · rintro i σ H' hi ⟨kv, rfl, rfl⟩
      have hi' : i < rs.length := by omega
      have hr1 : (rs.map dRow)[i]? = some (dRow rs[i]) := by rw [List.getElem?_map, List.getElem?_eq_getElem hi']; rfl
      obtain ⟨x, hx, dx⟩ := hxs.get hr1
      obtain ⟨y, hy, dy⟩ := hys.get hr1
      have e0 : (0 : Int) + (i : Int) = (i : Int) := by omega
      rw [e0]
      refine ⟨_, rfl, _, rfl, _, _, _, _, rfl, rfl, SqL.of hp, atI_nat hx, _, rfl, _, rfl, _, _, _, _, rfl, rfl, SqL.of hq, atI_nat hy, ?_⟩
      refine ⟨x, y, some rs[i], rfl, dx, dy, fun q e => (by cases e; exact hok _ (List.getElem_mem hi')), _, rfl, iteF ⟨_, rfl, rfl⟩⟩
    · rintro σ H' ⟨kv, rfl, rfl⟩
      exact k
def curLen : Option Row → Nat
  | none => 0
  | some r => r.1.length + 1
theorem ok_way_to {f : Addr} {fd : FuncData} (D : C8.Def K mg "way_to" s_way_to f fd) (b : Binds K fd ["view"] []) (T : Txt K mg) (c_last_row : C8.Cal P w K mg base 1 "last_row" sp_last_row []) :
    C8.Cal P w K mg base 2 "way_to" sp_way_to [] := by
  refine cal0 D b .nil sc_way_to (fun vs H Q E h => ?_) (fun cdv A outer s H vs Q E hr h => ?_)
  · obtain ⟨v, L, rfl, _⟩ := h
    rfl
  · obtain ⟨v, L, rfl, hv, hn, hg, k⟩ := h
    refine ⟨_, (pss_cons (ps_set (i := 1) sc_way_to.nd rfl (by first | exact Or.inl rfl | exact Or.inr rfl) (pe_lst pa_nil))
(pss_cons (ps_set (i := 2) sc_way_to.nd rfl (by first | exact Or.inl rfl | exact Or.inr rfl) (pe_c c_last_row hr (by first | exact Nat.le_refl _ | decide) rfl (pa_cons (pv 0) pa_nil)))
(pss_cons (ps_while PassesOwn.never (pt_cmpR op_notN (pv 2) pe_non (nomark _))
  (pss_cons (ps_expr (pe_bm PySem.F.plainAttrs_list PySem.F.slot_list_append PySem.F.type_list_append mt_append (pv 1) (pa_cons (pv 2) pa_nil)))
  (pss_one (ps_set (i := 2) sc_way_to.nd rfl (by first | exact Or.inl rfl | exact Or.inr rfl) (pe_c c_last_row hr (by first | exact Nat.le_refl _ | decide) rfl (pa_cons (pe_ix ix_tup (pv 2) pe_int (fun _ _ => rfl)) pa_nil))))))
(pss_one (ps_ret (pe_revL (pv 1))))))), ?_⟩
    refine ⟨by show 0 ≤ sizeLine; decide, fun M hM => ?_⟩
    refine ⟨_, rfl, _, L, rfl, hv.tk (TK.new hM), hn, hg, fun r H1 K1 hr1 => ?_⟩
    refine ⟨fun m σ H' => ∃ (cur : Option Row) (acc : List Row) (xs : List V) (r : V), σ = [some v, some (.ref M), some r] ∧ m = curLen cur ∧ H' M = some (.lst xs) ∧ TDs H' xs (acc.map dRow) ∧ TD H' r (dRowO cur) ∧ Keep [] H H' ∧
        (∀ q, cur = some q → ∃ N, L = q.1 ++ N) ∧ curLen cur + acc.length ≤ L.length + 1 ∧ allRows L = (match cur with | none => [] | some (V, k) => allRows V ++ [(V, k)]) ++ acc.reverse, ?_, ?_⟩
    · refine ⟨_, lastRow L, [], [], r, rfl, rfl, K1 _ _ upd_same (by simp), .nil, hr1, (Keep.new hM).trans K1, fun q e => ?_, ?_, ?_⟩
      · obtain ⟨V, kk⟩ := q
        exact lastRow_pre e
      · cases e : lastRow L with
        | none => simp [curLen]
        | some q =>
          have := lastRow_len (V := q.1) (k := q.2) e
          simp [curLen]; omega
      · rw [List.reverse_nil, List.append_nil]; exact lastRow_rows L
    · rintro m σ H' ⟨cur, acc, xs, r, rfl, rfl, h1, h2, h3, h4, h5, h6, h7⟩
      cases cur with
      | none =>
        cases h3
        refine ⟨_, rfl, rfl, _, rfl, iteNF rfl ?_⟩
        refine ⟨_, rfl, _, _, rfl, SqL.of h1, fun p hp => ?_⟩
        have kk := h4.then_new (o := .lst xs.reverse) hp
        refine k p xs.reverse _ kk (h4.free hp) upd_same ?_
        have e : allRows L = acc.reverse := by rw [h7]; rfl
        rw [e, List.map_reverse]
        exact h2.reverse.tk (TK.new hp)
      | some q =>
        obtain ⟨U, kk⟩ := q
        obtain ⟨N, hN⟩ : ∃ N, L = U ++ N := h5 _ rfl
        obtain ⟨a, ys, rfl, ha, hys⟩ := td_view (ds := [dView U, .int kk]) h3
        refine ⟨_, rfl, rfl, _, rfl, iteNT (by simp) ?_⟩
        have hlx : xs.length = acc.length := by rw [h2.length, List.length_map]
        refine ⟨fun σ' H'' => ∃ m', m' < curLen (some (U, kk)) ∧ ∃ (cur : Option Row) (acc : List Row) (xs : List V) (r : V), σ' = [some v, some (.ref M), some r] ∧ m' = curLen cur ∧ H'' M = some (.lst xs) ∧ TDs H'' xs (acc.map dRow) ∧ TD H'' r (dRowO cur) ∧ Keep [] H H'' ∧
        (∀ q, cur = some q → ∃ N, L = q.1 ++ N) ∧ curLen cur + acc.length ≤ L.length + 1 ∧ allRows L = (match cur with | none => [] | some (V, k) => allRows V ++ [(V, k)]) ++ acc.reverse, fun _ _ z => z, ?_⟩
        have hcl : curLen (some (U, kk)) = U.length + 1 := rfl
        refine ⟨_, rfl, .inl ⟨rfl, _, SqL.of h1⟩, _, rfl, _, _, _, rfl, rfl, h1, by rw [hlx]; exact smallL (by omega), ?_⟩
        have tk1 : TK H' (upd H' M (.lst (xs ++ [.ref a]))) := TK.lst h1
        obtain ⟨x0, g0, d0⟩ := hys.get (i := 0) (d := dView U) rfl
        have hVl : U.length ≤ L.length := by rw [hN, List.length_append]; omega
        refine ⟨_, rfl, _, _, _, _, rfl, rfl, SqT.of (tk1 _ _ ha), atI_nat (j := 0) g0, ?_⟩
        refine ⟨_, U, rfl, d0.tk tk1, by omega, hg.pre hN, fun r2 H2 K2 hr2 => ?_⟩
        have hc2 : curLen (lastRow U) ≤ U.length := by
          cases e : lastRow U with
          | none => simp [curLen]
          | some q =>
            have := lastRow_len (V := q.1) (k := q.2) e
            simp [curLen]; omega
        refine ⟨_, ?_, lastRow U, acc ++ [(U, kk)], _, r2, rfl, rfl, K2 _ _ upd_same (by simp), ?_, hr2, (h4.then_own ?_).trans K2, ?_, ?_, ?_⟩
        · omega
        · rw [List.map_append]
          exact (h2.snoc h3).tk (tk1.trans K2.tk)
        · exact hM
        · intro q e
          obtain ⟨V', k'⟩ := q
          obtain ⟨N', e'⟩ := lastRow_pre e
          exact ⟨N' ++ N, by rw [hN, e', List.append_assoc]⟩
        · rw [List.length_append]; simp; omega
        · rw [h7, List.reverse_append]
          show (allRows U ++ [(U, kk)]) ++ acc.reverse = _
          rw [lastRow_rows U]
          cases lastRow U <;> simp
end

def sp_law (K : PySem.W.Frag) : Sp := fun vs H Q _ => ∃ (a : Addr) (ns : List Int), vs = [.ref a] ∧ SqL K H a (ns.map V.int) ∧ ns.length ≤ 63 ∧ ∀ H', Q (.bl true) H'
/-- a view grows by an event -/
theorem td_grow {H : Hp} {v : V} {L : List Ev} (h : TD H v (dView L)) : ∃ a xs, v = .ref a ∧ H a = some (.tup xs) ∧ TDs H xs (L.map dEv) ∧ xs.length = L.length := by
  obtain ⟨a, xs, e, ha, t⟩ := td_view h
  exact ⟨a, xs, e, ha, t, by rw [t.length, List.length_map]⟩
theorem okE_of {e : Ev} (h : PyData.strOk e.1 = true) : OkE e := h
theorem ok_round (l : List Int) : OkE ("round", l) := okE_of (by show PyData.strOk ("round" : Str) = true; decide +kernel)
theorem ok_told (l : List Int) : OkE ("told", l) := okE_of (by show PyData.strOk ("told" : Str) = true; decide +kernel)
theorem ok_move (l : List Int) : OkE ("move", l) := okE_of (by show PyData.strOk ("move" : Str) = true; decide +kernel)
theorem ok_did (l : List Int) : OkE ("did", l) := okE_of (by show PyData.strOk ("did" : Str) = true; decide +kernel)
theorem nd_round (l : List Int) : isDid ("round", l) = false := by show decide (("round" : Str) = "did") = false; decide +kernel
theorem nd_told (l : List Int) : isDid ("told", l) = false := by show decide (("told" : Str) = "did") = false; decide +kernel
theorem nd_move (l : List Int) : isDid ("move", l) = false := by show decide (("move" : Str) = "did") = false; decide +kernel
theorem yd_did (l : List Int) : isDid ("did", l) = true := by show decide (("did" : Str) = "did") = true; decide +kernel
theorem good_snoc {L : List Ev} {e : Ev} (g : Good L) (h : e.2 ≠ []) : Good (L ++ [e]) := fun z hz hd => by
  rcases List.mem_append.mp hz with q | q
  · exact g z q hd
  · rw [List.mem_singleton.mp q]; exact h
theorem oks_snoc {L : List Ev} {e : Ev} (g : ∀ z ∈ L, OkE z) (h : OkE e) : ∀ z ∈ L ++ [e], OkE z := fun z hz => by
  rcases List.mem_append.mp hz with q | q
  · exact g z q
  · rw [List.mem_singleton.mp q]; exact h
theorem rows_same {L : List Ev} {e : Ev} (h : isDid e = false) : allRows (L ++ [e]) = allRows L := by
  rw [allRows_snoc, if_neg (by rw [h]; simp)]
/-- view + (event,): once both tuples are made -/
theorem add_ev {K : PySem.W.Frag} {H : Hp} {v : V} {L : List Ev} (e : Ev) {Q : VK} {t1 t2 : Addr} (hv : TD H v (dView L)) (n1 : H t1 = none) (n2 : upd H t1 (.tup (.str e.1 :: e.2.map V.int)) t2 = none) (hl : L.length ≤ 100000)
    (k : ∀ (p : Addr) (H' : Hp), Keep [] H H' → TD H' (.ref p) (dView (L ++ [e])) → Q (.ref p) H') : rCatA K v (.ref t2) (upd (upd H t1 (.tup (.str e.1 :: e.2.map V.int))) t2 (.tup [.ref t1])) Q := by
  have kk : Keep [] H (upd (upd H t1 (.tup (.str e.1 :: e.2.map V.int))) t2 (.tup [.ref t1])) := (Keep.new n1).then_new n2
  obtain ⟨a, xs, rfl, ha, hx⟩ := td_view (hv.tk kk.tk)
  have n12 : t1 ≠ t2 := ne_of_none (H := upd H t1 _) upd_same n2
  have h1 : upd (upd H t1 (.tup (.str e.1 :: e.2.map V.int))) t2 (.tup [.ref t1]) t1 = some (.tup (.str e.1 :: e.2.map V.int)) := by rw [upd_ne n12]; exact upd_same
  have hlx : xs.length = L.length := by rw [hx.length, List.length_map]
  have hcat := hx.snoc (TD.tup h1 (.cons (.str e.1) (td_ints e.2)))
  have e1 : L.map dEv ++ [PyData.tuple (.str e.1 :: e.2.map PyData.int)] = (L ++ [e]).map dEv := by rw [List.map_append]; rfl
  rw [e1] at hcat
  refine ⟨a, t2, xs, [.ref t1], rfl, rfl, SqT.of ha, SqT.of upd_same, by simp only [List.length_cons, List.length_nil]; exact smallM (by omega), fun e0 => ?_, fun _ z => (by cases z), fun _ _ p hp => ?_⟩
  · subst e0
    exact k t2 _ kk (.tup upd_same hcat)
  · exact k p _ (kk.then_new hp) (.tup upd_same (hcat.tk (TK.new hp)))
section
variable {P : Program} {w : World} {K : PySem.W.Frag} {mg : Str → Option Value} {base : Heap}
theorem ok_law {f : Addr} {fd : FuncData} (F : C8.Fun K "law" "law" s_law f fd) (T : Txt K mg) (c_last_row : C8.Cal P w K mg base 1 "last_row" sp_last_row []) (c_way_to : C8.Cal P w K mg base 2 "way_to" sp_way_to [])
    (c_law_cell : C8.Cal P w K mg base 1 "_law_cell" (sp_law_cell K) []) (c_law_is_row : C8.Cal P w K mg base 2 "_law_is_row" sp_law_is_row []) (c_law_are_rows : C8.Cal P w K mg base 3 "_law_are_rows" sp_law_are_rows []) :
    FnOk P w K mg base C8.CX0 4 f fd ["script"] (sp_law K) := by
  refine C8.fn0 F sc_law (fun vs H Q E h => ?_) (fun cdv A outer s H vs Q E hr h => ?_)
  · obtain ⟨a, ns, rfl, _⟩ := h
    rfl
  · obtain ⟨a, ns, rfl, hS, hn, k⟩ := h
    refine ⟨_, (pss_cons (ps_set (i := 1) sc_law.nd rfl (by first | exact Or.inl rfl | exact Or.inr rfl) (pe_tup pa_nil))
(pss_cons (ps_set (i := 2) sc_law.nd rfl (by first | exact Or.inl rfl | exact Or.inr rfl) (pe_lst pa_nil))
(pss_cons (ps_for PassesOwn.never rfl (pi_list (pv 0)) (pg_name (i := 3) sc_law.nd rfl (by first | exact Or.inl rfl | exact Or.inr rfl))
  (pss_cut (ps_if (pt_cmpR op_eq (pe_op op_mod (pe_callTy call_int1 (by rfl) T.n_int bo_int (pa_cons (pv 3) pa_nil)) pe_int) pe_int (nomark _))
    (pss_one (ps_set (i := 1) sc_law.nd rfl (by first | exact Or.inl rfl | exact Or.inr rfl) (pe_op op_catA (pv 1) (pe_tup (pa_cons (pe_tup (pa_cons pe_str (pa_cons (pe_op op_mod (pe_op op_fdiv (pv 3) pe_int) pe_int) pa_nil))) pa_nil)))))
    pss_nil)
  (pss_cut (ps_if (pt_cmpR op_eq (pe_op op_mod (pe_callTy call_int1 (by rfl) T.n_int bo_int (pa_cons (pv 3) pa_nil)) pe_int) pe_int (nomark _))
    (pss_one (ps_set (i := 1) sc_law.nd rfl (by first | exact Or.inl rfl | exact Or.inr rfl) (pe_op op_catA (pv 1) (pe_tup (pa_cons (pe_tup (pa_cons pe_str (pa_cons (pe_op op_mod (pe_op op_fdiv (pv 3) pe_int) pe_int) pa_nil))) pa_nil)))))
    pss_nil)
  (pss_one (ps_if (pt_cmpR op_gt (pe_op op_mod (pe_callTy call_int1 (by rfl) T.n_int bo_int (pa_cons (pv 3) pa_nil)) pe_int) pe_int (nomark _))
    (pss_cons (ps_set (i := 4) sc_law.nd rfl (by first | exact Or.inl rfl | exact Or.inr rfl) (pe_op op_add pe_int (pe_op op_mod (pe_op op_fdiv (pv 3) pe_int) pe_int)))
    (pss_cons (ps_set (i := 1) sc_law.nd rfl (by first | exact Or.inl rfl | exact Or.inr rfl) (pe_op op_catA (pv 1) (pe_tup (pa_cons (pe_tup (pa_cons pe_str (pa_cons (pe_op op_mod (pe_op op_fdiv (pv 3) pe_int) pe_int) (pa_cons (pv 4) pa_nil)))) pa_nil))))
    (pss_cons (ps_set (i := 5) sc_law.nd rfl (by first | exact Or.inl rfl | exact Or.inr rfl) (pe_op op_mod (pe_op op_fdiv (pv 3) pe_int) (pv 4)))
    (pss_cons (ps_expr (pe_bm PySem.F.plainAttrs_list PySem.F.slot_list_append PySem.F.type_list_append mt_append (pv 2) (pa_cons (pe_tup (pa_cons (pv 1) (pa_cons (pv 5) pa_nil))) pa_nil)))
    (pss_one (ps_set (i := 1) sc_law.nd rfl (by first | exact Or.inl rfl | exact Or.inr rfl) (pe_op op_catA (pv 1) (pe_tup (pa_cons (pe_tup (pa_cons pe_str (pa_cons (pv 5) pa_nil))) pa_nil)))))))))
    pss_nil)))))
(pss_cons (ps_set (i := 6) sc_law.nd rfl (by first | exact Or.inl rfl | exact Or.inr rfl) (pe_callB call_abs (by rfl) T.n_abs bo_abs (pa_cons (pe_op op_add (pe_op op_add (pe_op op_fdiv (pe_c c_law_cell hr (by first | exact Nat.le_refl _ | decide) rfl (pa_cons (pv 0) (pa_cons pe_int pa_nil))) pe_int) (pe_op op_mul pe_int (pe_c c_law_cell hr (by first | exact Nat.le_refl _ | decide) rfl (pa_cons (pv 0) (pa_cons pe_int pa_nil))))) (pe_op op_mul pe_int (pe_callB call_len_seq (by rfl) T.n_len bo_len (pa_cons (pv 0) pa_nil)))) pa_nil)))
(pss_cut (ps_if (pt_cmpR op_gt (pe_op op_mod (pe_callTy call_int1 (by rfl) T.n_int bo_int (pa_cons (pv 6) pa_nil)) pe_int) pe_int (nomark _))
  (pss_one (ps_set (i := 1) sc_law.nd rfl (by first | exact Or.inl rfl | exact Or.inr rfl) (pe_op op_catA (pv 1) (pe_tup (pa_cons (pe_tup (pa_cons pe_str (pa_cons (pe_op op_mod (pe_op op_fdiv (pv 6) pe_int) pe_int) (pa_cons (pe_op op_add pe_int (pe_op op_mod (pe_op op_fdiv (pv 6) pe_int) pe_int)) pa_nil)))) pa_nil)))))
  pss_nil)
(pss_cons (ps_set (i := 7) sc_law.nd rfl (by first | exact Or.inl rfl | exact Or.inr rfl) (pe_ix ix_list (pe_op op_cat (pv 2) (pe_lst (pa_cons pe_non pa_nil))) (pe_callB (call_max2 rfl) (by rfl) T.n_max bo_max (pa_cons pe_int (pa_cons (pe_op op_sub (pe_callB call_len_seq (by rfl) T.n_len bo_len (pa_cons (pv 2) pa_nil)) pe_int) pa_nil))) (fun _ _ => rfl)))
(pss_cons (ps_if (pt_not (pt_val (pe_c c_law_is_row hr (by first | exact Nat.le_refl _ | decide) rfl (pa_cons (pe_c c_last_row hr (by first | exact Nat.le_refl _ | decide) rfl (pa_cons (pv 1) pa_nil)) (pa_cons (pv 7) pa_nil)))))
  (pss_one (ps_ret pe_bl))
  pss_nil)
(pss_cons (ps_for PassesOwn.never rfl (pi_range1 (by rfl) T.n_range (pa_cons pe_int pa_nil)) (pg_name (i := 8) sc_law.nd rfl (by first | exact Or.inl rfl | exact Or.inr rfl))
  (pss_cons (ps_set (i := 9) sc_law.nd rfl (by first | exact Or.inl rfl | exact Or.inr rfl) (pe_c c_way_to hr (by first | exact Nat.le_refl _ | decide) rfl (pa_cons (pv 1) pa_nil)))
  (pss_cons (ps_if (pt_not (pt_val (pe_c c_law_are_rows hr (by first | exact Nat.le_refl _ | decide) rfl (pa_cons (pv 9) (pa_cons (pv 2) pa_nil)))))
    (pss_one (ps_ret pe_bl))
    pss_nil)
  (pss_one (ps_expr (pe_bm PySem.F.plainAttrs_list PySem.F.slot_list_append PySem.F.type_list_append mt_append (pv 9) (pa_cons pe_str pa_nil)))))))
(pss_cons (ps_if (pt_cmpR op_eq (pe_callB call_len_seq (by rfl) T.n_len bo_len (pa_cons (pv 2) pa_nil)) pe_int (nomark _))
  (pss_one (ps_ret pe_bl))
  pss_nil)
(pss_cons (ps_set (i := 10) sc_law.nd rfl (by first | exact Or.inl rfl | exact Or.inr rfl) (pe_op op_mod (pe_callTy call_int1 (by rfl) T.n_int bo_int (pa_cons (pe_op op_fdiv (pv 6) pe_int) pa_nil)) (pe_callB call_len_seq (by rfl) T.n_len bo_len (pa_cons (pv 2) pa_nil))))
(pss_cons (ps_set (i := 11) sc_law.nd rfl (by first | exact Or.inl rfl | exact Or.inr rfl) (pe_ix ix_tup (pe_ix ix_list (pv 2) (pv 10) (fun _ _ => rfl)) pe_int (fun _ _ => rfl)))
(pss_cons (ps_if (pt_not (pt_val (pe_c c_law_are_rows hr (by first | exact Nat.le_refl _ | decide) rfl (pa_cons (pe_c c_way_to hr (by first | exact Nat.le_refl _ | decide) rfl (pa_cons (pv 11) pa_nil)) (pa_cons (pe_slice sl_list (pv 2) po_none (po_some (pv 10))) pa_nil)))))
  (pss_one (ps_ret pe_bl))
  pss_nil)
(pss_one (ps_ret (pe_and (pe_c c_law_is_row hr (by first | exact Nat.le_refl _ | decide) rfl (pa_cons (pe_c c_last_row hr (by first | exact Nat.le_refl _ | decide) rfl (pa_cons (pv 11) pa_nil)) (pa_cons (pe_ix ix_list (pe_op op_cat (pe_lst (pa_cons pe_non pa_nil)) (pv 2)) (pv 10) (fun _ _ => rfl)) pa_nil))) (pe_one (pe_c c_law_is_row hr (by first | exact Nat.le_refl _ | decide) rfl (pa_cons (pe_c c_last_row hr (by first | exact Nat.le_refl _ | decide) rfl (pa_cons (pv 1) pa_nil)) (pa_cons (pv 7) pa_nil))))))))))))))))))), ?_⟩
    refine ⟨by show 0 ≤ sizeLine; decide, fun v0 hv0 => ⟨by show 0 ≤ sizeLine; decide, fun M hM => ?_⟩⟩
    have k0 : Keep [] H (upd (upd H v0 (.tup [])) M (.lst [])) := (Keep.new hv0).then_new hM
    have hM0 : H M = none := (Keep.new (W := []) hv0).free hM
    have nvM : v0 ≠ M := ne_of_none (H := upd H v0 _) upd_same hM
    -- what holds of view, rows and heap
    let Inv0 : V → List Ev → Hp → Prop := fun v L H' => TD H' v (dView L) ∧ Good L ∧ (∀ e ∈ L, OkE e) ∧ Keep [] H H' ∧ ∃ rs, H' M = some (.lst rs) ∧ TDs H' rs ((allRows L).map dRow)
    have stay : ∀ {v L H' H''}, Inv0 v L H' → Keep [] H' H'' → Inv0 v L H'' := fun {v L H' H''} h kk => by
      obtain ⟨h1, h2, h3, h4, rs, h5, h6⟩ := h
      exact ⟨h1.tk kk.tk, h2, h3, h4.trans kk, rs, kk _ _ h5 (by simp), h6.tk kk.tk⟩
    -- an event that is no move made
    have plain : ∀ {v L H' H'' p e}, Inv0 v L H' → Keep [] H' H'' → TD H'' (.ref p) (dView (L ++ [e])) → isDid e = false → OkE e → e.2 ≠ [] → Inv0 (.ref p) (L ++ [e]) H'' := fun {v L H' H'' p e} h kk ht hd ho he => by
      obtain ⟨h1, h2, h3, h4, rs, h5, h6⟩ := h
      exact ⟨ht, good_snoc h2 he, oks_snoc h3 ho, h4.trans kk, rs, kk _ _ h5 (by simp), by rw [rows_same hd]; exact h6.tk kk.tk⟩
    let Frame : V → St → Prop := fun v σ => ∃ o3 o4 o5 : Option V, σ = [some (.ref a), some v, some (.ref M), o3, o4, o5, none, none, none, none, none, none]
    refine ⟨_, rfl, _, rfl, ⟨_, k0.seqL hS (by simp)⟩, for_list (K := K) (a := a) (xs := ns.map V.int) (fun i σ H' => ∃ (v : V) (L : List Ev), Frame v σ ∧ L.length ≤ 4 * i ∧ Inv0 v L H')
      ⟨.ref v0, [], ⟨none, none, none, rfl⟩, Nat.le_refl _, .tup (by rw [upd_ne nvM]; exact upd_same) .nil, (fun _ z => by cases z), (fun _ z => by cases z), k0, [], upd_same, .nil⟩
      (fun i σ H' _ ⟨_, _, _, _, h⟩ => h.2.2.2.1.seqL hS (by simp)) ?_ ?_⟩
    · rintro i y σ H1 hi ⟨v, L, ⟨o3, o4, o5, rfl⟩, hL, I1⟩
      have hin : i < ns.length := by
        have := (List.getElem?_eq_some_iff.mp hi).1
        rw [List.length_map] at this; exact this
      obtain ⟨z, _, rfl⟩ := ints_get hi
      let Mid : Nat → St → Hp → Prop := fun j σ H' => ∃ (v : V) (L : List Ev), (∃ o4 o5 : Option V, σ = [some (.ref a), some v, some (.ref M), some (.int z), o4, o5, none, none, none, none, none, none]) ∧ L.length ≤ 4 * i + j ∧ Inv0 v L H'
      refine ⟨Mid 1, ?_, ?_⟩
      · refine ⟨_, rfl, .inl ⟨_, rfl, _, _, rfl, rfl, (by show (0 : Int) < _; decide), rfl, _, rfl, iteD (fun _ => ?_) (fun _ => ⟨v, L, ⟨o4, o5, rfl⟩, by omega, I1⟩)⟩⟩
        refine ⟨_, rfl, _, rfl, _, _, rfl, rfl, ⟨by decide, by decide⟩, _, _, rfl, rfl, (by show (0 : Int) < _; decide), by show 2 ≤ sizeLine; decide, fun t1 n1 => ⟨by show 1 ≤ sizeLine; decide, fun t2 n2 => ?_⟩⟩
        refine add_ev ("round", [_]) I1.1 n1 n2 (by omega) fun p H2 K2 ht => ?_
        exact ⟨_, _, ⟨o4, o5, rfl⟩, by rw [List.length_append]; simp; omega, plain I1 K2 ht (nd_round _) (ok_round _) (by simp)⟩
      · rintro σ H1 ⟨v, L, ⟨o4, o5, rfl⟩, hL, I1⟩
        refine ⟨Mid 2, ?_, ?_⟩
        · refine ⟨_, rfl, .inl ⟨_, rfl, _, _, rfl, rfl, (by show (0 : Int) < _; decide), rfl, _, rfl, iteD (fun _ => ?_) (fun _ => ⟨v, L, ⟨o4, o5, rfl⟩, by omega, I1⟩)⟩⟩
          refine ⟨_, rfl, _, rfl, _, _, rfl, rfl, ⟨by decide, by decide⟩, _, _, rfl, rfl, (by show (0 : Int) < _; decide), by show 2 ≤ sizeLine; decide, fun t1 n1 => ⟨by show 1 ≤ sizeLine; decide, fun t2 n2 => ?_⟩⟩
          refine add_ev ("told", [_]) I1.1 n1 n2 (by omega) fun p H2 K2 ht => ?_
          exact ⟨_, _, ⟨o4, o5, rfl⟩, by rw [List.length_append]; simp; omega, plain I1 K2 ht (nd_told _) (ok_told _) (by simp)⟩
        · rintro σ H1 ⟨v, L, ⟨o4, o5, rfl⟩, hL, I1⟩
          refine ⟨_, rfl, .inl ⟨_, rfl, _, _, rfl, rfl, (by show (0 : Int) < _; decide), _, _, rfl, rfl, _, rfl, iteD (fun _ => ?_) (fun _ => ⟨v, L, ⟨some (.int z), o4, o5, rfl⟩, by omega, I1⟩)⟩⟩
          -- count = 1 + cell // 120 % 8; the question
          refine ⟨_, rfl, _, _, rfl, rfl, ⟨by decide, by decide⟩, _, _, rfl, rfl, (by show (0 : Int) < _; decide), _, _, rfl, rfl, ?_⟩
          have hc0 : (0 : Int) < 1 + z / 120 % 8 := by omega
          refine ⟨_, rfl, _, rfl, _, _, rfl, rfl, ⟨by decide, by decide⟩, _, _, rfl, rfl, (by show (0 : Int) < _; decide), _, rfl, by show 3 ≤ sizeLine; decide, fun t1 n1 => ⟨by show 1 ≤ sizeLine; decide, fun t2 n2 => ?_⟩⟩
          refine add_ev ("move", [_, _]) I1.1 n1 n2 (by omega) fun p H2 K2 ht => ?_
          have I2 := plain I1 K2 ht (nd_move _) (ok_move _) (by simp)
          have hL2 : (L ++ [(("move", [z / 4 % 30, 1 + z / 120 % 8]) : Ev)]).length ≤ 4 * i + 3 := by rw [List.length_append]; simp; omega
          -- move = cell // 960 % count; rows.append((view, move))
          refine ⟨_, rfl, _, _, rfl, rfl, ⟨by decide, by decide⟩, _, rfl, _, _, rfl, rfl, hc0, ?_⟩
          obtain ⟨g1, g2, g3, g4, rs, g5, g6⟩ := I2
          refine ⟨_, rfl, .inl ⟨rfl, _, SqL.of g5⟩, _, rfl, _, rfl, by show 2 ≤ sizeLine; decide, fun rt nrt => ?_⟩
          have k3 : Keep [] H2 (upd H2 rt (.tup [.ref p, .int (z / 960 % (1 + z / 120 % 8))])) := Keep.new nrt
          have hrl : rs.length ≤ 1000 := by
            have e1 : rs.length = (allRows (L ++ [(("move", [z / 4 % 30, 1 + z / 120 % 8]) : Ev)])).length := by rw [g6.length, List.length_map]
            have e2 := allRows_len (L ++ [(("move", [z / 4 % 30, 1 + z / 120 % 8]) : Ev)])
            omega
          refine ⟨_, _, _, rfl, rfl, k3 _ _ g5 (by simp), smallL (by omega), ?_⟩
          have nrM : rt ≠ M := (ne_of_none g5 nrt).symm
          have k4 : TK (upd H2 rt (.tup [.ref p, .int (z / 960 % (1 + z / 120 % 8))])) (upd (upd H2 rt (.tup [.ref p, .int (z / 960 % (1 + z / 120 % 8))])) M (.lst (rs ++ [.ref rt]))) := TK.lst (k3 _ _ g5 (by simp))
          have kM : Keep [] H (upd (upd H2 rt (.tup [.ref p, .int (z / 960 % (1 + z / 120 % 8))])) M (.lst (rs ++ [.ref rt]))) := (g4.trans k3).then_own hM0
          have hv4 := (g1.tk k3.tk).tk k4
          -- view + (('did', move),)
          refine ⟨_, rfl, _, rfl, by show 2 ≤ sizeLine; decide, fun t1 n1 => ⟨by show 1 ≤ sizeLine; decide, fun t2 n2 => ?_⟩⟩
          refine add_ev ("did", [_]) hv4 n1 n2 (by omega) fun p5 H5 K5 ht5 => ?_
          refine ⟨_, _, ⟨_, _, _, rfl⟩, by rw [List.length_append]; simp only [List.length_cons, List.length_nil]; omega, ht5, good_snoc g2 (by simp), oks_snoc g3 (ok_did _), kM.trans K5, rs ++ [.ref rt], K5 _ _ upd_same (by simp), ?_⟩
          rw [allRows_snoc, if_pos (yd_did _), List.map_append]
          refine ((g6.tk k3.tk).tk (k4.trans K5.tk)).snoc ?_
          exact .tup (K5.tk _ _ (k4 _ _ upd_same)) (.cons (hv4.tk K5.tk) (.cons (.int _) .nil))
    · rintro σ H1 ⟨v, L, ⟨o3, o4, o5, rfl⟩, hL, I1⟩
      rw [List.length_map] at hL
      have hS1 : SqL K H1 a (ns.map V.int) := I1.2.2.2.1.seqL hS (by simp)
      -- way
      refine ⟨_, rfl, a, ns, 0, rfl, hS1, by decide, fun w0 => ?_⟩
      refine ⟨_, _, rfl, rfl, ⟨by decide, by decide⟩, _, rfl, a, ns, 1, rfl, hS1, by decide, fun w1 => ?_⟩
      refine ⟨_, _, rfl, rfl, .inl ⟨by decide, by decide⟩, _, _, rfl, rfl, _, rfl, _, _, rfl, .inl hS1, _, _, rfl, rfl, .inl ⟨by decide, by decide⟩, _, _, rfl, rfl, _, rfl, ?_⟩
      generalize (if w0 / 7 + 31 * w1 + 1009 * (((ns.map V.int).length : Nat) : Int) < 0 then -(w0 / 7 + 31 * w1 + 1009 * (((ns.map V.int).length : Nat) : Int)) else w0 / 7 + 31 * w1 + 1009 * (((ns.map V.int).length : Nat) : Int)) = way
      refine ⟨fun σ H' => ∃ (v : V) (L : List Ev), σ = [some (.ref a), some v, some (.ref M), o3, o4, o5, some (.int way), none, none, none, none, none] ∧ L.length ≤ 300 ∧ Inv0 v L H', ?_, ?_⟩
      · refine ⟨_, rfl, .inl ⟨_, rfl, _, _, rfl, rfl, (by show (0 : Int) < _; decide), _, _, rfl, rfl, _, rfl, iteD (fun _ => ?_) (fun _ => ⟨v, L, rfl, by omega, I1⟩)⟩⟩
        refine ⟨_, rfl, _, rfl, _, _, rfl, rfl, ⟨by decide, by decide⟩, _, _, rfl, rfl, (by show (0 : Int) < _; decide), _, rfl, _, _, rfl, rfl, ⟨by decide, by decide⟩, _, _, rfl, rfl, (by show (0 : Int) < _; decide), _, _, rfl, rfl, by show 3 ≤ sizeLine; decide, fun t1 n1 => ⟨by show 1 ≤ sizeLine; decide, fun t2 n2 => ?_⟩⟩
        refine add_ev ("move", [_, _]) I1.1 n1 n2 (by omega) fun p H2 K2 ht => ?_
        exact ⟨_, _, rfl, by rw [List.length_append]; simp; omega, plain I1 K2 ht (nd_move _) (ok_move _) (by simp)⟩
      · clear I1 hS1 hL
        rintro σ H1 ⟨v, L, rfl, hL, I1⟩
        obtain ⟨h1, h2, h3, h4, rs, h5, h6⟩ := id I1
        have hrl : rs.length = (allRows L).length := by rw [h6.length, List.length_map]
        have hrn := allRows_len L
        have oks : ∀ r ∈ allRows L, ∀ e ∈ r.1, OkE e := fun r hr e he => by
          obtain ⟨N, hN⟩ := allRows_mem (V := r.1) (k := r.2) hr
          exact h3 e (by rw [hN]; exact List.mem_append_left _ he)
        have okl : ∀ {r : Row} {U : List Ev}, (∀ e ∈ U, OkE e) → lastRow U = some r → ∀ e ∈ r.1, OkE e := fun {r U} hU hr e he => by
          obtain ⟨N, hN⟩ := lastRow_pre (V := r.1) (k := r.2) hr
          exact hU e (by rw [hN]; exact List.mem_append_left _ he)
        -- due
        refine ⟨_, rfl, by show 1 ≤ sizeLine; decide, fun e1 ne1 => ?_⟩
        refine ⟨_, _, _, _, rfl, rfl, (by rw [upd_ne (ne_of_none h5 ne1)]; exact h5), upd_same, by simp only [List.length_cons, List.length_nil]; exact smallM (by omega), fun e2 ne2 => ?_⟩
        have k2 : Keep [] H1 (upd (upd H1 e1 (.lst [.non])) e2 (.lst (rs ++ [.non]))) := (Keep.new ne1).then_new ne2
        have I2 := stay I1 k2
        obtain ⟨d, hd1, hd2⟩ : ∃ d, atI (rs ++ [V.non]) (if ((rs.length : Nat) : Int) - 1 > 0 then ((rs.length : Nat) : Int) - 1 else 0) = some d ∧ TD (upd (upd H1 e1 (.lst [.non])) e2 (.lst (rs ++ [.non]))) d (dRowO (lastRow L)) := by
          rw [lastRow_last]
          cases hq : allRows L with
          | nil =>
            rw [hq] at hrl h6
            have e0 : rs = [] := List.eq_nil_of_length_eq_zero hrl
            subst e0
            exact ⟨.non, rfl, .non⟩
          | cons r0 rr =>
            have hpos : 0 < rs.length := by rw [hrl, hq]; simp
            have ei : (if ((rs.length : Nat) : Int) - 1 > 0 then ((rs.length : Nat) : Int) - 1 else 0) = ((rs.length - 1 : Nat) : Int) := by split <;> omega
            have hlast : (allRows L)[rs.length - 1]? = (allRows L).getLast? := by rw [List.getLast?_eq_getElem?, hrl]
            have hlt : rs.length - 1 < (allRows L).length := by omega
            have hsome : (allRows L)[rs.length - 1]? = some ((allRows L)[rs.length - 1]) := List.getElem?_eq_getElem hlt
            obtain ⟨d, g1, g2⟩ := h6.get (i := rs.length - 1) (d := dRow ((allRows L)[rs.length - 1])) (by rw [List.getElem?_map, hsome]; rfl)
            refine ⟨d, ?_, ?_⟩
            · rw [ei]; exact atI_nat (by rw [List.getElem?_append_left (by omega)]; exact g1)
            · rw [← hq, ← hlast, hsome]; exact g2.tk k2.tk
        refine ⟨_, rfl, _, _, rfl, .inl (SqL.of (k2 _ _ h5 (by simp))), _, _, rfl, rfl, _, _, rfl, _, _, _, _, rfl, rfl, SqL.of upd_same, hd1, ?_⟩
        -- the last row of the view
        refine ⟨_, rfl, v, L, rfl, I2.1, by omega, h2, fun r H3 K3 hr3 => ?_⟩
        have I3 := stay I2 K3
        refine ⟨_, rfl, r, d, lastRow L, rfl, hr3, hd2.tk K3.tk, fun q e => okl h3 e, _, rfl, iteF ?_⟩
        -- twice the way
        refine ⟨2, rfl, by decide, by decide, for_range (lo := 0) (n := 2) (fun i σ H' => ∃ o8 o9 : Option V, σ = [some (.ref a), some v, some (.ref M), o3, o4, o5, some (.int way), some d, o8, o9, none, none] ∧ Inv0 v L H' ∧ TD H' d (dRowO (lastRow L)))
          ⟨none, none, rfl, I3, hd2.tk K3.tk⟩ ?_ ?_⟩
        · rintro i σ H4 hi ⟨o8, o9, rfl, I4, D4⟩
          refine ⟨_, rfl, v, L, rfl, I4.1, by omega, h2, fun p xs H5 K5 np hp hx => ?_⟩
          have I5 := stay I4 K5
          obtain ⟨_, _, _, _, rs5, m5, t5⟩ := id I5
          refine ⟨_, rfl, _, rfl, p, M, xs, rs5, allRows L, rfl, hp, m5, hx, t5, by omega, oks, _, rfl, iteF ?_⟩
          refine ⟨_, rfl, .inl ⟨rfl, _, SqL.of hp⟩, _, _, _, rfl, rfl, hp, by rw [hx.length, List.length_map]; exact smallL (by omega), ?_⟩
          have tkp : TK H5 (upd H5 p (.lst (xs ++ [.str "spoilt"]))) := TK.lst hp
          have nMp : M ≠ p := by
            obtain ⟨_, _, _, _, rs4, m4, t4⟩ := I4
            exact ne_of_none m4 np
          obtain ⟨q1, q2, q3, q4, _⟩ := I5
          refine ⟨_, _, rfl, ⟨q1.tk tkp, q2, q3, q4.then_own (I4.2.2.2.1.free np), rs5, by rw [upd_ne nMp]; exact m5, t5.tk tkp⟩, (D4.tk K5.tk).tk tkp⟩
        · rintro σ H4 ⟨o8, o9, rfl, I4, D4⟩
          obtain ⟨q1, q2, q3, q4, rs4, m4, t4⟩ := id I4
          have hrl4 : rs4.length = (allRows L).length := by rw [t4.length, List.length_map]
          refine ⟨_, rfl, _, _, rfl, .inl (SqL.of m4), rfl, _, rfl, iteD (fun _ => k _) (fun hne => ?_)⟩
          have hpos : (0 : Int) < ((rs4.length : Nat) : Int) := by
            have : ¬ ((rs4.length : Nat) : Int) = 0 := fun z => hne (congrArg V.int z)
            omega
          -- place
          refine ⟨_, rfl, _, _, rfl, rfl, ⟨by decide, by decide⟩, .inl ⟨_, rfl, _, rfl, _, _, rfl, .inl (SqL.of m4), _, _, rfl, rfl, hpos, ?_⟩⟩
          obtain ⟨j, hj⟩ : ∃ j : Nat, way / 7 % ((rs4.length : Nat) : Int) = (j : Int) := ⟨(way / 7 % ((rs4.length : Nat) : Int)).toNat, by have := Int.emod_nonneg (way / 7) (show ((rs4.length : Nat) : Int) ≠ 0 by omega); omega⟩
          have hjlt : j < rs4.length := by have := Int.emod_lt_of_pos (way / 7) hpos; omega
          show gName 10 (V.int (way / 7 % ((rs4.length : Nat) : Int))) _ _ _
          rw [hj]
          have hjr : j < (allRows L).length := by omega
          obtain ⟨U, kk, hU⟩ : ∃ U kk, (allRows L)[j]? = some (U, kk) := ⟨_, _, List.getElem?_eq_getElem hjr⟩
          obtain ⟨rv, grv, drv⟩ := t4.get (i := j) (d := dRow (U, kk)) (by rw [List.getElem?_map, hU]; rfl)
          obtain ⟨ra, rxs, rfl, hra, hrx⟩ := td_view (ds := [dView U, .int kk]) drv
          obtain ⟨u0, gu0, du0⟩ := hrx.get (i := 0) (d := dView U) rfl
          obtain ⟨N, hN⟩ := allRows_mem (List.mem_of_getElem? hU)
          have hUl : U.length ≤ L.length := by rw [hN, List.length_append]; omega
          have gU := h2.pre hN
          have okU : ∀ e ∈ U, OkE e := fun e he => h3 e (by rw [hN]; exact List.mem_append_left _ he)
          refine ⟨_, rfl, _, rfl, _, _, _, _, rfl, rfl, SqL.of m4, atI_nat grv, _, _, _, _, rfl, rfl, SqT.of hra, atI_nat (j := 0) gu0, ?_⟩
          refine ⟨_, rfl, u0, U, rfl, du0, by omega, gU, fun p xs H5 K5 np hp hx => ?_⟩
          have I5 := stay I4 K5
          obtain ⟨_, _, _, _, rs5, m5, t5⟩ := id I5
          have hrl5 : rs5.length = (allRows L).length := by rw [t5.length, List.length_map]
          refine ⟨_, rfl, _, rfl, _, rfl, _, _, rfl, SqL.of m5, fun sl nsl => ?_⟩
          have ecut : cutV rs5 none (some (j : Int)) = rs5.take j := by
            show (rs5.drop (HT.sIx rs5.length 0 none)).take (HT.sIx rs5.length rs5.length (some (j : Int)) - HT.sIx rs5.length 0 none) = rs5.take j
            rw [HT.sIx_none, HT.sIx_nat, List.drop_zero, Nat.sub_zero, Nat.min_eq_left (by omega)]
          rw [ecut]
          have k6 : Keep [] H5 (upd H5 sl (.lst (rs5.take j))) := Keep.new nsl
          have I6 := stay I5 k6
          have tU := allRows_take hU
          refine ⟨p, sl, xs, rs5.take j, allRows U, rfl, k6 _ _ hp (by simp), upd_same, hx.tk k6.tk, ?_, ?_, ?_, _, rfl, iteF ?_⟩
          · rw [tU, List.map_take]; exact (t5.take j).tk k6.tk
          · rw [tU, List.length_take]; omega
          · intro r hr; rw [tU] at hr; exact oks r (List.mem_of_mem_take hr)
          -- the end
          refine ⟨_, rfl, u0, U, rfl, (du0.tk K5.tk).tk k6.tk, by omega, gU, fun r H7 K7 hr7 => ?_⟩
          have I7 := stay I6 K7
          obtain ⟨_, _, _, _, rs7, m7, t7⟩ := id I7
          have hrl7 : rs7.length = (allRows L).length := by rw [t7.length, List.length_map]
          refine ⟨by show 1 ≤ sizeLine; decide, fun c1 nc1 => ⟨_, rfl, ?_⟩⟩
          refine ⟨_, _, _, _, rfl, rfl, upd_same, (by rw [upd_ne (ne_of_none m7 nc1)]; exact m7), by simp only [List.length_cons, List.length_nil]; exact smallM (by omega), fun c2 nc2 => ?_⟩
          have k8 : Keep [] H7 (upd (upd H7 c1 (.lst [.non])) c2 (.lst ([V.non] ++ rs7))) := (Keep.new nc1).then_new nc2
          have I8 := stay I7 k8
          obtain ⟨y, gy, dy⟩ : ∃ y, ([V.non] ++ rs7)[j]? = some y ∧ TD (upd (upd H7 c1 (.lst [.non])) c2 (.lst ([V.non] ++ rs7))) y (dRowO (lastRow U)) := by
            rw [lastRow_last, tU]
            cases j with
            | zero => exact ⟨.non, rfl, .non⟩
            | succ j' =>
              have hlt : j' < (allRows L).length := by omega
              have hsome : (allRows L)[j']? = some ((allRows L)[j']) := List.getElem?_eq_getElem hlt
              obtain ⟨y, g1, g2⟩ := t7.get (i := j') (d := dRow ((allRows L)[j'])) (by rw [List.getElem?_map, hsome]; rfl)
              refine ⟨y, by simpa using g1, ?_⟩
              have e1 : ((allRows L).take (j' + 1)).getLast? = some ((allRows L)[j']) := by
                rw [List.getLast?_eq_getElem?, List.length_take, Nat.min_eq_left (by omega), List.getElem?_take_of_lt (by omega)]
                exact hsome
              rw [e1]; exact g2.tk k8.tk
          refine ⟨_, rfl, _, _, _, _, rfl, rfl, SqL.of upd_same, atI_nat gy, ?_⟩
          refine ⟨r, y, lastRow U, rfl, hr7.tk k8.tk, dy, fun q e => okl okU e, _, rfl, iteT ?_⟩
          refine ⟨_, rfl, v, L, rfl, I8.1, by omega, h2, fun r9 H9 K9 hr9 => ?_⟩
          refine ⟨_, rfl, r9, d, lastRow L, rfl, hr9, ?_, fun q e => okl h3 e, k _⟩
          exact ((((D4.tk K5.tk).tk k6.tk).tk K7.tk).tk k8.tk).tk K9.tk
end

theorem all_mk {l : PySem.W.OpenLaw} {w : World} {K : PySem.W.Frag} {h : Heap} {mg : Str → Option Value} {fa : Addr} (X : K.In h) (G : h.Ns mainGlobals mg) (hfa : mg "law" = some (.ref fa))
    {f_last_row : Addr} {od_last_row an_last_row : Option Addr} {sl_last_row : Array (Option Value)} {oc_last_row kV_last_row dc_last_row pm_last_row cd_last_row ct_last_row : Value}
    {f_way_to : Addr} {od_way_to an_way_to : Option Addr} {sl_way_to : Array (Option Value)} {oc_way_to kV_way_to dc_way_to pm_way_to cd_way_to ct_way_to : Value}
    {f_law_cell : Addr} {od_law_cell an_law_cell : Option Addr} {sl_law_cell : Array (Option Value)} {oc_law_cell kV_law_cell dc_law_cell pm_law_cell cd_law_cell ct_law_cell : Value}
    {f_law_is_integer : Addr} {od_law_is_integer an_law_is_integer : Option Addr} {sl_law_is_integer : Array (Option Value)} {oc_law_is_integer kV_law_is_integer dc_law_is_integer pm_law_is_integer cd_law_is_integer ct_law_is_integer : Value}
    {f_law_is_row : Addr} {od_law_is_row an_law_is_row : Option Addr} {sl_law_is_row : Array (Option Value)} {oc_law_is_row kV_law_is_row dc_law_is_row pm_law_is_row cd_law_is_row ct_law_is_row : Value}
    {f_law_are_rows : Addr} {od_law_are_rows an_law_are_rows : Option Addr} {sl_law_are_rows : Array (Option Value)} {oc_law_are_rows kV_law_are_rows dc_law_are_rows pm_law_are_rows cd_law_are_rows ct_law_are_rows : Value}
    {f_law : Addr} {od_law an_law : Option Addr} {sl_law : Array (Option Value)} {oc_law kV_law dc_law pm_law cd_law ct_law : Value}
    (a_last_row : PySem.W.nsIn K mainGlobals "last_row" = some (some (.ref f_last_row))) (l_last_row : K.lookup f_last_row = some ⟨oc_last_row, od_last_row, .func (PySem.W.fnOf "last_row" "last_row" (fnArgs s_last_row) (fnBody s_last_row) (fnScope s_last_row) .none kV_last_row dc_last_row pm_last_row an_last_row cd_last_row ct_last_row), sl_last_row⟩) (c_last_row : PySem.W.codeIn K cd_last_row "last_row" = true) (k_last_row : PySem.W.keepIn K (.ref f_last_row) = true)
    (a_way_to : PySem.W.nsIn K mainGlobals "way_to" = some (some (.ref f_way_to))) (l_way_to : K.lookup f_way_to = some ⟨oc_way_to, od_way_to, .func (PySem.W.fnOf "way_to" "way_to" (fnArgs s_way_to) (fnBody s_way_to) (fnScope s_way_to) .none kV_way_to dc_way_to pm_way_to an_way_to cd_way_to ct_way_to), sl_way_to⟩) (c_way_to : PySem.W.codeIn K cd_way_to "way_to" = true) (k_way_to : PySem.W.keepIn K (.ref f_way_to) = true)
    (a_law_cell : PySem.W.nsIn K mainGlobals "_law_cell" = some (some (.ref f_law_cell))) (l_law_cell : K.lookup f_law_cell = some ⟨oc_law_cell, od_law_cell, .func (PySem.W.fnOf "_law_cell" "_law_cell" (fnArgs s_law_cell) (fnBody s_law_cell) (fnScope s_law_cell) .none kV_law_cell dc_law_cell pm_law_cell an_law_cell cd_law_cell ct_law_cell), sl_law_cell⟩) (c_law_cell : PySem.W.codeIn K cd_law_cell "_law_cell" = true) (k_law_cell : PySem.W.keepIn K (.ref f_law_cell) = true)
    (a_law_is_integer : PySem.W.nsIn K mainGlobals "_law_is_integer" = some (some (.ref f_law_is_integer))) (l_law_is_integer : K.lookup f_law_is_integer = some ⟨oc_law_is_integer, od_law_is_integer, .func (PySem.W.fnOf "_law_is_integer" "_law_is_integer" (fnArgs s_law_is_integer) (fnBody s_law_is_integer) (fnScope s_law_is_integer) .none kV_law_is_integer dc_law_is_integer pm_law_is_integer an_law_is_integer cd_law_is_integer ct_law_is_integer), sl_law_is_integer⟩) (c_law_is_integer : PySem.W.codeIn K cd_law_is_integer "_law_is_integer" = true) (k_law_is_integer : PySem.W.keepIn K (.ref f_law_is_integer) = true)
    (a_law_is_row : PySem.W.nsIn K mainGlobals "_law_is_row" = some (some (.ref f_law_is_row))) (l_law_is_row : K.lookup f_law_is_row = some ⟨oc_law_is_row, od_law_is_row, .func (PySem.W.fnOf "_law_is_row" "_law_is_row" (fnArgs s_law_is_row) (fnBody s_law_is_row) (fnScope s_law_is_row) .none kV_law_is_row dc_law_is_row pm_law_is_row an_law_is_row cd_law_is_row ct_law_is_row), sl_law_is_row⟩) (c_law_is_row : PySem.W.codeIn K cd_law_is_row "_law_is_row" = true) (k_law_is_row : PySem.W.keepIn K (.ref f_law_is_row) = true)
    (a_law_are_rows : PySem.W.nsIn K mainGlobals "_law_are_rows" = some (some (.ref f_law_are_rows))) (l_law_are_rows : K.lookup f_law_are_rows = some ⟨oc_law_are_rows, od_law_are_rows, .func (PySem.W.fnOf "_law_are_rows" "_law_are_rows" (fnArgs s_law_are_rows) (fnBody s_law_are_rows) (fnScope s_law_are_rows) .none kV_law_are_rows dc_law_are_rows pm_law_are_rows an_law_are_rows cd_law_are_rows ct_law_are_rows), sl_law_are_rows⟩) (c_law_are_rows : PySem.W.codeIn K cd_law_are_rows "_law_are_rows" = true) (k_law_are_rows : PySem.W.keepIn K (.ref f_law_are_rows) = true)
    (a_law : PySem.W.nsIn K mainGlobals "law" = some (some (.ref f_law))) (l_law : K.lookup f_law = some ⟨oc_law, od_law, .func (PySem.W.fnOf "law" "law" (fnArgs s_law) (fnBody s_law) (fnScope s_law) .none kV_law dc_law pm_law an_law cd_law ct_law), sl_law⟩) (c_law : PySem.W.codeIn K cd_law "law" = true) (k_law : PySem.W.keepIn K (.ref f_law) = true)
    (z_abs : PySem.W.nsIn K mainGlobals "abs" = some none)
    (z_bool : PySem.W.nsIn K mainGlobals "bool" = some none)
    (z_int : PySem.W.nsIn K mainGlobals "int" = some none)
    (z_isinstance : PySem.W.nsIn K mainGlobals "isinstance" = some none)
    (z_len : PySem.W.nsIn K mainGlobals "len" = some none)
    (z_list : PySem.W.nsIn K mainGlobals "list" = some none)
    (z_max : PySem.W.nsIn K mainGlobals "max" = some none)
    (z_range : PySem.W.nsIn K mainGlobals "range" = some none)
    (z_tuple : PySem.W.nsIn K mainGlobals "tuple" = some none)
    : ∃ fd : FuncData, (∀ (s : Shared) (v : Value), BindsTo s fd ⟨[v], []⟩ [("script", v)]) ∧ ∀ base : Heap, K.In base → base.Ns mainGlobals mg → FnOk l.prog w K mg base C8.CX0 4 fa fd ["script"] (sp_law K) := by
  have e := hfa.symm.trans (PySem.W.mg_of X G a_law)
  cases e
  have T : Txt K mg := ⟨PySem.W.mg_none_of X G z_abs, PySem.W.mg_none_of X G z_bool, PySem.W.mg_none_of X G z_int, PySem.W.mg_none_of X G z_isinstance, PySem.W.mg_none_of X G z_len, PySem.W.mg_none_of X G z_list, PySem.W.mg_none_of X G z_max, PySem.W.mg_none_of X G z_range, PySem.W.mg_none_of X G z_tuple, True.intro⟩
  have D_last_row : C8.Def K mg "last_row" s_last_row _ _ := ⟨⟨⟨_, _, _, _, _, _, _, _, _, _, rfl, l_last_row, c_last_row⟩⟩, PySem.W.mg_of X G a_last_row, k_last_row⟩
  have b_last_row : Binds K _ ["view"] [] := C8.Fun.binds D_last_row.fn rfl fun _ _ _ _ _ _ us hl => match us, hl with | [_], _ => rfl
  have D_way_to : C8.Def K mg "way_to" s_way_to _ _ := ⟨⟨⟨_, _, _, _, _, _, _, _, _, _, rfl, l_way_to, c_way_to⟩⟩, PySem.W.mg_of X G a_way_to, k_way_to⟩
  have b_way_to : Binds K _ ["view"] [] := C8.Fun.binds D_way_to.fn rfl fun _ _ _ _ _ _ us hl => match us, hl with | [_], _ => rfl
  have D_law_cell : C8.Def K mg "_law_cell" s_law_cell _ _ := ⟨⟨⟨_, _, _, _, _, _, _, _, _, _, rfl, l_law_cell, c_law_cell⟩⟩, PySem.W.mg_of X G a_law_cell, k_law_cell⟩
  have b_law_cell : Binds K _ ["script", "k"] [] := C8.Fun.binds D_law_cell.fn rfl fun _ _ _ _ _ _ us hl => match us, hl with | [_, _], _ => rfl
  have D_law_is_integer : C8.Def K mg "_law_is_integer" s_law_is_integer _ _ := ⟨⟨⟨_, _, _, _, _, _, _, _, _, _, rfl, l_law_is_integer, c_law_is_integer⟩⟩, PySem.W.mg_of X G a_law_is_integer, k_law_is_integer⟩
  have b_law_is_integer : Binds K _ ["actual"] [] := C8.Fun.binds D_law_is_integer.fn rfl fun _ _ _ _ _ _ us hl => match us, hl with | [_], _ => rfl
  have D_law_is_row : C8.Def K mg "_law_is_row" s_law_is_row _ _ := ⟨⟨⟨_, _, _, _, _, _, _, _, _, _, rfl, l_law_is_row, c_law_is_row⟩⟩, PySem.W.mg_of X G a_law_is_row, k_law_is_row⟩
  have b_law_is_row : Binds K _ ["actual", "due"] [] := C8.Fun.binds D_law_is_row.fn rfl fun _ _ _ _ _ _ us hl => match us, hl with | [_, _], _ => rfl
  have D_law_are_rows : C8.Def K mg "_law_are_rows" s_law_are_rows _ _ := ⟨⟨⟨_, _, _, _, _, _, _, _, _, _, rfl, l_law_are_rows, c_law_are_rows⟩⟩, PySem.W.mg_of X G a_law_are_rows, k_law_are_rows⟩
  have b_law_are_rows : Binds K _ ["actual", "due"] [] := C8.Fun.binds D_law_are_rows.fn rfl fun _ _ _ _ _ _ us hl => match us, hl with | [_, _], _ => rfl
  have F_law : C8.Fun K "law" "law" s_law _ _ := ⟨⟨_, _, _, _, _, _, _, _, _, _, rfl, l_law, c_law⟩⟩
  refine ⟨PySem.W.fnOf "law" "law" (fnArgs s_law) (fnBody s_law) (fnScope s_law) .none kV_law dc_law pm_law an_law cd_law ct_law, fun s v => .of_eq rfl, fun base _ _ => ?_⟩
  have c_last_row := ok_last_row (P := l.prog) (w := w) (base := base) D_last_row b_last_row T
  have c_way_to := ok_way_to D_way_to b_way_to T c_last_row
  have c_law_cell := ok_law_cell (P := l.prog) (w := w) (base := base) D_law_cell b_law_cell T
  have c_law_is_integer := ok_law_is_integer (P := l.prog) (w := w) (base := base) D_law_is_integer b_law_is_integer T
  have c_law_is_row := ok_law_is_row D_law_is_row b_law_is_row T c_law_is_integer
  have c_law_are_rows := ok_law_are_rows D_law_are_rows b_law_are_rows T c_law_is_row
  exact ok_law F_law T c_last_row c_way_to c_law_cell c_law_is_row c_law_are_rows
theorem walk {l : PySem.W.OpenLaw} {q : Program} {loose : List Str} {XP : (Str → Option Value) → Heap → Prop} {YP : World → Heap → Prop} {d : DefRec} {K : Params → PySem.W.Frag} (hn : l.most = some 63) (hdf : d.params.defaults = [])
    (hY : ∀ (w : World) (h : Heap), YP w h → (K w.params).In h)
    (F : ∀ (w : World) (mg : Str → Option Value) (fa : Addr) (h : Heap), (K w.params).In h → h.Ns mainGlobals mg → mg d.name = some (.ref fa) →
      ∃ fd : FuncData, (∀ (s : Shared) (u : Value), BindsTo s fd ⟨[u], []⟩ [("script", u)]) ∧ ∀ base : Heap, (K w.params).In base → base.Ns mainGlobals mg → FnOk l.prog w (K w.params) mg base C8.CX0 4 fa fd ["script"] (sp_law (K w.params))) :
    PySem.W.WalkO q loose XP YP l.row.toRowW d [] (fun f vs => PySem.call f vs) :=
  L2.walk_ofB (n := 63) (k := 4) (x := "script") (CX := fun _ => C8.CX0) (sp := fun w => sp_law (K w.params)) hn (by decide) hdf ⟨rfl, by decide, by decide⟩ hY F (fun _ _ a ns hl hb _ hS => ⟨a, ns, rfl, hS, hl, fun _ => rfl⟩) fun _ _ _ _ _ z => z
end My
open PySem PySem.W PyProof.Rows
set_option maxRecDepth 100000 in
set_option maxHeartbeats 0 in
theorem PySem.Challenge.cw_bothgain_k34_last_rows_and_ways_holds : PySem.Challenge.rw_bothgain_k34_last_rows_and_ways.Holds := by
  w_on; o_law; k_head; (case hw => w_witness2)
  k_fill
  refine My.walk (l := PySem.Challenge.rw_bothgain_k34_last_rows_and_ways) rfl rfl (fun w h Y => PySem.W.kIn_of Y) ?F
  case F =>
    intro w mg fa h KX G hmg
    refine' My.all_mk KX G hmg ?a_last_row ?l_last_row ?c_last_row ?k_last_row ?a_way_to ?l_way_to ?c_way_to ?k_way_to ?a_law_cell ?l_law_cell ?c_law_cell ?k_law_cell ?a_law_is_integer ?l_law_is_integer ?c_law_is_integer ?k_law_is_integer ?a_law_is_row ?l_law_is_row ?c_law_is_row ?k_law_is_row ?a_law_are_rows ?l_law_are_rows ?c_law_are_rows ?k_law_are_rows ?a_law ?l_law ?c_law ?k_law ?z_abs ?z_bool ?z_int ?z_isinstance ?z_len ?z_list ?z_max ?z_range ?z_tuple
    (case a_last_row => k_is)
    (case l_last_row => k_is)
    (case c_last_row => k_is)
    (case k_last_row => k_is)
    (case a_way_to => k_is)
    (case l_way_to => k_is)
    (case c_way_to => k_is)
    (case k_way_to => k_is)
    (case a_law_cell => k_is)
    (case l_law_cell => k_is)
    (case c_law_cell => k_is)
    (case k_law_cell => k_is)
    (case a_law_is_integer => k_is)
    (case l_law_is_integer => k_is)
    (case c_law_is_integer => k_is)
    (case k_law_is_integer => k_is)
    (case a_law_is_row => k_is)
    (case l_law_is_row => k_is)
    (case c_law_is_row => k_is)
    (case k_law_is_row => k_is)
    (case a_law_are_rows => k_is)
    (case l_law_are_rows => k_is)
    (case c_law_are_rows => k_is)
    (case k_law_are_rows => k_is)
    (case a_law => k_is)
    (case l_law => k_is)
    (case c_law => k_is)
    (case k_law => k_is)
    (case z_abs => k_is)
    (case z_bool => k_is)
    (case z_int => k_is)
    (case z_isinstance => k_is)
    (case z_len => k_is)
    (case z_list => k_is)
    (case z_max => k_is)
    (case z_range => k_is)
    (case z_tuple => k_is)

