
import PyProof.Rows.All
import Wide.All
import OpenK.AllK
import Wide.FinOn
import HandS.ForMost
import HandS.Codes
import HandS.IsInst
import HandS.EndBits
import HandS.Walk
import HandS.DeepEq
import HandS.Gcd
import HandS.Wide
import HandS.Defaults
import HandS.OwnEq
import HandS.Dict
import HandS.WordsDict
import PySem.Challenge.RW_bothgain_k23_folded_expressions
set_option Elab.async false
set_option linter.all false
set_option maxRecDepth 100000
set_option maxHeartbeats 4000000

namespace My
open PySem L2 C8 SX
/-! own base: tests, heaps -/
theorem bo_len : bootBuiltins "len" = some (.builtin "len") := by decide +kernel
theorem bo_isinstance : bootBuiltins "isinstance" = some (.builtin "isinstance") := by decide +kernel
theorem bo_min : bootBuiltins "min" = some (.builtin "min") := by decide +kernel
theorem bo_max : bootBuiltins "max" = some (.builtin "max") := by decide +kernel
theorem bo_abs : bootBuiltins "abs" = some (.builtin "abs") := by decide +kernel
theorem bo_int : bootBuiltins "int" = some (.type "int") := by decide +kernel
theorem bo_str : bootBuiltins "str" = some (.type "str") := by decide +kernel
theorem bo_bool : bootBuiltins "bool" = some (.type "bool") := by decide +kernel
theorem bo_list : bootBuiltins "list" = some (.type "list") := by decide +kernel
theorem bo_ord : bootBuiltins "ord" = some (.builtin "ord") := by decide +kernel
theorem bo_chr : bootBuiltins "chr" = some (.builtin "chr") := by decide +kernel
theorem bo_sum : bootBuiltins "sum" = some (.builtin "sum") := by decide +kernel
theorem bo_all : bootBuiltins "all" = some (.builtin "all") := by decide +kernel
theorem bo_any : bootBuiltins "any" = some (.builtin "any") := by decide +kernel
theorem bo_sorted : bootBuiltins "sorted" = some (.builtin "sorted") := by decide +kernel
theorem bo_tuple : bootBuiltins "tuple" = some (.type "tuple") := by decide +kernel
theorem iteD {p A B : Prop} [Decidable p] (h1 : p → A) (h2 : ¬ p → B) : if decide p = true then A else B := by
  by_cases h : p
  · rw [decide_eq_true h]; exact iteT (h1 h)
  · rw [decide_eq_false h]; exact iteF (h2 h)
theorem iteN {p A B : Prop} [Decidable p] (h1 : ¬ p → A) (h2 : p → B) : if (!decide p) = true then A else B := by
  by_cases h : p
  · rw [decide_eq_true h]; exact iteF (h2 h)
  · rw [decide_eq_false h]; exact iteT (h1 h)
theorem iteDT {p A B : Prop} [Decidable p] (h : p) (k : A) : if decide p = true then A else B := iteD (fun _ => k) fun z => absurd h z
theorem iteDF {p A B : Prop} [Decidable p] (h : ¬ p) (k : B) : if decide p = true then A else B := iteD (fun z => absurd z h) fun _ => k
theorem iteNT {p A B : Prop} [Decidable p] (h : ¬ p) (k : A) : if (!decide p) = true then A else B := iteN (fun _ => k) fun z => absurd z h
theorem iteNF {p A B : Prop} [Decidable p] (h : p) (k : B) : if (!decide p) = true then A else B := iteN (fun z => absurd h z) fun _ => k
theorem iteB {b : Bool} {A B : Prop} (h1 : b = true → A) (h2 : b = false → B) : if b = true then A else B := by
  cases b with
  | true => exact iteT (h1 rfl)
  | false => exact iteF (h2 rfl)
/-- in a comprehension without a test -/
theorem yes_then {σ : St} {H : Hp} {F G : Hp → Prop} (h : F H) : tYes σ H (fun b H3 => if b = true then F H3 else G H3) := h
/-- all that was tracked stands, but at W -/
def Keep (W : List Addr) (H H' : Hp) : Prop := ∀ b o, H b = some o → b ∉ W → H' b = some o
theorem Keep.refl (W : List Addr) (H : Hp) : Keep W H H := fun _ _ h _ => h
theorem Keep.trans {W : List Addr} {H H1 H2 : Hp} (a : Keep W H H1) (b : Keep W H1 H2) : Keep W H H2 := fun c o h w => b c o (a c o h w) w
theorem Keep.mono {W W' : List Addr} {H H1 : Hp} (a : Keep W H H1) (h : ∀ b, b ∈ W → b ∈ W') : Keep W' H H1 := fun c o q w => a c o q fun z => w (h c z)
theorem Keep.new {W : List Addr} {H : Hp} {p : Addr} {o : HO} (h : H p = none) : Keep W H (upd H p o) := fun b u q _ => by
  rw [upd_ne (ne_of_none q h)]; exact q
theorem Keep.at_ {W : List Addr} {H : Hp} {p : Addr} {o : HO} (h : p ∈ W) : Keep W H (upd H p o) := fun b u q w => by
  rw [upd_ne (fun z => w (by rw [z]; exact h))]; exact q
theorem Keep.then_new {W : List Addr} {H H1 : Hp} {p : Addr} {o : HO} (a : Keep W H H1) (h : H1 p = none) : Keep W H (upd H1 p o) := a.trans (Keep.new h)
theorem Keep.then_at {W : List Addr} {H H1 : Hp} {p : Addr} {o : HO} (a : Keep W H H1) (h : p ∈ W) : Keep W H (upd H1 p o) := a.trans (Keep.at_ h)
/-- what was new since H is not among the kept -/
theorem Keep.then_own {W : List Addr} {H H1 : Hp} {p : Addr} {o : HO} (a : Keep W H H1) (h : H p = none) : Keep W H (upd H1 p o) := fun b u q w => by
  rw [upd_ne (ne_of_none q h)]; exact a b u q w
theorem Keep.free {H H' : Hp} (e : Keep [] H H') {l : Addr} (h : H' l = none) : H l = none := by
  cases q : H l with
  | none => rfl
  | some o => rw [e l o q (by simp)] at h; cases h
theorem Keep.free1 {H H' : Hp} {p : Addr} {o : HO} (e : Keep [p] H H') (hp : H' p = some o) {l : Addr} (h : H' l = none) : H l = none := by
  cases q : H l with
  | none => rfl
  | some u =>
    by_cases z : l = p
    · subst z; rw [hp] at h; cases h
    · rw [e l u q (by simpa using z)] at h; cases h
theorem Keep.seqL {W : List Addr} {K : PySem.W.Frag} {H H' : Hp} {a : Addr} {xs : List V} (e : Keep W H H') (h : SqL K H a xs) (w : a ∉ W) : SqL K H' a xs := by
  rcases h with (h | ⟨o, h⟩) | h
  · exact .inl (.inl (e _ _ h w))
  · exact .inl (.inr ⟨o, e _ _ h w⟩)
  · exact .inr h
theorem Keep.seqT {W : List Addr} {K : PySem.W.Frag} {H H' : Hp} {a : Addr} {xs : List V} (e : Keep W H H') (h : SqT K H a xs) (w : a ∉ W) : SqT K H' a xs := by
  rcases h with (h | ⟨o, h⟩) | h
  · exact .inl (.inl (e _ _ h w))
  · exact .inl (.inr ⟨o, e _ _ h w⟩)
  · exact .inr h
theorem Keep.same {H H' : Hp} (e : Keep [] H H') : Same H H' := fun b o h => e b o h (by simp)
theorem ints_get {ns : List Int} {i : Nat} {v : V} (h : (ns.map V.int)[i]? = some v) : ∃ z, ns[i]? = some z ∧ v = V.int z := by
  rw [List.getElem?_map] at h
  cases e : ns[i]? with
  | none => rw [e] at h; cases h
  | some z => rw [e] at h; exact ⟨z, rfl, (Option.some.inj h).symm⟩
theorem strs_get {ns : List Str} {i : Nat} {v : V} (h : (ns.map V.str)[i]? = some v) : ∃ z, ns[i]? = some z ∧ v = V.str z := by
  rw [List.getElem?_map] at h
  cases e : ns[i]? with
  | none => rw [e] at h; cases h
  | some z => rw [e] at h; exact ⟨z, rfl, (Option.some.inj h).symm⟩
theorem smallM {n : Nat} (h : n ≤ 1000000) : n ≤ sizeLine := Nat.le_trans h (by decide)
theorem smallL {n : Nat} (h : n ≤ 1000000) : n < sizeLine := Nat.lt_of_le_of_lt h (by decide)
/-- a promise that asks the impossible: any def at all keeps it -/
def spNo : Sp := fun _ _ _ _ => False
/-! the same rules with the written part named (within a comprehension) -/
section
variable {X : Cx} {K : PySem.W.Frag}
theorem pe_fldK {e : Expr} {f : Str} {pos : Pos} {ta : TE} (he : PE X e ta) (hb : attributeBase e f X.env (eval e X.env) = eval e X.env) (hK : X.K = K := by rfl) : PE X (.Attribute e f pos) (tFld K ta f) := hK ▸ pe_fld he hb
theorem ix_listK (hK : X.K = K := by rfl) : IxR X (rIxL K) := hK ▸ ix_list
theorem ix_tupK (hK : X.K = K := by rfl) : IxR X (rIxT K) := hK ▸ ix_tup
theorem sl_listK (hK : X.K = K := by rfl) : SlR X (rSlL K) := hK ▸ sl_list
theorem sl_tupK (hK : X.K = K := by rfl) : SlR X (rSlT K) := hK ▸ sl_tup
theorem call_len_seqK (hK : X.K = K := by rfl) : CallR X (.builtin "len") (fun xs H Q => ∃ p ys, xs = [.ref p] ∧ (SqL K H p ys ∨ SqT K H p ys) ∧ Q (.int ys.length) H) := hK ▸ call_len_seq
theorem call_list_ofK (hK : X.K = K := by rfl) : CallR X (.type "list") (fun xs H Q => ∃ p ys, xs = [.ref p] ∧ (SqL K H p ys ∨ SqT K H p ys) ∧ ∀ l, H l = none → Q (.ref l) (upd H l (.lst ys))) := hK ▸ call_list_of
theorem call_isiK2 (hK : X.K = K := by rfl) : CallR X (.builtin "isinstance") (rIsi K) := hK ▸ call_isi
end
/-- behind the making of an instance -/
theorem keep_made {H H2 : Hp} {x dx : Addr} {o : HO} (hx : H x = none) (hd : H dx = none) (k : Keep [x] (upd (upd H dx (.own x)) x o) H2) : Keep [] H H2 := fun b u e _ =>
  k b u (by rw [upd_ne (ne_of_none e hx), upd_ne (ne_of_none e hd)]; exact e) (by simpa using ne_of_none e hx)
theorem kitSelf {K : PySem.W.Frag} {C : Addr} : PySem.W.kitOne K (.ref C) (.ref C) = some true := by
  unfold PySem.W.kitOne
  simp
/-- a call without arguments -/
theorem pe_c0 {X : Cx} {x : Str} {p pos : Pos} {k j : Nat} {sp : Sp} {dvs : List V} (c : C8.Cal X.prog X.w X.K X.mg X.base k x sp dvs) (hr : Room j X.A) (hk : k ≤ j) (hg : Gl X x) (hdb : (x == ("__debug__" : Str)) = false := by decide) :
    PE X (.Call (.Name x p) [] [] pos) (tCall sp dvs C8.E0 tNil) := by
  obtain ⟨f, fd, ps, ds, F, hm, kp, b, d⟩ := c.ex
  exact pe_call0 F (hr.mono hk) hg hm kp b d C8.pass0 hdb

/-! the text by places -/
def top (i : Nat) : Stmt := PySem.Challenge.pw_bothgain_k23_folded_expressions.main.body.getD i (.Pass ⟨0, 0, 0, 0⟩)
abbrev s_law_pool : Stmt := top 11
theorem sc_law_pool : FnScope ["script", "budget"] ["script", "budget"] (fnScope s_law_pool) := fnScope_by (by decide +kernel)
abbrev s_law_draw : Stmt := top 12
theorem sc_law_draw : FnScope ["pool", "size", "cell", "value"] ["pool", "size"] (fnScope s_law_draw) := fnScope_by (by decide +kernel)
abbrev s_law_spend : Stmt := top 13
theorem sc_law_spend : FnScope ["pool"] ["pool"] (fnScope s_law_spend) := fnScope_by (by decide +kernel)
abbrev s_law_few : Stmt := top 14
theorem sc_law_few : FnScope ["pool", "most", "few"] ["pool", "most"] (fnScope s_law_few) := fnScope_by (by decide +kernel)
abbrev s_law_number : Stmt := top 15
theorem sc_law_number : FnScope ["pool"] ["pool"] (fnScope s_law_number) := fnScope_by (by decide +kernel)
abbrev s_law_same : Stmt := top 16
theorem sc_law_same : FnScope ["actual", "due", "k"] ["actual", "due"] (fnScope s_law_same) := fnScope_by (by decide +kernel)
abbrev s_law_keys : Stmt := top 17
theorem sc_law_keys : FnScope ["text"] [] (fnScope s_law_keys) := fnScope_by (by decide +kernel)
abbrev s_law_name : Stmt := top 18
theorem sc_law_name : FnScope ["pool", "taken", "signs", "name", "k"] ["pool", "taken"] (fnScope s_law_name) := fnScope_by (by decide +kernel)
abbrev s_law_names : Stmt := top 19
theorem sc_law_names : FnScope ["pool", "most", "names", "k"] ["pool", "most"] (fnScope s_law_names) := fnScope_by (by decide +kernel)
abbrev s_combine : Stmt := top 3
theorem sc_combine : FnScope ["sign", "left", "right"] ["sign", "left", "right"] (fnScope s_combine) := fnScope_by (by decide +kernel)
abbrev s_value_of : Stmt := top 4
theorem sc_value_of : FnScope ["expression", "table", "on", "seen", "kind", "at", "chosen", "left", "right"] ["expression", "table", "on", "seen"] (fnScope s_value_of) := fnScope_by (by decide +kernel)
abbrev s_fold_pair : Stmt := top 9
theorem sc_fold_pair : FnScope ["sign", "left", "right"] ["sign", "left", "right"] (fnScope s_fold_pair) := fnScope_by (by decide +kernel)
abbrev s_fold_expression : Stmt := top 8
theorem sc_fold_expression : FnScope ["expression", "on", "kind"] ["expression", "on"] (fnScope s_fold_expression) := fnScope_by (by decide +kernel)
abbrev s_law_combine : Stmt := top 21
theorem sc_law_combine : FnScope ["sign", "a", "b", "whole"] ["sign", "a", "b"] (fnScope s_law_combine) := fnScope_by (by decide +kernel)
abbrev s_law_expression : Stmt := top 20
theorem sc_law_expression : FnScope ["pool", "names", "picks", "deep", "kind", "pick", "left", "sign"] ["pool", "names", "picks", "deep"] (fnScope s_law_expression) := fnScope_by (by decide +kernel)
abbrev s_law_fold_pair : Stmt := top 22
theorem sc_law_fold_pair : FnScope ["sign", "a", "b", "zero", "one"] ["sign", "a", "b"] (fnScope s_law_fold_pair) := fnScope_by (by decide +kernel)
abbrev s_law_fold : Stmt := top 23
theorem sc_law_fold : FnScope ["due", "on"] ["due", "on"] (fnScope s_law_fold) := fnScope_by (by decide +kernel)
abbrev s_law_value : Stmt := top 24
theorem sc_law_value : FnScope ["due", "table", "on", "seen", "at", "left"] ["due", "table", "on", "seen"] (fnScope s_law_value) := fnScope_by (by decide +kernel)
abbrev s_law : Stmt := top 25
theorem sc_law : FnScope ["script", "pool", "names", "picks", "on", "name", "kept", "seen", "plain", "due", "actual", "k", "table", "value"] ["script"] (fnScope s_law) := fnScope_by (by decide +kernel)
/-- what the walk asks of the module -/
structure Txt (K : PySem.W.Frag) (mg : Str → Option Value) (T_SIGNS : Addr) (T_ZERO : Addr) (T_ONE : Addr) : Prop where
  n_bool : mg "bool" = none
  n_int : mg "int" = none
  n_isinstance : mg "isinstance" = none
  n_len : mg "len" = none
  n_list : mg "list" = none
  n_max : mg "max" = none
  n_min : mg "min" = none
  n_range : mg "range" = none
  n_str : mg "str" = none
  n_tuple : mg "tuple" = none
  v_GREATEST : ∃ u, mg "GREATEST" = some u ∧ RelV (.int 65535) u
  v_SIGNS : ∃ u, mg "SIGNS" = some u ∧ RelV (.ref T_SIGNS) u
  q_SIGNS : ∀ H : Hp, SqT K H T_SIGNS ((["+", "-", "*", "/", "mod", "<", "="] : List Str).map V.str)
  v_ZERO : ∃ u, mg "ZERO" = some u ∧ RelV (.ref T_ZERO) u
  q_ZERO : ∃ (o : Obj) (its : Array Value) (n : Nat), K.lookup T_ZERO = some o ∧ o.cls = .type "tuple" ∧ o.data = .seq its n ∧ its.size ≤ sizeLine ∧ Vals [.str "number", .int (0)] its.toList
  v_ONE : ∃ u, mg "ONE" = some u ∧ RelV (.ref T_ONE) u
  q_ONE : ∃ (o : Obj) (its : Array Value) (n : Nat), K.lookup T_ONE = some o ∧ o.cls = .type "tuple" ∧ o.data = .seq its n ∧ its.size ≤ sizeLine ∧ Vals [.str "number", .int (1)] its.toList
  ok : True
/-! the law's draws -/
def Pool (H : Hp) (p q : Addr) (ns : List Int) : Prop := ∃ (i1 i2 i3 i4 i5 : Int), H p = some (.lst [.ref q, .int i1, .int i2, .int i3, .int i4, .int i5]) ∧ H q = some (.lst (ns.map V.int)) ∧ q ≠ p ∧ 0 ≤ i1
theorem Pool.some {H : Hp} {p q : Addr} {ns : List Int} (h : Pool H p q ns) : ∃ o, H p = Option.some o := by
  obtain ⟨i1, i2, i3, i4, i5, h, _⟩ := h
  exact ⟨_, h⟩
theorem Pool.some2 {H : Hp} {p q : Addr} {ns : List Int} (h : Pool H p q ns) : ∃ o, H q = Option.some o := by
  obtain ⟨i1, i2, i3, i4, i5, _, h, _⟩ := h
  exact ⟨_, h⟩
theorem Pool.keep {H H' : Hp} {p q : Addr} {ns : List Int} {W : List Addr} (h : Pool H p q ns) (k : Keep W H H') (w : ∀ b, b ∈ W → H b = none) : Pool H' p q ns := by
  obtain ⟨i1, i2, i3, i4, i5, h1, h2, h3, h4⟩ := h
  have no : ∀ b o, H b = Option.some o → b ∉ W := fun b o e z => by rw [w b z] at e; cases e
  exact ⟨i1, i2, i3, i4, i5, k _ _ h1 (no _ _ h1), k _ _ h2 (no _ _ h2), h3, h4⟩
theorem Pool.keep0 {H H' : Hp} {p q : Addr} {ns : List Int} (h : Pool H p q ns) (k : Keep [] H H') : Pool H' p q ns := h.keep k fun _ z => by cases z
theorem Pool.new {H : Hp} {p q a : Addr} {ns : List Int} {o : HO} (h : Pool H p q ns) (n : H a = none) : Pool (upd H a o) p q ns := h.keep0 (Keep.new n)
theorem Pool.own {H : Hp} {p q a : Addr} {ns : List Int} {o : HO} (h : Pool H p q ns) (h1 : a ≠ p) (h2 : a ≠ q) : Pool (upd H a o) p q ns := by
  obtain ⟨i1, i2, i3, i4, i5, g1, g2, g3, g4⟩ := h
  exact ⟨i1, i2, i3, i4, i5, by rw [upd_ne h1.symm]; exact g1, by rw [upd_ne h2.symm]; exact g2, g3, g4⟩
theorem Pool.free {H H' : Hp} {p q l : Addr} {ns : List Int} (P : Pool H' p q ns) (e : Keep [p] H H') (h : H' l = none) : H l = none := by
  obtain ⟨o, ho⟩ := P.some
  exact e.free1 ho h
theorem Pool.nep {H : Hp} {p q l : Addr} {ns : List Int} (P : Pool H p q ns) (h : H l = none) : l ≠ p := by
  obtain ⟨o, ho⟩ := P.some
  exact (ne_of_none ho h).symm
theorem Pool.neq {H : Hp} {p q l : Addr} {ns : List Int} (P : Pool H p q ns) (h : H l = none) : l ≠ q := by
  obtain ⟨o, ho⟩ := P.some2
  exact (ne_of_none ho h).symm
def sp_law_pool (K : PySem.W.Frag) : Sp := fun vs H Q _ => ∃ (a : Addr) (ns : List Int) (b : Int), vs = [.ref a, .int b] ∧ SqL K H a (ns.map V.int) ∧
  ∀ p q H', H p = none → Pool H' p q ns → Keep [] H H' → Q (.ref p) H'
def sp_law_draw : Sp := fun vs H Q _ => ∃ (p q : Addr) (ns : List Int) (size : Int), vs = [.ref p, .int size] ∧ 0 < size ∧ size < 1073741824 ∧ Pool H p q ns ∧
  ∀ r H', 0 ≤ r → r < size → Pool H' p q ns → Keep [p] H H' → Q (.int r) H'
section
variable {P : Program} {w : World} {K : PySem.W.Frag} {mg : Str → Option Value} {base : Heap} {T_SIGNS : Addr} {T_ZERO : Addr} {T_ONE : Addr}
theorem ok_law_pool {f : Addr} {fd : FuncData} (D : C8.Def K mg "_law_pool" s_law_pool f fd) (b : Binds K fd ["script", "budget"] []) (T : Txt K mg T_SIGNS T_ZERO T_ONE) : C8.Cal P w K mg base 1 "_law_pool" (sp_law_pool K) [] := by
  refine cal0 D b .nil sc_law_pool (fun vs H Q E h => ?_) (fun cdv A outer s H vs Q E hr h => ?_)
  · obtain ⟨a, ns, b, rfl, _⟩ := h
    rfl
  · obtain ⟨a, ns, b, rfl, hS, k⟩ := h
    refine ⟨_, (pss_one (ps_ret (pe_lst (pa_cons (pe_callTy call_list_of (by rfl) T.n_list bo_list (pa_cons (pv 0) pa_nil)) (pa_cons pe_int (pa_cons pe_int (pa_cons pe_int (pa_cons pe_int (pa_cons (pv 1) pa_nil))))))))), ?_⟩
    refine ⟨_, rfl, _, _, rfl, .inl hS, fun l hl => ⟨_, rfl, (by show 6 ≤ sizeLine; decide), fun p hp => ?_⟩⟩
    have hlp : l ≠ p := ne_of_none (H := upd H l (.lst (ns.map V.int))) upd_same hp
    have hp0 : H p = none := (Keep.new (W := []) hl).free hp
    refine k p l _ hp0 ⟨_, _, _, _, _, upd_same, (by rw [upd_ne hlp]; exact upd_same), hlp, Int.le_refl 0⟩ ((Keep.new hl).then_new hp)
theorem ok_law_draw {f : Addr} {fd : FuncData} (D : C8.Def K mg "_law_draw" s_law_draw f fd) (b : Binds K fd ["pool", "size"] []) (T : Txt K mg T_SIGNS T_ZERO T_ONE) : C8.Cal P w K mg base 1 "_law_draw" sp_law_draw [] := by
  refine cal0 D b .nil sc_law_draw (fun vs H Q E h => ?_) (fun cdv A outer s H vs Q E hr h => ?_)
  · obtain ⟨p, q, ns, size, rfl, _⟩ := h
    rfl
  · obtain ⟨p, q, ns, size, rfl, hs0, hs1, ⟨i1, i2, i3, i4, i5, h1, h2, hqp, hi1⟩, k⟩ := h
    have hbig : (2147483647 : Int) > 0 := by decide
    refine ⟨_, (pss_cut (ps_if (PW.pt (pw_and (pt_cmpR op_le (pe_ix ix_list (pv 0) pe_int (fun _ _ => rfl)) pe_int (nomark _)) (pw_and (pt_cmpR op_le (pe_ix ix_list (pv 0) pe_int (fun _ _ => rfl)) pe_int (nomark _)) (pw_and1 (pt_cmpR op_lt (pe_ix ix_list (pv 0) pe_int (fun _ _ => rfl)) (pe_callB call_len_seq (by rfl) T.n_len bo_len (pa_cons (pe_ix ix_list (pv 0) pe_int (fun _ _ => rfl)) pa_nil)) (nomark _))))))
  (pss_cons (ps_set (i := 2) sc_law_draw.nd rfl (by first | exact Or.inl rfl | exact Or.inr rfl) (pe_ix ix_list (pe_ix ix_list (pv 0) pe_int (fun _ _ => rfl)) (pe_ix ix_list (pv 0) pe_int (fun _ _ => rfl)) (fun _ _ => rfl)))
  (pss_cons (ps_asg (pe_op op_add (pe_ix ix_list (pv 0) pe_int (fun _ _ => rfl)) pe_int) (pg_sub (pv 0) pe_int set_list))
  (pss_cons (ps_asg (pe_op op_mod (pe_callTy call_int1 (by rfl) T.n_int bo_int (pa_cons (pe_op op_add (pe_op op_mul (pe_ix ix_list (pv 0) pe_int (fun _ _ => rfl)) pe_int) (pv 2)) pa_nil)) pe_int) (pg_sub (pv 0) pe_int set_list))
  (pss_cons (ps_asg pe_int (pg_sub (pv 0) pe_int set_list))
  (pss_one (ps_if (pt_cmpR op_ge (pv 2) (pe_op op_pow pe_int pe_int) (nomark _))
    (pss_one (ps_asg (pv 2) (pg_sub (pv 0) pe_int set_list)))
    pss_nil))))))
  pss_nil)
(pss_cons (ps_if (pt_cmpR op_gt (pe_ix ix_list (pv 0) pe_int (fun _ _ => rfl)) pe_int (nomark _))
  (pss_cons (ps_set (i := 3) sc_law_draw.nd rfl (by first | exact Or.inl rfl | exact Or.inr rfl) (pe_op op_mod (pe_callTy call_int1 (by rfl) T.n_int bo_int (pa_cons (pe_ix ix_list (pv 0) pe_int (fun _ _ => rfl)) pa_nil)) (pv 1)))
  (pss_cons (ps_asg (pe_op op_fdiv (pe_ix ix_list (pv 0) pe_int (fun _ _ => rfl)) (pv 1)) (pg_sub (pv 0) pe_int set_list))
  (pss_cons (ps_asg pe_int (pg_sub (pv 0) pe_int set_list))
  (pss_one (ps_ret (pv 3))))))
  pss_nil)
(pss_cons (ps_asg (pe_op op_sub (pe_ix ix_list (pv 0) pe_int (fun _ _ => rfl)) pe_int) (pg_sub (pv 0) pe_int set_list))
(pss_cons (ps_asg (pe_op op_mod (pe_callTy call_int1 (by rfl) T.n_int bo_int (pa_cons (pe_op op_add (pe_op op_mul (pe_ix ix_list (pv 0) pe_int (fun _ _ => rfl)) pe_int) pe_int) pa_nil)) pe_int) (pg_sub (pv 0) pe_int set_list))
(pss_one (ps_ret (pe_op op_mod (pe_op op_mod (pe_callTy call_int1 (by rfl) T.n_int bo_int (pa_cons (pe_op op_add (pe_op op_mul (pe_ix ix_list (pv 0) pe_int (fun _ _ => rfl)) pe_int) pe_int) pa_nil)) pe_int) (pv 1)))))))), ?_⟩
    -- the state between the statements
    refine ⟨fun σ H' => ∃ (c : Option V) (j1 j2 j3 j4 j5 : Int), σ = [some (.ref p), some (.int size), c, none] ∧ H' p = some (.lst [.ref q, .int j1, .int j2, .int j3, .int j4, .int j5]) ∧ Keep [p] H H' ∧ 0 ≤ j1, ?_, ?_⟩
    · have stay : ∃ (c : Option V) (j1 j2 j3 j4 j5 : Int), ([some (.ref p), some (.int size), none, none] : List (Option V)) = [some (.ref p), some (.int size), c, none] ∧ H p = some (.lst [.ref q, .int j1, .int j2, .int j3, .int j4, .int j5]) ∧ Keep [p] H H ∧ 0 ≤ j1 :=
        ⟨_, i1, i2, i3, i4, i5, rfl, h1, Keep.refl _ _, hi1⟩
      refine ⟨_, rfl, _, _, _, _, rfl, rfl, SqL.of h1, rfl, _, _, rfl, rfl, _, rfl, iteD (fun _ => ?_) (fun _ => stay)⟩
      refine ⟨_, rfl, _, _, _, _, rfl, rfl, SqL.of h1, rfl, _, _, rfl, rfl, _, rfl, iteD (fun _ => ?_) (fun _ => stay)⟩
      refine ⟨_, rfl, _, _, _, _, rfl, rfl, SqL.of h1, rfl, _, rfl, _, _, _, _, rfl, rfl, SqL.of h1, rfl, _, _, rfl, .inl (SqL.of h2), _, _, rfl, rfl, _, rfl, iteD (fun hlt => ?_) (fun _ => stay)⟩
      obtain ⟨j, rfl⟩ : ∃ j : Nat, i1 = (j : Int) := ⟨i1.toNat, by omega⟩
      rw [List.length_map] at hlt
      have hj : j < ns.length := by omega
      have hc : (ns.map V.int)[j]? = some (.int ns[j]) := by rw [List.getElem?_map, List.getElem?_eq_getElem hj]; rfl
      refine ⟨_, rfl, _, _, _, _, rfl, rfl, SqL.of h1, rfl, _, rfl, _, _, _, _, rfl, rfl, SqL.of h1, rfl, _, _, _, _, rfl, rfl, SqL.of h2, atI_nat hc, ?_⟩
      refine ⟨_, rfl, _, _, _, _, rfl, rfl, SqL.of h1, rfl, _, _, rfl, rfl, _, rfl, _, _, _, _, rfl, rfl, h1, rfl, ?_⟩
      refine ⟨_, rfl, _, _, _, _, rfl, rfl, SqL.of upd_same, rfl, _, _, rfl, rfl, .inr ⟨by decide, by decide⟩, _, rfl, _, _, rfl, rfl, .inl ⟨_, rfl, _, _, rfl, rfl, hbig, _, rfl, _, _, _, _, rfl, rfl, upd_same, rfl, ?_⟩⟩
      refine ⟨_, rfl, _, _, _, _, rfl, rfl, upd_same, rfl, ?_⟩
      have kk : Keep [p] H (upd (upd (upd H p (.lst (List.set [.ref q, .int (j : Int), .int i2, .int i3, .int i4, .int i5] 1 (.int ((j : Int) + 1))))) p
        (.lst (List.set (List.set [.ref q, .int (j : Int), .int i2, .int i3, .int i4, .int i5] 1 (.int ((j : Int) + 1))) 3 (.int ((i3 * 31 + ns[j]) % 2147483647))))) p
        (.lst (List.set (List.set (List.set [.ref q, .int (j : Int), .int i2, .int i3, .int i4, .int i5] 1 (.int ((j : Int) + 1))) 3 (.int ((i3 * 31 + ns[j]) % 2147483647))) 4 (.int 7)))) :=
        ((Keep.at_ (List.mem_singleton.mpr rfl)).then_at (List.mem_singleton.mpr rfl)).then_at (List.mem_singleton.mpr rfl)
      refine ⟨_, rfl, _, _, rfl, rfl, ⟨by decide, by decide, by decide⟩, _, _, rfl, rfl, _, rfl, iteD (fun _ => ?_) (fun _ => ?_)⟩
      · refine ⟨_, rfl, _, rfl, _, _, _, _, rfl, rfl, upd_same, rfl, ?_⟩
        exact ⟨_, _, _, _, _, _, rfl, upd_same, kk.then_at (List.mem_singleton.mpr rfl), by omega⟩
      · exact ⟨_, _, _, _, _, _, rfl, upd_same, kk, by omega⟩
    · rintro σ' H' ⟨c, j1, j2, j3, j4, j5, rfl, g1, kk, hj1⟩
      have g2 : H' q = some (.lst (ns.map V.int)) := kk q _ h2 (by simpa using hqp)
      refine ⟨_, rfl, _, _, _, _, rfl, rfl, SqL.of g1, rfl, _, _, rfl, rfl, _, rfl, iteD (fun _ => ?_) (fun _ => ?_)⟩
      · refine ⟨_, rfl, _, _, _, _, rfl, rfl, SqL.of g1, rfl, .inl ⟨_, rfl, _, rfl, _, _, rfl, rfl, hs0, ?_⟩⟩
        refine ⟨_, rfl, _, _, _, _, rfl, rfl, SqL.of g1, rfl, _, rfl, _, _, rfl, rfl, ⟨hs0, hs1⟩, _, rfl, _, _, _, _, rfl, rfl, g1, rfl, ?_⟩
        refine ⟨_, rfl, _, _, _, _, rfl, rfl, upd_same, rfl, ?_⟩
        refine ⟨_, rfl, ?_⟩
        refine k _ _ (Int.emod_nonneg _ (by omega)) (Int.emod_lt_of_pos _ hs0) ⟨_, _, _, _, _, upd_same, ?_, hqp, hj1⟩ ((kk.then_at (List.mem_singleton.mpr rfl)).then_at (List.mem_singleton.mpr rfl))
        rw [upd_ne hqp, upd_ne hqp]; exact g2
      · refine ⟨_, rfl, _, _, _, _, rfl, rfl, SqL.of g1, rfl, _, _, rfl, rfl, _, rfl, _, _, _, _, rfl, rfl, g1, rfl, ?_⟩
        refine ⟨_, rfl, _, _, _, _, rfl, rfl, SqL.of upd_same, rfl, _, _, rfl, rfl, .inr ⟨by decide, by decide⟩, _, _, rfl, rfl, .inl ⟨_, rfl, _, _, rfl, rfl, hbig, _, rfl, _, _, _, _, rfl, rfl, upd_same, rfl, ?_⟩⟩
        refine ⟨_, rfl, _, _, _, _, rfl, rfl, SqL.of upd_same, rfl, _, _, rfl, rfl, .inr ⟨by decide, by decide⟩, _, _, rfl, rfl, .inl ⟨_, rfl, _, _, rfl, rfl, hbig, _, rfl, _, _, rfl, rfl, hs0, ?_⟩⟩
        refine k _ _ (Int.emod_nonneg _ (by omega)) (Int.emod_lt_of_pos _ hs0) ⟨_, _, _, _, _, upd_same, ?_, hqp, hj1⟩ ((kk.then_at (List.mem_singleton.mpr rfl)).then_at (List.mem_singleton.mpr rfl))
        rw [upd_ne hqp, upd_ne hqp]; exact g2
end

/-! the law's small draws -/
def sp_law_few : Sp := fun vs H Q _ => ∃ (p q : Addr) (ns : List Int) (most : Int), vs = [.ref p, .int most] ∧ 0 ≤ most ∧ most < 1000000 ∧ Pool H p q ns ∧
  ∀ r H', 0 ≤ r → r ≤ most → Pool H' p q ns → Keep [p] H H' → Q (.int r) H'
section
variable {P : Program} {w : World} {K : PySem.W.Frag} {mg : Str → Option Value} {base : Heap} {T_SIGNS : Addr} {T_ZERO : Addr} {T_ONE : Addr}
theorem ok_law_few {f : Addr} {fd : FuncData} (D : C8.Def K mg "_law_few" s_law_few f fd) (b : Binds K fd ["pool", "most"] []) (T : Txt K mg T_SIGNS T_ZERO T_ONE) (c_law_draw : C8.Cal P w K mg base 1 "_law_draw" sp_law_draw []) : C8.Cal P w K mg base 2 "_law_few" sp_law_few [] := by
  refine cal0 D b .nil sc_law_few (fun vs H Q E h => ?_) (fun cdv A outer s H vs Q E hr h => ?_)
  · obtain ⟨p, q, ns, m, rfl, _⟩ := h
    rfl
  · obtain ⟨p, q, ns, m, rfl, m0, m1, hP, k⟩ := h
    refine ⟨_, (pss_cons (ps_set (i := 2) sc_law_few.nd rfl (by first | exact Or.inl rfl | exact Or.inr rfl) (pe_c c_law_draw hr (by first | exact Nat.le_refl _ | decide) rfl (pa_cons (pv 0) (pa_cons pe_int pa_nil))))
(pss_cons (ps_if (pt_cmpR op_eq (pv 2) pe_int (nomark _))
  (pss_one (ps_ret (pe_c c_law_draw hr (by first | exact Nat.le_refl _ | decide) rfl (pa_cons (pv 0) (pa_cons (pe_op op_add (pv 1) pe_int) pa_nil)))))
  pss_nil)
(pss_one (ps_ret (pe_callB (call_min2 rfl) (by rfl) T.n_min bo_min (pa_cons (pv 2) (pa_cons (pv 1) pa_nil))))))), ?_⟩
    refine ⟨_, rfl, p, q, ns, 4, rfl, by decide, by decide, hP, fun r H1 r0 r1 P1 K1 => ?_⟩
    refine ⟨_, rfl, rfl, _, rfl, iteD (fun _ => ?_) (fun _ => ?_)⟩
    · refine ⟨_, rfl, _, rfl, _, _, rfl, rfl, p, q, ns, _, rfl, by omega, by omega, P1, fun r2 H2 z0 z1 P2 K2 => ?_⟩
      exact k _ _ z0 (by omega) P2 (K1.trans K2)
    · refine ⟨_, rfl, _, rfl, _, _, rfl, k _ _ ?_ ?_ P1 K1⟩
      · split <;> omega
      · split <;> omega
end

/-- tuples stand -/
def TK (H H' : Hp) : Prop := ∀ b xs, H b = some (.tup xs) → H' b = some (.tup xs)
theorem TK.refl (H : Hp) : TK H H := fun _ _ h => h
theorem TK.trans {H H1 H2 : Hp} (a : TK H H1) (b : TK H1 H2) : TK H H2 := fun c xs h => b c xs (a c xs h)
theorem TK.new {H : Hp} {p : Addr} {o : HO} (h : H p = none) : TK H (upd H p o) := fun b xs q => by rw [upd_ne (ne_of_none q h)]; exact q
theorem TK.lst {H : Hp} {p : Addr} {o : HO} {ys : List V} (h : H p = some (.lst ys)) : TK H (upd H p o) := fun b xs q => by
  rw [upd_ne (ne_of q h (by intro z; cases z))]; exact q
theorem Keep.tk {H H' : Hp} (k : Keep [] H H') : TK H H' := fun b xs q => k b _ q (by simp)
theorem Keep.tk1 {H H' : Hp} {p : Addr} {ys : List V} (k : Keep [p] H H') (h : H p = some (.lst ys)) : TK H H' := fun b xs q => k b _ q (by
  have := ne_of q h (by intro z; cases z)
  simpa using this)

/-! tuples that stand, in the walk's heap or in the module's -/
def KT (K : PySem.W.Frag) (a : Addr) (xs : List V) : Prop := ∃ (o : Obj) (its : Array Value) (n : Nat), K.lookup a = some o ∧ o.cls = .type "tuple" ∧ o.data = .seq its n ∧ its.size ≤ sizeLine ∧ Vals xs its.toList
def At (K : PySem.W.Frag) (H : Hp) (a : Addr) (xs : List V) : Prop := H a = some (.tup xs) ∨ KT K a xs
theorem At.sq {K : PySem.W.Frag} {H : Hp} {a : Addr} {xs : List V} (h : At K H a xs) : SqT K H a xs := by
  rcases h with h | h
  · exact SqT.of h
  · exact .inr h
theorem At.ty {K : PySem.W.Frag} {H : Hp} {a : Addr} {xs : List V} (h : At K H a xs) : TyX K H (.ref a) (.type "tuple") := by
  rcases h with h | ⟨o, its, n, h, c, _⟩
  · exact .base (.tup h)
  · exact .kTuple h c
theorem At.tk {K : PySem.W.Frag} {H H' : Hp} {a : Addr} {xs : List V} (k : TK H H') (h : At K H a xs) : At K H' a xs := by
  rcases h with h | h
  · exact .inl (k _ _ h)
  · exact .inr h
/-! the law's look whether two values are the same: only the answer True is told -/
def SameV (K : PySem.W.Frag) : Nat → Hp → V → V → Prop
  | 0, _, _, _ => False
  | n + 1, H, a, d => (a = d ∧ ((∃ x, d = .str x) ∨ (∃ i, d = .int i) ∨ (∃ b, d = .bl b) ∨ d = .non)) ∨
    ∃ p q xs ys, a = .ref p ∧ d = .ref q ∧ ((H p = some (.lst xs) ∧ H q = some (.lst ys)) ∨ (At K H p xs ∧ At K H q ys)) ∧ xs.length = ys.length ∧ xs.length ≤ sizeLine ∧
      ∀ (i : Nat) x y, xs[i]? = some x → ys[i]? = some y → SameV K n H x y
def sp_law_same (K : PySem.W.Frag) (n : Nat) : Sp := fun vs H Q _ => ∃ a d, vs = [a, d] ∧ SameV K n H a d ∧ Q (.bl true) H
theorem sameV_atom {K : PySem.W.Frag} {n : Nat} {H : Hp} {d : V} (h : (∃ x, d = .str x) ∨ (∃ i, d = .int i) ∨ (∃ b, d = .bl b) ∨ d = .non) : SameV K (n + 1) H d d := .inl ⟨rfl, h⟩
section
variable {K : PySem.W.Frag}
theorem kLT : PySem.W.kitOne K (.type "list") (.type "tuple") = some false := kit_ty (by decide +kernel)
theorem kLL : PySem.W.kitOne K (.type "list") (.type "list") = some true := kit_ty (by decide +kernel)
theorem kTT : PySem.W.kitOne K (.type "tuple") (.type "tuple") = some true := kit_ty (by decide +kernel)
theorem kTL : PySem.W.kitOne K (.type "tuple") (.type "list") = some false := kit_ty (by decide +kernel)
theorem kST : PySem.W.kitOne K (.type "str") (.type "tuple") = some false := kit_ty (by decide +kernel)
theorem kSL : PySem.W.kitOne K (.type "str") (.type "list") = some false := kit_ty (by decide +kernel)
theorem kSB : PySem.W.kitOne K (.type "str") (.type "bool") = some false := kit_ty (by decide +kernel)
theorem kSI : PySem.W.kitOne K (.type "str") (.type "int") = some false := kit_ty (by decide +kernel)
theorem kSS : PySem.W.kitOne K (.type "str") (.type "str") = some true := kit_ty (by decide +kernel)
theorem kIT : PySem.W.kitOne K (.type "int") (.type "tuple") = some false := kit_ty (by decide +kernel)
theorem kIL : PySem.W.kitOne K (.type "int") (.type "list") = some false := kit_ty (by decide +kernel)
theorem kIB : PySem.W.kitOne K (.type "int") (.type "bool") = some false := kit_ty (by decide +kernel)
theorem kII : PySem.W.kitOne K (.type "int") (.type "int") = some true := kit_ty (by decide +kernel)
theorem kBT : PySem.W.kitOne K (.type "bool") (.type "tuple") = some false := kit_ty (by decide +kernel)
theorem kBL : PySem.W.kitOne K (.type "bool") (.type "list") = some false := kit_ty (by decide +kernel)
theorem kBB : PySem.W.kitOne K (.type "bool") (.type "bool") = some true := kit_ty (by decide +kernel)
theorem kBI : PySem.W.kitOne K (.type "bool") (.type "int") = some true := kit_ty (by decide +kernel)
theorem kNT : PySem.W.kitOne K (.type "NoneType") (.type "tuple") = some false := kit_ty (by decide +kernel)
theorem kNL : PySem.W.kitOne K (.type "NoneType") (.type "list") = some false := kit_ty (by decide +kernel)
theorem kNB : PySem.W.kitOne K (.type "NoneType") (.type "bool") = some false := kit_ty (by decide +kernel)
theorem kNI : PySem.W.kitOne K (.type "NoneType") (.type "int") = some false := kit_ty (by decide +kernel)
end

section
variable {P : Program} {w : World} {K : PySem.W.Frag} {mg : Str → Option Value} {base : Heap} {T_SIGNS : Addr} {T_ZERO : Addr} {T_ONE : Addr}
theorem ok_law_same0 {f : Addr} {fd : FuncData} (D : C8.Def K mg "_law_same" s_law_same f fd) (b : Binds K fd ["actual", "due"] []) : C8.Cal P w K mg base 0 "_law_same" (sp_law_same K 0) [] :=
  ⟨f, fd, ["actual", "due"], [], ⟨fun vs H Q E h => (by obtain ⟨a, d, rfl, _⟩ := h; rfl), fun A outer s H args us vs Q E _ _ _ _ h => (by obtain ⟨a, d, _, z, _⟩ := h; exact z.elim)⟩, D.mgf, D.kp, b, .nil⟩
theorem ok_law_same {f : Addr} {fd : FuncData} (D : C8.Def K mg "_law_same" s_law_same f fd) (b : Binds K fd ["actual", "due"] []) (T : Txt K mg T_SIGNS T_ZERO T_ONE) {n k : Nat} (c_law_same : C8.Cal P w K mg base k "_law_same" (sp_law_same K n) []) :
    C8.Cal P w K mg base (k + 1) "_law_same" (sp_law_same K (n + 1)) [] := by
  refine cal0 D b .nil sc_law_same (fun vs H Q E h => ?_) (fun cdv A outer s H vs Q E hr h => ?_)
  · obtain ⟨a, d, rfl, _⟩ := h
    rfl
  · obtain ⟨a, d, rfl, hs, k⟩ := h
    have hu := hu_of hr
    refine ⟨_, (pss_cons (ps_if (PW.pt (pw_or (pt_val (pe_callB call_isi (by rfl) T.n_isinstance bo_isinstance (pa_cons (pv 1) (pa_cons (pe_bltn (v := .ty "tuple") (by rfl) T.n_tuple bo_tuple rfl) pa_nil)))) (pw_or1 (pt_val (pe_callB call_isi (by rfl) T.n_isinstance bo_isinstance (pa_cons (pv 1) (pa_cons (pe_bltn (v := .ty "list") (by rfl) T.n_list bo_list rfl) pa_nil)))))))
  (pss_cons (ps_if (PW.pt (pw_or (pt_cmpR op_ne (pe_callB call_isi (by rfl) T.n_isinstance bo_isinstance (pa_cons (pv 1) (pa_cons (pe_bltn (v := .ty "tuple") (by rfl) T.n_tuple bo_tuple rfl) pa_nil))) (pe_callB call_isi (by rfl) T.n_isinstance bo_isinstance (pa_cons (pv 0) (pa_cons (pe_bltn (v := .ty "tuple") (by rfl) T.n_tuple bo_tuple rfl) pa_nil))) (nomark _)) (pw_or1 (pt_cmpR op_ne (pe_callB call_isi (by rfl) T.n_isinstance bo_isinstance (pa_cons (pv 1) (pa_cons (pe_bltn (v := .ty "list") (by rfl) T.n_list bo_list rfl) pa_nil))) (pe_callB call_isi (by rfl) T.n_isinstance bo_isinstance (pa_cons (pv 0) (pa_cons (pe_bltn (v := .ty "list") (by rfl) T.n_list bo_list rfl) pa_nil))) (nomark _)))))
    (pss_one (ps_ret pe_bl))
    pss_nil)
  (pss_cons (ps_if (pt_cmpR op_ne (pe_callB call_len_seq (by rfl) T.n_len bo_len (pa_cons (pv 0) pa_nil)) (pe_callB call_len_seq (by rfl) T.n_len bo_len (pa_cons (pv 1) pa_nil)) (nomark _))
    (pss_one (ps_ret pe_bl))
    pss_nil)
  (pss_cons (ps_for PassesOwn.never rfl (pi_range1 (by rfl) T.n_range (pa_cons (pe_callB call_len_seq (by rfl) T.n_len bo_len (pa_cons (pv 1) pa_nil)) pa_nil)) (pg_name (i := 2) sc_law_same.nd rfl (by first | exact Or.inl rfl | exact Or.inr rfl))
    (pss_one (ps_if (pt_not (pt_val (pe_c c_law_same hr (by first | exact Nat.le_refl _ | decide) rfl (pa_cons (pe_ix ix_seq (pv 0) (pv 2) (fun _ _ => rfl)) (pa_cons (pe_ix ix_seq (pv 1) (pv 2) (fun _ _ => rfl)) pa_nil)))))
      (pss_one (ps_ret pe_bl))
      pss_nil)))
  (pss_one (ps_ret pe_bl)))))
  pss_nil)
(pss_cons (ps_if (PW.pt (pw_or (pt_cmpR op_isN (pv 1) pe_non (nomark _)) (pw_or1 (pt_val (pe_callB call_isi (by rfl) T.n_isinstance bo_isinstance (pa_cons (pv 1) (pa_cons (pe_bltn (v := .ty "bool") (by rfl) T.n_bool bo_bool rfl) pa_nil)))))))
  (pss_one (ps_ret (pe_and (pe_cmpR op_eq (pe_cmpR op_isN (pv 0) pe_non (nomark _)) (pe_cmpR op_isN (pv 1) pe_non (nomark _)) (nomark _)) (pe_and (pe_or (pe_cmpR op_isN (pv 1) pe_non (nomark _)) (pe_one (pe_callB call_isi (by rfl) T.n_isinstance bo_isinstance (pa_cons (pv 0) (pa_cons (pe_bltn (v := .ty "bool") (by rfl) T.n_bool bo_bool rfl) pa_nil))))) (pe_one (pe_cmpR op_eq (pv 0) (pv 1) (nomark _)))))))
  pss_nil)
(pss_cons (ps_if (pt_val (pe_callB call_isi (by rfl) T.n_isinstance bo_isinstance (pa_cons (pv 1) (pa_cons (pe_bltn (v := .ty "int") (by rfl) T.n_int bo_int rfl) pa_nil))))
  (pss_one (ps_ret (pe_and (pe_callB call_isi (by rfl) T.n_isinstance bo_isinstance (pa_cons (pv 0) (pa_cons (pe_bltn (v := .ty "int") (by rfl) T.n_int bo_int rfl) pa_nil))) (pe_and (pe_not (pe_callB call_isi (by rfl) T.n_isinstance bo_isinstance (pa_cons (pv 0) (pa_cons (pe_bltn (v := .ty "bool") (by rfl) T.n_bool bo_bool rfl) pa_nil)))) (pe_one (pe_cmpR op_eq (pv 0) (pv 1) (nomark _)))))))
  pss_nil)
(pss_one (ps_ret (pe_and (pe_callB call_isi (by rfl) T.n_isinstance bo_isinstance (pa_cons (pv 0) (pa_cons (pe_bltn (v := .ty "str") (by rfl) T.n_str bo_str rfl) pa_nil))) (pe_one (pe_cmpR op_eq (pv 0) (pv 1) (nomark _))))))))), ?_⟩
    -- the part behind the lengths, for lists and for tuples
    rcases hs with ⟨rfl, ⟨x, rfl⟩ | ⟨x, rfl⟩ | ⟨x, rfl⟩ | rfl⟩ | ⟨p, q, xs, ys, rfl, rfl, hh, hl, hz, hall⟩
    · refine ⟨_, rfl, _, _, _, _, _, rfl, .ty _, .base (.str x), kST, _, rfl, iteF ⟨_, rfl, _, _, _, _, _, rfl, .ty _, .base (.str x), kSL, _, rfl, iteF ?_⟩⟩
      refine ⟨_, rfl, rfl, _, rfl, iteDF (by simp) ⟨_, rfl, _, _, _, _, _, rfl, .ty _, .base (.str x), kSB, _, rfl, iteF ?_⟩⟩
      refine ⟨_, rfl, _, _, _, _, _, rfl, .ty _, .base (.str x), kSI, _, rfl, iteF ?_⟩
      refine ⟨_, rfl, _, _, _, _, _, rfl, .ty _, .base (.str x), kSS, _, rfl, iteT ⟨_, rfl, _, rfl, rfl, ?_⟩⟩
      rw [decide_eq_true rfl]; exact k
    · refine ⟨_, rfl, _, _, _, _, _, rfl, .ty _, .base (.int x), kIT, _, rfl, iteF ⟨_, rfl, _, _, _, _, _, rfl, .ty _, .base (.int x), kIL, _, rfl, iteF ?_⟩⟩
      refine ⟨_, rfl, rfl, _, rfl, iteDF (by simp) ⟨_, rfl, _, _, _, _, _, rfl, .ty _, .base (.int x), kIB, _, rfl, iteF ?_⟩⟩
      refine ⟨_, rfl, _, _, _, _, _, rfl, .ty _, .base (.int x), kII, _, rfl, iteT ?_⟩
      refine ⟨_, rfl, _, _, _, _, _, rfl, .ty _, .base (.int x), kII, _, rfl, iteT ⟨_, rfl, _, _, _, _, _, rfl, .ty _, .base (.int x), kIB, _, rfl, _, rfl, iteT ⟨_, rfl, _, rfl, rfl, ?_⟩⟩⟩
      rw [decide_eq_true rfl]; exact k
    · refine ⟨_, rfl, _, _, _, _, _, rfl, .ty _, .base (.bl x), kBT, _, rfl, iteF ⟨_, rfl, _, _, _, _, _, rfl, .ty _, .base (.bl x), kBL, _, rfl, iteF ?_⟩⟩
      refine ⟨_, rfl, rfl, _, rfl, iteDF (by simp) ⟨_, rfl, _, _, _, _, _, rfl, .ty _, .base (.bl x), kBB, _, rfl, iteT ?_⟩⟩
      refine ⟨_, rfl, rfl, _, rfl, rfl, rfl, _, rfl, iteDT (by simp) ?_⟩
      refine ⟨_, rfl, rfl, _, rfl, iteDF (by simp) ?_⟩
      refine ⟨_, rfl, _, _, _, _, _, rfl, .ty _, .base (.bl x), kBB, ?_⟩
      refine ⟨_, rfl, iteT ⟨_, rfl, _, rfl, rfl, ?_⟩⟩
      rw [decide_eq_true rfl]; exact k
    · refine ⟨_, rfl, _, _, _, _, _, rfl, .ty _, .base .non, kNT, _, rfl, iteF ⟨_, rfl, _, _, _, _, _, rfl, .ty _, .base .non, kNL, _, rfl, iteF ?_⟩⟩
      refine ⟨_, rfl, rfl, _, rfl, iteDT (by simp) ?_⟩
      refine ⟨_, rfl, rfl, _, rfl, rfl, rfl, _, rfl, iteDT (by simp) ?_⟩
      refine ⟨_, rfl, rfl, _, rfl, iteDT (by simp) ?_⟩
      refine ⟨_, rfl, iteT ⟨_, rfl, _, rfl, rfl, ?_⟩⟩
      rw [decide_eq_true rfl]; exact k
    · obtain ⟨t, b1, b2, ty1, ty2, k1, k2, hb, sq⟩ : ∃ (t : Value) (b1 b2 : Bool), TyX K H (.ref p) t ∧ TyX K H (.ref q) t ∧ PySem.W.kitOne K t (.type "tuple") = some b1 ∧ PySem.W.kitOne K t (.type "list") = some b2 ∧ (b1 = true ∨ b2 = true) ∧
          ((SqL K H p xs ∧ SqL K H q ys) ∨ (SqT K H p xs ∧ SqT K H q ys)) := by
        rcases hh with ⟨h1, h2⟩ | ⟨h1, h2⟩
        · exact ⟨_, _, _, .base (.lst h1), .base (.lst h2), kLT, kLL, .inr rfl, .inl ⟨SqL.of h1, SqL.of h2⟩⟩
        · exact ⟨_, _, _, h1.ty, h2.ty, kTT, kTL, .inl rfl, .inr ⟨h1.sq, h2.sq⟩⟩
      have sqp : SqL K H p xs ∨ SqT K H p xs := sq.elim (fun z => .inl z.1) fun z => .inr z.1
      have sqq : SqL K H q ys ∨ SqT K H q ys := sq.elim (fun z => .inl z.2) fun z => .inr z.2
      have bz : (ys.length : Int) < 2 ^ 62 := by
        have e : sizeLine = 16777216 := sizeLine_eq
        have : ys.length ≤ 16777216 := by omega
        omega
      -- the part behind the first test
      have rest : ∀ {D : Ends} {t1 : TS}, t1 D [some (.ref p), some (.ref q), none] H → t1 D [some (.ref p), some (.ref q), none] H := fun z => z
      refine ⟨_, rfl, _, _, _, _, _, rfl, .ty _, ty2, k1, _, rfl, iteB (fun e1 => ?_) (fun e1 => ⟨_, rfl, _, _, _, _, _, rfl, .ty _, ty2, k2, _, rfl, iteB (fun e2 => ?_) (fun e2 => ?_)⟩)⟩
      rotate_left 2
      · rcases hb with z | z
        · rw [e1] at z; cases z
        · rw [e2] at z; cases z
      all_goals
        refine ⟨_, rfl, _, _, _, _, _, rfl, .ty _, ty2, k1, _, rfl, _, _, _, _, _, rfl, .ty _, ty1, k1, rfl, _, rfl, iteNF (by simp) ?_⟩
        refine ⟨_, rfl, _, _, _, _, _, rfl, .ty _, ty2, k2, _, rfl, _, _, _, _, _, rfl, .ty _, ty1, k2, rfl, _, rfl, iteNF (by simp) ?_⟩
        refine ⟨_, rfl, _, _, rfl, sqp, _, rfl, _, _, rfl, sqq, rfl, _, rfl, iteNF (by rw [hl]) ?_⟩
        refine ⟨_, rfl, _, _, rfl, sqq, _, rfl, by omega, bz, for_range (lo := 0) (n := ys.length) (fun i σ H' => ∃ kv, σ = [some (.ref p), some (.ref q), kv] ∧ H' = H) ⟨none, rfl, rfl⟩ ?_ ?_⟩
        · rintro i σ H' hi ⟨kv, rfl, rfl⟩
          have hx : xs[i]? = some (xs[i]'(by omega)) := List.getElem?_eq_getElem _
          have hy : ys[i]? = some ys[i] := List.getElem?_eq_getElem _
          have e0 : (0 : Int) + (i : Int) = (i : Int) := by omega
          rw [e0]
          rcases sq with ⟨s1, s2⟩ | ⟨s1, s2⟩
          · refine ⟨_, rfl, _, rfl, .inl ⟨_, _, _, _, rfl, rfl, s1, atI_nat hx, _, rfl, _, rfl, .inl ⟨_, _, _, _, rfl, rfl, s2, atI_nat hy, ?_⟩⟩⟩
            exact ⟨_, _, rfl, hall i _ _ hx hy, _, rfl, iteF ⟨_, rfl, rfl⟩⟩
          · refine ⟨_, rfl, _, rfl, .inr (.inl ⟨_, _, _, _, rfl, rfl, s1, atI_nat hx, _, rfl, _, rfl, .inr (.inl ⟨_, _, _, _, rfl, rfl, s2, atI_nat hy, ?_⟩)⟩)⟩
            exact ⟨_, _, rfl, hall i _ _ hx hy, _, rfl, iteF ⟨_, rfl, rfl⟩⟩
        · rintro σ H' ⟨kv, rfl, rfl⟩
          exact k
end

/-! expressions: data, values, folding -/
inductive Ex where
  | num (n : Int)
  | var (x : Str)
  | long
  | view (e : Ex)
  | pick (x : Str) (l r : Ex)
  | op (s : Str) (l r : Ex)
def dEx : Ex → PyData
  | .num n => .tuple [.str "number", .int n]
  | .var x => .tuple [.str "variable", .str x]
  | .long => .tuple [.str "long"]
  | .view e => .tuple [.str "view", dEx e]
  | .pick x l r => .tuple [.str "pick", .str x, dEx l, dEx r]
  | .op s l r => .tuple [.str s, dEx l, dEx r]
def Ex.dep : Ex → Nat
  | .num _ => 1
  | .var _ => 1
  | .long => 1
  | .view e => e.dep + 1
  | .pick _ l r => max l.dep r.dep + 1
  | .op _ l r => max l.dep r.dep + 1
theorem Ex.dep_pos : ∀ e : Ex, 1 ≤ e.dep
  | .num _ => Nat.le_refl _
  | .var _ => Nat.le_refl _
  | .long => Nat.le_refl _
  | .view e => by unfold Ex.dep; omega
  | .pick _ l r => by unfold Ex.dep; omega
  | .op _ l r => by unfold Ex.dep; omega
def sgL : List Str := ["+", "-", "*", "/", "mod", "<", "="]
def strOK (x : Str) : Bool := x.cps.all (· < 0x110000)
def Ex.Ok (ns ps : List Str) : Ex → Prop
  | .num n => 0 ≤ n ∧ n < 65536
  | .var x => x ∈ ns
  | .long => True
  | .view e => e.Ok ns ps
  | .pick x l r => x ∈ ps ∧ l.Ok ns ps ∧ r.Ok ns ps
  | .op s l r => s ∈ sgL ∧ l.Ok ns ps ∧ r.Ok ns ps
inductive EV (K : PySem.W.Frag) (H : Hp) : V → Ex → Prop
  | num {a : Addr} {n : Int} : At K H a [.str "number", .int n] → EV K H (.ref a) (.num n)
  | var {a : Addr} {x : Str} : At K H a [.str "variable", .str x] → EV K H (.ref a) (.var x)
  | long {a : Addr} : At K H a [.str "long"] → EV K H (.ref a) .long
  | view {a : Addr} {v : V} {e : Ex} : At K H a [.str "view", v] → EV K H v e → EV K H (.ref a) (.view e)
  | pick {a : Addr} {x : Str} {v u : V} {l r : Ex} : At K H a [.str "pick", .str x, v, u] → EV K H v l → EV K H u r → EV K H (.ref a) (.pick x l r)
  | op {a : Addr} {s : Str} {v u : V} {l r : Ex} : At K H a [.str s, v, u] → EV K H v l → EV K H u r → EV K H (.ref a) (.op s l r)
theorem EV.tk {K : PySem.W.Frag} {H H' : Hp} (k : TK H H') {v : V} {e : Ex} (h : EV K H v e) : EV K H' v e := by
  induction h with
  | num h => exact .num (h.tk k)
  | var h => exact .var (h.tk k)
  | long h => exact .long (h.tk k)
  | view h _ i => exact .view (h.tk k) i
  | pick h _ _ i j => exact .pick (h.tk k) i j
  | op h _ _ i j => exact .op (h.tk k) i j
theorem EV.dp {K : PySem.W.Frag} {H : Hp} {v : V} {e : Ex} (h : EV K H v e) : Dp K H v (dEx e) := by
  induction h with
  | num h => exact .tup h.sq (.cons (.str _) (.cons (.int _) .nil))
  | var h => exact .tup h.sq (.cons (.str _) (.cons (.str _) .nil))
  | long h => exact .tup h.sq (.cons (.str _) .nil)
  | view h _ i => exact .tup h.sq (.cons (.str _) (.cons i .nil))
  | pick h _ _ i j => exact .tup h.sq (.cons (.str _) (.cons (.str _) (.cons i (.cons j .nil))))
  | op h _ _ i j => exact .tup h.sq (.cons (.str _) (.cons i (.cons j .nil)))
theorem paired_get {F : V → V → Prop} {xs ys : List V} (h : Paired F xs ys) : xs.length = ys.length ∧ ∀ (i : Nat) x y, xs[i]? = some x → ys[i]? = some y → F x y := by
  induction h with
  | nil => exact ⟨rfl, fun i x y h => by simp at h⟩
  | cons h _ ih =>
    refine ⟨by rw [List.length_cons, List.length_cons, ih.1], fun i x y hx hy => ?_⟩
    cases i with
    | zero => simp at hx hy; subst hx hy; exact h
    | succ i => exact ih.2 i x y (by simpa using hx) (by simpa using hy)
theorem sameT {K : PySem.W.Frag} {H : Hp} {n : Nat} {p q : Addr} {xs ys : List V} (h1 : At K H p xs) (h2 : At K H q ys) (h : Paired (SameV K n H) xs ys) (hl : xs.length ≤ 1000000) : SameV K (n + 1) H (.ref p) (.ref q) :=
  .inr ⟨p, q, _, _, rfl, rfl, .inr ⟨h1, h2⟩, (paired_get h).1, smallM hl, (paired_get h).2⟩
theorem same_ev {K : PySem.W.Frag} {H : Hp} {v : V} {e : Ex} (h : EV K H v e) : ∀ {u : V} {n : Nat}, EV K H u e → e.dep ≤ n → SameV K (n + 1) H v u := by
  have st : ∀ {n : Nat} (x : Str), SameV K (n + 1) H (.str x) (.str x) := fun x => .inl ⟨rfl, .inl ⟨x, rfl⟩⟩
  have it : ∀ {n : Nat} (x : Int), SameV K (n + 1) H (.int x) (.int x) := fun x => .inl ⟨rfl, .inr (.inl ⟨x, rfl⟩)⟩
  induction h with
  | num h =>
    intro u n g d
    obtain ⟨n, rfl⟩ : ∃ m, n = m + 1 := ⟨n - 1, by have : (1 : Nat) ≤ n := d; omega⟩
    cases g with
    | num g => exact sameT h g (.cons (st _) (.cons (it _) .nil)) (by simp)
  | var h =>
    intro u n g d
    obtain ⟨n, rfl⟩ : ∃ m, n = m + 1 := ⟨n - 1, by have : (1 : Nat) ≤ n := d; omega⟩
    cases g with
    | var g => exact sameT h g (.cons (st _) (.cons (st _) .nil)) (by simp)
  | long h =>
    intro u n g d
    obtain ⟨n, rfl⟩ : ∃ m, n = m + 1 := ⟨n - 1, by have : (1 : Nat) ≤ n := d; omega⟩
    cases g with
    | long g => exact sameT h g (.cons (st _) .nil) (by simp)
  | view h _ i =>
    intro u n g d
    unfold Ex.dep at d
    obtain ⟨n, rfl⟩ : ∃ m, n = m + 1 := ⟨n - 1, by omega⟩
    cases g with
    | view g g1 => exact sameT h g (.cons (st _) (.cons (i g1 (by omega)) .nil)) (by simp)
  | pick h _ _ i j =>
    intro u n g d
    unfold Ex.dep at d
    obtain ⟨n, rfl⟩ : ∃ m, n = m + 1 := ⟨n - 1, by omega⟩
    cases g with
    | pick g g1 g2 => exact sameT h g (.cons (st _) (.cons (st _) (.cons (i g1 (by omega)) (.cons (j g2 (by omega)) .nil)))) (by simp)
  | op h _ _ i j =>
    intro u n g d
    unfold Ex.dep at d
    obtain ⟨n, rfl⟩ : ∃ m, n = m + 1 := ⟨n - 1, by omega⟩
    cases g with
    | op g g1 g2 => exact sameT h g (.cons (st _) (.cons (i g1 (by omega)) (.cons (j g2 (by omega)) .nil))) (by simp)
def EQ (a b : Ex) : Bool := PyData.eqv (dEx a) (dEx b)
def dL : Ex → List PyData
  | .num n => [.str "number", .int n]
  | .var x => [.str "variable", .str x]
  | .long => [.str "long"]
  | .view e => [.str "view", dEx e]
  | .pick x l r => [.str "pick", .str x, dEx l, dEx r]
  | .op s l r => [.str s, dEx l, dEx r]
theorem dEx_eq (e : Ex) : dEx e = .tuple (dL e) := by cases e <;> rfl
theorem eqvA_cons (x y : PyData) (xs ys : List PyData) : PyData.eqvAll (x :: xs) (y :: ys) = (PyData.eqv x y && PyData.eqvAll xs ys) := by rw [PyData.eqvAll]
theorem eqvA_len : ∀ xs ys : List PyData, PyData.eqvAll xs ys = true → xs.length = ys.length
  | [], [], _ => rfl
  | [], _ :: _, h => by simp [PyData.eqvAll] at h
  | _ :: _, [], h => by simp [PyData.eqvAll] at h
  | x :: xs, y :: ys, h => by
    rw [eqvA_cons, Bool.and_eq_true] at h
    rw [List.length_cons, List.length_cons, eqvA_len xs ys h.2]
theorem eqv_tup (xs ys : List PyData) : PyData.eqv (.tuple xs) (.tuple ys) = PyData.eqvAll xs ys := by rw [PyData.eqv]
theorem eqv_ti (xs : List PyData) (n : Int) : PyData.eqv (.tuple xs) (.int n) = false := by simp [PyData.eqv]
theorem eqv_it (xs : List PyData) (n : Int) : PyData.eqv (.int n) (.tuple xs) = false := by simp [PyData.eqv]
theorem eqv_ts (xs : List PyData) (n : Str) : PyData.eqv (.tuple xs) (.str n) = false := by simp [PyData.eqv]
theorem eqv_st (xs : List PyData) (n : Str) : PyData.eqv (.str n) (.tuple xs) = false := by simp [PyData.eqv]
theorem eqv_is (m : Int) (n : Str) : PyData.eqv (.int m) (.str n) = false := by simp [PyData.eqv]
theorem eqv_si (m : Int) (n : Str) : PyData.eqv (.str n) (.int m) = false := by simp [PyData.eqv]
theorem eqv_ii {m n : Int} (h : PyData.eqv (.int m) (.int n) = true) : m = n := by simpa [PyData.eqv] using h
theorem eqv_ss {m n : Str} (h : PyData.eqv (.str m) (.str n) = true) : m = n := by simpa [PyData.eqv] using h
theorem eq_sound : ∀ a b : Ex, EQ a b = true → a = b := by
  intro a
  have hEQ : ∀ x y : Ex, EQ x y = PyData.eqvAll (dL x) (dL y) := fun x y => by unfold EQ; rw [dEx_eq, dEx_eq, eqv_tup]
  induction a with
  | num n =>
    intro b h
    rw [hEQ] at h
    have hl := eqvA_len _ _ h
    cases b with
    | num m => simp only [dL, eqvA_cons, Bool.and_eq_true] at h; rw [eqv_ii h.2.1]
    | var m => simp only [dL, eqvA_cons, Bool.and_eq_true, eqv_is] at h; exact absurd h.2.1 (by simp)
    | view m => simp only [dL, eqvA_cons, Bool.and_eq_true] at h; rw [dEx_eq, eqv_it] at h; exact absurd h.2.1 (by simp)
    | _ => simp [dL] at hl
  | var n =>
    intro b h
    rw [hEQ] at h
    have hl := eqvA_len _ _ h
    cases b with
    | num m => simp only [dL, eqvA_cons, Bool.and_eq_true, eqv_si] at h; exact absurd h.2.1 (by simp)
    | var m => simp only [dL, eqvA_cons, Bool.and_eq_true] at h; rw [eqv_ss h.2.1]
    | view m => simp only [dL, eqvA_cons, Bool.and_eq_true] at h; rw [dEx_eq, eqv_st] at h; exact absurd h.2.1 (by simp)
    | _ => simp [dL] at hl
  | long =>
    intro b h
    rw [hEQ] at h
    have hl := eqvA_len _ _ h
    cases b with
    | long => rfl
    | _ => simp [dL] at hl
  | view e i =>
    intro b h
    rw [hEQ] at h
    have hl := eqvA_len _ _ h
    cases b with
    | num m => simp only [dL, eqvA_cons, Bool.and_eq_true] at h; rw [dEx_eq, eqv_ti] at h; exact absurd h.2.1 (by simp)
    | var m => simp only [dL, eqvA_cons, Bool.and_eq_true] at h; rw [dEx_eq, eqv_ts] at h; exact absurd h.2.1 (by simp)
    | view m => simp only [dL, eqvA_cons, Bool.and_eq_true] at h; rw [i m h.2.1]
    | _ => simp [dL] at hl
  | pick x l r i j =>
    intro b h
    rw [hEQ] at h
    have hl := eqvA_len _ _ h
    cases b with
    | pick y l' r' => simp only [dL, eqvA_cons, Bool.and_eq_true] at h; rw [eqv_ss h.2.1, i l' h.2.2.1, j r' h.2.2.2.1]
    | _ => simp [dL] at hl
  | op x l r i j =>
    intro b h
    rw [hEQ] at h
    have hl := eqvA_len _ _ h
    cases b with
    | op y l' r' => simp only [dL, eqvA_cons, Bool.and_eq_true] at h; rw [eqv_ss h.1, i l' h.2.1, j r' h.2.2.1]
    | _ => simp [dL] at hl
theorem sg_ok : ∀ s ∈ sgL, PyData.strOk s = true := by decide +kernel
theorem kw_ok : PyData.strOk "number" = true ∧ PyData.strOk "variable" = true ∧ PyData.strOk "long" = true ∧ PyData.strOk "view" = true ∧ PyData.strOk "pick" = true := by decide +kernel
theorem canLay_ex {ns ps : List Str} (hn : ∀ x ∈ ns, PyData.strOk x = true) (hp : ∀ x ∈ ps, PyData.strOk x = true) : ∀ e : Ex, e.Ok ns ps → (dEx e).canLay0 = true
  | .num _, _ => by simp only [dEx, PyData.canLay0, PyData.canLayAll0, Bool.and_true, kw_ok.1]
  | .var x, h => by simp only [dEx, PyData.canLay0, PyData.canLayAll0, Bool.and_true, hn x h, kw_ok.2.1]
  | .long, _ => by simp only [dEx, PyData.canLay0, PyData.canLayAll0, Bool.and_true, kw_ok.2.2.1]
  | .view e, h => by
    simp only [dEx, PyData.canLay0, PyData.canLayAll0, Bool.and_true, canLay_ex hn hp e h, kw_ok.2.2.2.1]
  | .pick x l r, ⟨h1, h2, h3⟩ => by
    simp only [dEx, PyData.canLay0, PyData.canLayAll0, Bool.and_true, canLay_ex hn hp l h2, canLay_ex hn hp r h3, hp x h1, kw_ok.2.2.2.2]
  | .op s l r, ⟨h1, h2, h3⟩ => by
    simp only [dEx, PyData.canLay0, PyData.canLayAll0, Bool.and_true, canLay_ex hn hp l h2, canLay_ex hn hp r h3, sg_ok s h1]
theorem depth_ex : ∀ e : Ex, (dEx e).depth ≤ e.dep + 1
  | .num _ => by simp [dEx, PyData.depth, PyData.depthAll, Ex.dep]
  | .var x => by simp [dEx, PyData.depth, PyData.depthAll, Ex.dep]
  | .long => by simp [dEx, PyData.depth, PyData.depthAll, Ex.dep]
  | .view e => by have := depth_ex e; simp only [dEx, PyData.depth, PyData.depthAll, Ex.dep]; omega
  | .pick x l r => by have := depth_ex l; have := depth_ex r; simp only [dEx, PyData.depth, PyData.depthAll, Ex.dep]; omega
  | .op s l r => by have := depth_ex l; have := depth_ex r; simp only [dEx, PyData.depth, PyData.depthAll, Ex.dep]; omega
def NamesOk (ns : List Str) : Prop := ∀ x ∈ ns, PyData.strOk x = true
theorem shaped_ex {ns ps : List Str} (hn : NamesOk ns) (hp : NamesOk ps) {e : Ex} (h : e.Ok ns ps) (hd : e.dep ≤ 60) : SeqAt.shaped (dEx e) = true := by
  unfold SeqAt.shaped
  rw [Bool.and_eq_true]
  exact ⟨canLay_ex hn hp e h, decide_eq_true (by have := depth_ex e; omega)⟩
def comb (s : Str) (a b : Int) : Int :=
  if s = "+" then (a + b) % 65536 else if s = "-" then (if a - b > 0 then a - b else 0) else if s = "*" then a * b % 65536 else if s = "/" then (if b > 0 then a / b else 0)
  else if s = "mod" then (if b > 0 then a % b else 0) else if s = "<" then (if a < b then 1 else 0) else (if a = b then 1 else 0)
theorem comb_add (a b : Int) : comb "+" a b = (a + b) % 65536 := by unfold comb; rw [if_pos rfl]
theorem comb_sub (a b : Int) : comb "-" a b = if a - b > 0 then a - b else 0 := by unfold comb; rw [if_neg (by decide +kernel), if_pos rfl]
theorem comb_mul (a b : Int) : comb "*" a b = a * b % 65536 := by unfold comb; rw [if_neg (by decide +kernel), if_neg (by decide +kernel), if_pos rfl]
theorem comb_div (a b : Int) : comb "/" a b = if b > 0 then a / b else 0 := by unfold comb; rw [if_neg (by decide +kernel), if_neg (by decide +kernel), if_neg (by decide +kernel), if_pos rfl]
theorem comb_mod (a b : Int) : comb "mod" a b = if b > 0 then a % b else 0 := by unfold comb; rw [if_neg (by decide +kernel), if_neg (by decide +kernel), if_neg (by decide +kernel), if_neg (by decide +kernel), if_pos rfl]
theorem comb_lt (a b : Int) : comb "<" a b = if a < b then 1 else 0 := by unfold comb; rw [if_neg (by decide +kernel), if_neg (by decide +kernel), if_neg (by decide +kernel), if_neg (by decide +kernel), if_neg (by decide +kernel), if_pos rfl]
theorem comb_eq (a b : Int) : comb "=" a b = if a = b then 1 else 0 := by unfold comb; rw [if_neg (by decide +kernel), if_neg (by decide +kernel), if_neg (by decide +kernel), if_neg (by decide +kernel), if_neg (by decide +kernel), if_neg (by decide +kernel)]
theorem sg_cases {s : Str} (h : s ∈ sgL) : s = "+" ∨ s = "-" ∨ s = "*" ∨ s = "/" ∨ s = "mod" ∨ s = "<" ∨ s = "=" := by
  simpa [sgL] using h
theorem comb_range {s : Str} {a b : Int} (h : s ∈ sgL) (a0 : 0 ≤ a) (a1 : a < 65536) (b0 : 0 ≤ b) (b1 : b < 65536) : 0 ≤ comb s a b ∧ comb s a b < 65536 := by
  rcases sg_cases h with rfl | rfl | rfl | rfl | rfl | rfl | rfl
  · rw [comb_add]; omega
  · rw [comb_sub]; split <;> omega
  · rw [comb_mul]; exact ⟨Int.emod_nonneg _ (by decide), Int.emod_lt_of_pos _ (by decide)⟩
  · rw [comb_div]
    split
    · exact ⟨Int.ediv_nonneg a0 b0, Int.lt_of_le_of_lt (Int.ediv_le_self _ a0) a1⟩
    · omega
  · rw [comb_mod]
    split
    · rename_i hb
      have := Int.emod_lt_of_pos a hb
      exact ⟨Int.emod_nonneg _ (by omega), by omega⟩
    · omega
  · rw [comb_lt]; split <;> omega
  · rw [comb_eq]; split <;> omega
def val (tb : Str → Int) (on : Str → Bool) (seen : List Int) : Ex → Int
  | .num n => n
  | .var x => tb x
  | .long => if (65535 : Int) < seen.length then 65535 else seen.length
  | .view e => if val tb on seen e < seen.length then seen.getD (val tb on seen e).toNat 0 else 0
  | .pick x l r => if on x = true then val tb on seen l else val tb on seen r
  | .op s l r => comb s (val tb on seen l) (val tb on seen r)
def TbOk (ns : List Str) (tb : Str → Int) : Prop := ∀ x ∈ ns, 0 ≤ tb x ∧ tb x < 65536
def SeenOk (seen : List Int) : Prop := ∀ x ∈ seen, 0 ≤ x ∧ x < 65536
theorem val_range {ns ps : List Str} {tb : Str → Int} {on : Str → Bool} {seen : List Int} (ht : TbOk ns tb) (hs : SeenOk seen) : ∀ e : Ex, e.Ok ns ps → 0 ≤ val tb on seen e ∧ val tb on seen e < 65536
  | .num n, h => h
  | .var x, h => ht x h
  | .long, _ => by unfold val; split <;> omega
  | .view e, h => by
    unfold val
    split
    · rename_i q
      have := val_range (on := on) ht hs e h
      have hl : (val tb on seen e).toNat < seen.length := by omega
      rw [List.getD_eq_getElem?_getD, List.getElem?_eq_getElem hl]
      exact hs _ (List.getElem_mem hl)
    · omega
  | .pick x l r, ⟨_, h2, h3⟩ => by
    unfold val
    split
    · exact val_range ht hs l h2
    · exact val_range ht hs r h3
  | .op s l r, ⟨h1, h2, h3⟩ => by
    unfold val
    have a := val_range (on := on) ht hs l h2
    have b := val_range (on := on) ht hs r h3
    exact comb_range h1 a.1 a.2 b.1 b.2
/-! the heap's parts for a value -/
def DcB (H : Hp) (a : Addr) (ps : List Str) (on : Str → Bool) : Prop := ∃ kvs : List (Key × V), H a = some (.dK kvs) ∧ ∀ x ∈ ps, valV kvs (.inr x) = some (.bl (on x))
def DcI (H : Hp) (a : Addr) (ns : List Str) (tb : Str → Int) : Prop := ∃ kvs : List (Key × V), H a = some (.dK kvs) ∧ ∀ x ∈ ns, valV kvs (.inr x) = some (.int (tb x))
theorem DcB.get {H : Hp} {a : Addr} {ps : List Str} {on : Str → Bool} (h : DcB H a ps on) {x : Str} (hx : x ∈ ps) : DGet H a (.str x) (some (.bl (on x))) := by
  obtain ⟨kvs, e, q⟩ := h
  rw [← q x hx]
  exact DGet.k (k := .inr x) e
theorem DcI.get {H : Hp} {a : Addr} {ps : List Str} {on : Str → Int} (h : DcI H a ps on) {x : Str} (hx : x ∈ ps) : DGet H a (.str x) (some (.int (on x))) := by
  obtain ⟨kvs, e, q⟩ := h
  rw [← q x hx]
  exact DGet.k (k := .inr x) e

theorem nes {x y : Str} (h : x ≠ y) : ¬ V.str x = V.str y := fun z => h (V.str.inj z)
theorem sg_not : ∀ s ∈ sgL, s ≠ "number" ∧ s ≠ "variable" ∧ s ≠ "long" ∧ s ≠ "view" ∧ s ≠ "pick" := by decide +kernel
def sp_combine : Sp := fun vs H Q _ => ∃ s a b, vs = [.str s, .int a, .int b] ∧ s ∈ sgL ∧ 0 ≤ a ∧ a < 65536 ∧ 0 ≤ b ∧ b < 65536 ∧ Q (.int (comb s a b)) H
structure VEnv (K : PySem.W.Frag) (H : Hp) (td od sa : Addr) (ns ps : List Str) (tb : Str → Int) (on : Str → Bool) (seen : List Int) : Prop where
  t : DcI H td ns tb
  o : DcB H od ps on
  s : SqT K H sa (seen.map V.int)
  tok : TbOk ns tb
  sok : SeenOk seen
  len : seen.length ≤ 1000000
def sp_value (K : PySem.W.Frag) (n : Nat) : Sp := fun vs H Q _ => ∃ v td od sa e ns ps tb on seen, vs = [v, .ref td, .ref od, .ref sa] ∧ EV K H v e ∧ e.Ok ns ps ∧ e.dep ≤ n ∧ VEnv K H td od sa ns ps tb on seen ∧ Q (.int (val tb on seen e)) H
theorem ev_range {K : PySem.W.Frag} {H : Hp} {v : V} {e : Ex} {ns ps : List Str} {tb : Str → Int} {on : Str → Bool} {seen : List Int} (ht : TbOk ns tb) (hs : SeenOk seen) (_ : EV K H v e) (h : e.Ok ns ps) : 0 ≤ val tb on seen e ∧ val tb on seen e < 65536 := val_range ht hs e h
theorem seen_at {seen : List Int} {z : Int} (h0 : 0 ≤ z) (h : z < seen.length) : atI (seen.map V.int) z = some (.int (seen.getD z.toNat 0)) := by
  obtain ⟨m, rfl⟩ : ∃ m : Nat, z = (m : Int) := ⟨z.toNat, by omega⟩
  have hm : m < seen.length := by omega
  refine atI_nat ?_
  rw [List.getElem?_map, List.getD_eq_getElem?_getD, Int.toNat_natCast, List.getElem?_eq_getElem hm]; rfl
section
variable {P : Program} {w : World} {K : PySem.W.Frag} {mg : Str → Option Value} {base : Heap} {T_SIGNS : Addr} {T_ZERO : Addr} {T_ONE : Addr}
theorem ok_combine {f : Addr} {fd : FuncData} (D : C8.Def K mg "combine" s_combine f fd) (b : Binds K fd ["sign", "left", "right"] []) (T : Txt K mg T_SIGNS T_ZERO T_ONE) {k : Nat} : C8.Cal P w K mg base (k + 1) "combine" sp_combine [] := by
  refine cal0 D b .nil sc_combine (fun vs H Q E h => ?_) (fun cdv A outer s H vs Q E hr h => ?_)
  · obtain ⟨s, a, b, rfl, _⟩ := h
    rfl
  · obtain ⟨s, x, y, rfl, hs, x0, x1, y0, y1, k⟩ := h
    refine ⟨_, (pss_cons (ps_if (pt_cmpR op_eq (pv 0) pe_str (nomark _))
  (pss_one (ps_ret (pe_op op_mod (pe_op op_add (pv 1) (pv 2)) (pe_op op_add (pe_gc rfl T.v_GREATEST) pe_int))))
  pss_nil)
(pss_cons (ps_if (pt_cmpR op_eq (pv 0) pe_str (nomark _))
  (pss_one (ps_ret (pe_callB (call_max2 rfl) (by rfl) T.n_max bo_max (pa_cons pe_int (pa_cons (pe_op op_sub (pv 1) (pv 2)) pa_nil)))))
  pss_nil)
(pss_cons (ps_if (pt_cmpR op_eq (pv 0) pe_str (nomark _))
  (pss_one (ps_ret (pe_op op_mod (pe_op op_mul (pv 1) (pv 2)) (pe_op op_add (pe_gc rfl T.v_GREATEST) pe_int))))
  pss_nil)
(pss_cons (ps_if (pt_cmpR op_eq (pv 0) pe_str (nomark _))
  (pss_one (ps_ret (pe_ifExp (pt_cmpR op_gt (pv 2) pe_int (nomark _)) (pe_op op_fdiv (pv 1) (pv 2)) pe_int)))
  pss_nil)
(pss_cons (ps_if (pt_cmpR op_eq (pv 0) pe_str (nomark _))
  (pss_one (ps_ret (pe_ifExp (pt_cmpR op_gt (pv 2) pe_int (nomark _)) (pe_op op_mod (pv 1) (pv 2)) pe_int)))
  pss_nil)
(pss_cons (ps_if (pt_cmpR op_eq (pv 0) pe_str (nomark _))
  (pss_one (ps_ret (pe_callTy call_int1 (by rfl) T.n_int bo_int (pa_cons (pe_cmpR op_lt (pv 1) (pv 2) (nomark _)) pa_nil))))
  pss_nil)
(pss_one (ps_ret (pe_callTy call_int1 (by rfl) T.n_int bo_int (pa_cons (pe_cmpR op_eq (pv 1) (pv 2) (nomark _)) pa_nil)))))))))), ?_⟩
    refine ⟨_, rfl, rfl, _, rfl, iteD (fun e => ?_) (fun e1 => ?_)⟩
    · rw [V.str.inj e, comb_add] at k
      exact ⟨_, rfl, _, rfl, _, _, rfl, rfl, _, _, rfl, rfl, _, _, rfl, rfl, (by show (0 : Int) < _; decide), k⟩
    refine ⟨_, rfl, rfl, _, rfl, iteD (fun e => ?_) (fun e2 => ?_)⟩
    · rw [V.str.inj e, comb_sub] at k
      exact ⟨_, rfl, _, rfl, _, _, rfl, rfl, _, _, rfl, k⟩
    refine ⟨_, rfl, rfl, _, rfl, iteD (fun e => ?_) (fun e3 => ?_)⟩
    · rw [V.str.inj e, comb_mul] at k
      exact ⟨_, rfl, _, rfl, _, _, rfl, rfl, .inl ⟨by omega, by omega⟩, _, _, rfl, rfl, _, _, rfl, rfl, (by show (0 : Int) < _; decide), k⟩
    refine ⟨_, rfl, rfl, _, rfl, iteD (fun e => ?_) (fun e4 => ?_)⟩
    · rw [V.str.inj e, comb_div] at k
      refine ⟨_, rfl, _, _, rfl, rfl, _, rfl, iteD (fun h => ?_) (fun h => ?_)⟩
      · rw [if_pos h] at k
        exact ⟨_, rfl, _, rfl, _, _, rfl, rfl, ⟨h, by omega⟩, k⟩
      · rw [if_neg h] at k
        exact k
    refine ⟨_, rfl, rfl, _, rfl, iteD (fun e => ?_) (fun e5 => ?_)⟩
    · rw [V.str.inj e, comb_mod] at k
      refine ⟨_, rfl, _, _, rfl, rfl, _, rfl, iteD (fun h => ?_) (fun h => ?_)⟩
      · rw [if_pos h] at k
        exact ⟨_, rfl, _, rfl, _, _, rfl, rfl, h, k⟩
      · rw [if_neg h] at k
        exact k
    refine ⟨_, rfl, rfl, _, rfl, iteD (fun e => ?_) (fun e6 => ?_)⟩
    · rw [V.str.inj e, comb_lt] at k
      refine ⟨_, rfl, _, rfl, _, _, rfl, rfl, .inr ⟨_, rfl, ?_⟩⟩
      by_cases h : x < y
      · rw [if_pos h] at k; rw [decide_eq_true h]; exact k
      · rw [if_neg h] at k; rw [decide_eq_false h]; exact k
    · have hs7 : s = "=" := by
        rcases sg_cases hs with rfl | rfl | rfl | rfl | rfl | rfl | rfl
        · exact absurd rfl e1
        · exact absurd rfl e2
        · exact absurd rfl e3
        · exact absurd rfl e4
        · exact absurd rfl e5
        · exact absurd rfl e6
        · rfl
      rw [hs7, comb_eq] at k
      refine ⟨_, rfl, _, rfl, rfl, .inr ⟨_, rfl, ?_⟩⟩
      by_cases h : x = y
      · rw [if_pos h] at k; rw [decide_eq_true (congrArg V.int h)]; exact k
      · rw [if_neg h] at k; rw [decide_eq_false (fun z => h (V.int.inj z))]; exact k
theorem ok_value0 {f : Addr} {fd : FuncData} (D : C8.Def K mg "value_of" s_value_of f fd) {ds : List Value} (d : Vals [] ds) (b : Binds K fd ["expression", "table", "on", "seen"] ds) : C8.Cal P w K mg base 1 "value_of" (sp_value K 0) [] :=
  ⟨f, fd, ["expression", "table", "on", "seen"], ds, ⟨fun vs H Q E h => (by obtain ⟨v, td, od, sa, e, ns, ps, tb, on, seen, rfl, _⟩ := h; rfl), fun A outer s H args us vs Q E _ _ _ _ h => (by obtain ⟨v, td, od, sa, e, ns, ps, tb, on, seen, _, _, _, z, _⟩ := h; have := e.dep_pos; omega)⟩, D.mgf, D.kp, b, d⟩
theorem ok_value {f : Addr} {fd : FuncData} (D : C8.Def K mg "value_of" s_value_of f fd) {ds : List Value} (d : Vals [] ds) (b : Binds K fd ["expression", "table", "on", "seen"] ds) (T : Txt K mg T_SIGNS T_ZERO T_ONE) {n k : Nat}
    (c_value_of : C8.Cal P w K mg base k "value_of" (sp_value K n) []) (c_combine : C8.Cal P w K mg base k "combine" sp_combine []) : C8.Cal P w K mg base (k + 1) "value_of" (sp_value K (n + 1)) [] := by
  refine cal0 D b d sc_value_of (fun vs H Q E h => ?_) (fun cdv A outer s H vs Q E hr h => ?_)
  · obtain ⟨v, td, od, sa, e, ns, ps, tb, on, seen, rfl, _⟩ := h
    rfl
  · obtain ⟨v, td, od, sa, e, ns, ps, tb, on, seen, rfl, he, hok, hd, V, k⟩ := h
    have hu := hu_of hr
    refine ⟨_, (pss_cons (ps_set (i := 4) sc_value_of.nd rfl (by first | exact Or.inl rfl | exact Or.inr rfl) (pe_ix ix_tup (pv 0) pe_int (fun _ _ => rfl)))
(pss_cons (ps_if (pt_cmpR op_eq (pv 4) pe_str (nomark _))
  (pss_one (ps_ret (pe_ix ix_tup (pv 0) pe_int (fun _ _ => rfl))))
  pss_nil)
(pss_cons (ps_if (pt_cmpR op_eq (pv 4) pe_str (nomark _))
  (pss_one (ps_ret (pe_dget hu (pv 1) (pe_ix ix_tup (pv 0) pe_int (fun _ _ => rfl)) (fun _ _ => rfl))))
  pss_nil)
(pss_cons (ps_if (pt_cmpR op_eq (pv 4) pe_str (nomark _))
  (pss_one (ps_ret (pe_callB (call_min2 rfl) (by rfl) T.n_min bo_min (pa_cons (pe_callB call_len_seq (by rfl) T.n_len bo_len (pa_cons (pv 3) pa_nil)) (pa_cons (pe_gc rfl T.v_GREATEST) pa_nil)))))
  pss_nil)
(pss_cons (ps_if (pt_cmpR op_eq (pv 4) pe_str (nomark _))
  (pss_cons (ps_set (i := 5) sc_value_of.nd rfl (by first | exact Or.inl rfl | exact Or.inr rfl) (pe_c c_value_of hr (by first | exact Nat.le_refl _ | decide) rfl (pa_cons (pe_ix ix_tup (pv 0) pe_int (fun _ _ => rfl)) (pa_cons (pv 1) (pa_cons (pv 2) (pa_cons (pv 3) pa_nil))))))
  (pss_one (ps_ret (pe_ifExp (pt_cmpR op_lt (pv 5) (pe_callB call_len_seq (by rfl) T.n_len bo_len (pa_cons (pv 3) pa_nil)) (nomark _)) (pe_ix ix_tup (pv 3) (pv 5) (fun _ _ => rfl)) pe_int))))
  pss_nil)
(pss_cons (ps_if (pt_cmpR op_eq (pv 4) pe_str (nomark _))
  (pss_cons (ps_set (i := 6) sc_value_of.nd rfl (by first | exact Or.inl rfl | exact Or.inr rfl) (pe_ifExp (pt_val (pe_dget hu (pv 2) (pe_ix ix_tup (pv 0) pe_int (fun _ _ => rfl)) (fun _ _ => rfl))) (pe_ix ix_tup (pv 0) pe_int (fun _ _ => rfl)) (pe_ix ix_tup (pv 0) pe_int (fun _ _ => rfl))))
  (pss_one (ps_ret (pe_c c_value_of hr (by first | exact Nat.le_refl _ | decide) rfl (pa_cons (pv 6) (pa_cons (pv 1) (pa_cons (pv 2) (pa_cons (pv 3) pa_nil))))))))
  pss_nil)
(pss_cons (ps_set (i := 7) sc_value_of.nd rfl (by first | exact Or.inl rfl | exact Or.inr rfl) (pe_c c_value_of hr (by first | exact Nat.le_refl _ | decide) rfl (pa_cons (pe_ix ix_tup (pv 0) pe_int (fun _ _ => rfl)) (pa_cons (pv 1) (pa_cons (pv 2) (pa_cons (pv 3) pa_nil))))))
(pss_cons (ps_set (i := 8) sc_value_of.nd rfl (by first | exact Or.inl rfl | exact Or.inr rfl) (pe_c c_value_of hr (by first | exact Nat.le_refl _ | decide) rfl (pa_cons (pe_ix ix_tup (pv 0) pe_int (fun _ _ => rfl)) (pa_cons (pv 1) (pa_cons (pv 2) (pa_cons (pv 3) pa_nil))))))
(pss_one (ps_ret (pe_c c_combine hr (by first | exact Nat.le_refl _ | decide) rfl (pa_cons (pv 4) (pa_cons (pv 7) (pa_cons (pv 8) pa_nil)))))))))))))), ?_⟩
    cases he with
    | num h =>
      refine ⟨_, rfl, _, _, _, _, rfl, rfl, h.sq, rfl, _, rfl, rfl, _, rfl, iteDT rfl ?_⟩
      exact ⟨_, rfl, _, _, _, _, rfl, rfl, h.sq, rfl, k⟩
    | var h =>
      refine ⟨_, rfl, _, _, _, _, rfl, rfl, h.sq, rfl, _, rfl, rfl, _, rfl, iteDF (nes (by decide +kernel)) ?_⟩
      refine ⟨_, rfl, rfl, _, rfl, iteDT rfl ?_⟩
      exact ⟨_, rfl, _, rfl, _, _, _, _, rfl, rfl, h.sq, rfl, _, _, rfl, V.t.get hok, k⟩
    | long h =>
      refine ⟨_, rfl, _, _, _, _, rfl, rfl, h.sq, rfl, _, rfl, rfl, _, rfl, iteDF (nes (by decide +kernel)) ?_⟩
      refine ⟨_, rfl, rfl, _, rfl, iteDF (nes (by decide +kernel)) ?_⟩
      refine ⟨_, rfl, rfl, _, rfl, iteDT rfl ?_⟩
      refine ⟨_, rfl, _, _, rfl, .inr V.s, _, _, rfl, ?_⟩
      rw [List.length_map]; exact k
    | view h h1 =>
      refine ⟨_, rfl, _, _, _, _, rfl, rfl, h.sq, rfl, _, rfl, rfl, _, rfl, iteDF (nes (by decide +kernel)) ?_⟩
      refine ⟨_, rfl, rfl, _, rfl, iteDF (nes (by decide +kernel)) ?_⟩
      refine ⟨_, rfl, rfl, _, rfl, iteDF (nes (by decide +kernel)) ?_⟩
      refine ⟨_, rfl, rfl, _, rfl, iteDT rfl ?_⟩
      have hr2 := ev_range (on := on) V.tok V.sok h1 hok
      refine ⟨_, rfl, _, _, _, _, rfl, rfl, h.sq, rfl, _, rfl, _, rfl, _, rfl, _, td, od, sa, _, ns, ps, tb, on, seen, rfl, h1, hok, (by unfold Ex.dep at hd; omega), V, ?_⟩
      refine ⟨_, rfl, _, rfl, _, _, rfl, .inr V.s, _, _, rfl, rfl, _, rfl, iteD (fun q => ?_) (fun q => ?_)⟩
      · rw [List.length_map] at q
        refine ⟨_, rfl, _, rfl, _, _, _, _, rfl, rfl, V.s, seen_at hr2.1 q, ?_⟩
        unfold val at k
        rw [if_pos q] at k
        exact k
      · rw [List.length_map] at q
        unfold val at k
        rw [if_neg q] at k
        exact k
    | pick h h1 h2 =>
      refine ⟨_, rfl, _, _, _, _, rfl, rfl, h.sq, rfl, _, rfl, rfl, _, rfl, iteDF (nes (by decide +kernel)) ?_⟩
      refine ⟨_, rfl, rfl, _, rfl, iteDF (nes (by decide +kernel)) ?_⟩
      refine ⟨_, rfl, rfl, _, rfl, iteDF (nes (by decide +kernel)) ?_⟩
      refine ⟨_, rfl, rfl, _, rfl, iteDF (nes (by decide +kernel)) ?_⟩
      refine ⟨_, rfl, rfl, _, rfl, iteDT rfl ?_⟩
      unfold val at k
      unfold Ex.dep at hd
      refine ⟨_, rfl, _, rfl, _, _, _, _, rfl, rfl, h.sq, rfl, _, _, rfl, V.o.get hok.1, _, rfl, iteB (fun q => ?_) (fun q => ?_)⟩
      · rw [if_pos q] at k
        refine ⟨_, rfl, _, _, _, _, rfl, rfl, h.sq, rfl, ?_⟩
        exact ⟨_, rfl, _, rfl, _, rfl, _, rfl, _, td, od, sa, _, ns, ps, tb, on, seen, rfl, h1, hok.2.1, (by omega), V, k⟩
      · rw [if_neg (by simp [q])] at k
        refine ⟨_, rfl, _, _, _, _, rfl, rfl, h.sq, rfl, ?_⟩
        exact ⟨_, rfl, _, rfl, _, rfl, _, rfl, _, td, od, sa, _, ns, ps, tb, on, seen, rfl, h2, hok.2.2, (by omega), V, k⟩
    | op h h1 h2 =>
      obtain ⟨n1, n2, n3, n4, n5⟩ := sg_not _ hok.1
      refine ⟨_, rfl, _, _, _, _, rfl, rfl, h.sq, rfl, _, rfl, rfl, _, rfl, iteDF (nes n1) ?_⟩
      refine ⟨_, rfl, rfl, _, rfl, iteDF (nes n2) ?_⟩
      refine ⟨_, rfl, rfl, _, rfl, iteDF (nes n3) ?_⟩
      refine ⟨_, rfl, rfl, _, rfl, iteDF (nes n4) ?_⟩
      refine ⟨_, rfl, rfl, _, rfl, iteDF (nes n5) ?_⟩
      unfold val at k
      unfold Ex.dep at hd
      have ha := val_range (on := on) V.tok V.sok _ hok.2.1
      have hb := val_range (on := on) V.tok V.sok _ hok.2.2
      refine ⟨_, rfl, _, _, _, _, rfl, rfl, h.sq, rfl, _, rfl, _, rfl, _, rfl, _, td, od, sa, _, ns, ps, tb, on, seen, rfl, h1, hok.2.1, (by omega), V, ?_⟩
      refine ⟨_, rfl, _, _, _, _, rfl, rfl, h.sq, rfl, _, rfl, _, rfl, _, rfl, _, td, od, sa, _, ns, ps, tb, on, seen, rfl, h2, hok.2.2, (by omega), V, ?_⟩
      exact ⟨_, rfl, _, rfl, _, rfl, _, _, _, rfl, hok.1, ha.1, ha.2, hb.1, hb.2, k⟩
end

/-! names that are drawn -/
def kwL : List Str := ["option", "on", "off", "var", "round", "end", "set", "if", "else", "when", "draw", "first", "second", "show", "both", "pay", "take", "pick", "mod", "player", "keep", "lot", "while", "answer", "view", "long"]
theorem keys_text : Txt.split (("option on off var round end set if else when draw first second show both pay take pick mod player keep lot" : Str) ++ (" while answer view long" : Str)) " " = kwL := by decide +kernel
def sp_law_keys : Sp := fun vs H Q _ => vs = [] ∧ ∀ l H', H l = none → H' l = some (.lst (kwL.map V.str)) → Keep [] H H' → Q (.ref l) H'
theorem strOk_tl (z : Str) : PyData.strOk z = (TL.tl z).all (fun c => decide (c < 0x110000)) := by
  unfold PyData.strOk TL.tl
  rw [Array.all_toList]
theorem strOk_app (a b : Str) : PyData.strOk (a ++ b) = (PyData.strOk a && PyData.strOk b) := by
  rw [strOk_tl, strOk_tl, strOk_tl, TL.tl_append, List.all_append]
theorem strOk_sign {sg : Str} (h : PyData.strOk sg = true) {i : Nat} {c : Nat} (hc : (TL.tl sg)[i]? = some c) : PyData.strOk ⟨#[c]⟩ = true := by
  rw [strOk_tl] at h
  have := List.all_eq_true.mp h c (List.mem_of_getElem? hc)
  rw [strOk_tl]
  show ([c].all _) = true
  simpa using this
theorem len_appN (a b : Str) : (a ++ b).length = a.length + b.length := by rw [TL.len_tl, TL.tl_append, List.length_append, ← TL.len_tl, ← TL.len_tl]
theorem inV_strs (z : Str) : ∀ ys : List Str, inV (.str z) (ys.map V.str) = decide (z ∈ ys)
  | [] => rfl
  | y :: r => by
    have ih := inV_strs z r
    unfold inV at ih ⊢
    rw [List.map_cons, List.any_cons, ih]
    show ((y == z) || decide (z ∈ r)) = decide (z ∈ y :: r)
    by_cases h : y = z
    · subst h; simp
    · have : (y == z) = false := by simpa using h
      rw [this, Bool.false_or]
      simp only [List.mem_cons]
      exact decide_eq_decide.mpr ⟨.inr, fun q => q.elim (fun q => absurd q.symm h) id⟩
theorem flat_strs (ys : List Str) : (ys.map V.str).all flatV = true := by
  rw [List.all_eq_true]
  intro x hx
  obtain ⟨y, _, rfl⟩ := List.mem_map.mp hx
  rfl
def vN (k : Nat) : Str := ("v" : Str) ++ Str.ofString (toString ((k : Nat) : Int))
theorem vN_ok : ∀ k, k < 20 → PyData.strOk (vN k) = true ∧ (vN k).length ≤ 10 := by decide +kernel
theorem vN_nodup : ((List.range 20).map vN).Nodup := by decide +kernel
theorem nodup_le {α : Type} [DecidableEq α] : ∀ (l t : List α), l.Nodup → (∀ x ∈ l, x ∈ t) → l.length ≤ t.length
  | [], t, _, _ => Nat.zero_le _
  | a :: r, t, h, hs => by
    have hn := List.nodup_cons.mp h
    have ha : a ∈ t := hs a (List.mem_cons_self ..)
    have := nodup_le r (t.erase a) hn.2 fun x hx => (List.mem_erase_of_ne (by intro q; subst q; exact hn.1 hx)).mpr (hs x (List.mem_cons_of_mem _ hx))
    rw [List.length_erase_of_mem ha] at this
    have hp : 0 < t.length := List.length_pos_of_mem ha
    rw [List.length_cons]; omega
theorem vN_free {ys : List Str} (h : ys.length < 20) (hall : ∀ j, j < 20 → vN j ∈ ys) : False := by
  have := nodup_le _ ys vN_nodup (fun x hx => by
    obtain ⟨j, hj, rfl⟩ := List.mem_map.mp hx
    exact hall j (List.mem_range.mp hj))
  rw [List.length_map, List.length_range] at this
  omega
def sp_law_spend : Sp := fun vs H Q _ => ∃ p q ns, vs = [.ref p] ∧ Pool H p q ns ∧ ∀ b H', Pool H' p q ns → Keep [p] H H' → Q (.bl b) H'
def sp_law_number : Sp := fun vs H Q _ => ∃ p q ns, vs = [.ref p] ∧ Pool H p q ns ∧ ∀ r H', 0 ≤ r → r < 65536 → Pool H' p q ns → Keep [p] H H' → Q (.int r) H'
def sp_law_name : Sp := fun vs H Q _ => ∃ (p q l : Addr) (ns : List Int) (ys : List Str), vs = [.ref p, .ref l] ∧ H l = some (.lst (ys.map V.str)) ∧ l ≠ p ∧ ys.length < 20 ∧ Pool H p q ns ∧
  ∀ z H', z ∉ ys → PyData.strOk z = true → z.length ≤ 20 → Pool H' p q ns → Keep [p] H H' → Q (.str z) H'
def sp_law_names : Sp := fun vs H Q _ => ∃ (p q : Addr) (ns : List Int) (m : Int), vs = [.ref p, .int m] ∧ 0 ≤ m ∧ m < 20 ∧ Pool H p q ns ∧
  ∀ l (ys : List Str) H', H l = none → H' l = some (.lst (ys.map V.str)) → ys.length ≤ m.toNat → ys.Nodup → NamesOk ys → (∀ y ∈ ys, y.length ≤ 20) → Pool H' p q ns → Keep [p] H H' → Q (.ref l) H'
section
variable {P : Program} {w : World} {K : PySem.W.Frag} {mg : Str → Option Value} {base : Heap} {T_SIGNS : Addr} {T_ZERO : Addr} {T_ONE : Addr}
theorem ok_law_keys {f : Addr} {fd : FuncData} (D : C8.Def K mg "_law_keys" s_law_keys f fd) (b : Binds K fd [] []) (T : Txt K mg T_SIGNS T_ZERO T_ONE) : C8.Cal P w K mg base 1 "_law_keys" sp_law_keys [] := by
  refine cal0 D b .nil sc_law_keys (fun vs H Q E h => ?_) (fun cdv A outer s H vs Q E hr h => ?_)
  · obtain ⟨rfl, _⟩ := h
    rfl
  · obtain ⟨rfl, k⟩ := h
    refine ⟨_, (pss_cons (ps_set (i := 0) sc_law_keys.nd rfl (by first | exact Or.inl rfl | exact Or.inr rfl) pe_str)
(pss_one (ps_ret (pe_split (pe_op op_add_str (pv 0) pe_str) pe_str)))), ?_⟩
    refine ⟨_, rfl, _, _, rfl, rfl, by decide +kernel, ⟨_, rfl⟩, _, _, rfl, rfl, by decide +kernel, by decide +kernel, fun p hp => k p _ hp ?_ (Keep.new hp)⟩
    rw [keys_text]; exact upd_same
theorem ok_law_spend {f : Addr} {fd : FuncData} (D : C8.Def K mg "_law_spend" s_law_spend f fd) (b : Binds K fd ["pool"] []) (T : Txt K mg T_SIGNS T_ZERO T_ONE) {k : Nat} : C8.Cal P w K mg base (k + 1) "_law_spend" sp_law_spend [] := by
  refine cal0 D b .nil sc_law_spend (fun vs H Q E h => ?_) (fun cdv A outer s H vs Q E hr h => ?_)
  · obtain ⟨p, q, ns, rfl, _⟩ := h
    rfl
  · obtain ⟨p, q, ns, rfl, ⟨i1, i2, i3, i4, i5, h1, h2, h3, h4⟩, k⟩ := h
    refine ⟨_, (pss_cons (ps_asg (pe_op op_sub (pe_ix ix_list (pv 0) pe_int (fun _ _ => rfl)) pe_int) (pg_sub (pv 0) pe_int set_list))
(pss_one (ps_ret (pe_cmpR op_ge (pe_ix ix_list (pv 0) pe_int (fun _ _ => rfl)) pe_int (nomark _))))), ?_⟩
    refine ⟨_, rfl, _, _, _, _, rfl, rfl, SqL.of h1, rfl, _, _, rfl, rfl, _, rfl, _, _, _, _, rfl, rfl, h1, rfl, ?_⟩
    refine ⟨_, rfl, _, _, _, _, rfl, rfl, SqL.of upd_same, rfl, _, _, rfl, rfl, ?_⟩
    exact k _ _ ⟨_, _, _, _, _, upd_same, (by rw [upd_ne h3]; exact h2), h3, h4⟩ (Keep.at_ (List.mem_singleton.mpr rfl))
theorem ok_law_number {f : Addr} {fd : FuncData} (D : C8.Def K mg "_law_number" s_law_number f fd) (b : Binds K fd ["pool"] []) (T : Txt K mg T_SIGNS T_ZERO T_ONE) {k : Nat} (c_law_draw : C8.Cal P w K mg base k "_law_draw" sp_law_draw []) : C8.Cal P w K mg base (k + 1) "_law_number" sp_law_number [] := by
  refine cal0 D b .nil sc_law_number (fun vs H Q E h => ?_) (fun cdv A outer s H vs Q E hr h => ?_)
  · obtain ⟨p, q, ns, rfl, _⟩ := h
    rfl
  · obtain ⟨p, q, ns, rfl, hP, k⟩ := h
    refine ⟨_, (pss_cons (ps_if (pt_cmpR op_eq (pe_c c_law_draw hr (by first | exact Nat.le_refl _ | decide) rfl (pa_cons (pv 0) (pa_cons pe_int pa_nil))) pe_int (nomark _))
  (pss_one (ps_ret (pe_c c_law_draw hr (by first | exact Nat.le_refl _ | decide) rfl (pa_cons (pv 0) (pa_cons pe_int pa_nil)))))
  pss_nil)
(pss_one (ps_ret (pe_c c_law_draw hr (by first | exact Nat.le_refl _ | decide) rfl (pa_cons (pv 0) (pa_cons pe_int pa_nil)))))), ?_⟩
    refine ⟨_, rfl, p, q, ns, 3, rfl, by decide, by decide, hP, fun r H1 r0 r1 P1 K1 => ?_⟩
    refine ⟨rfl, _, rfl, iteD (fun _ => ?_) (fun _ => ?_)⟩
    · exact ⟨_, rfl, p, q, ns, _, rfl, by decide, by decide, P1, fun r2 H2 z0 z1 P2 K2 => k _ _ z0 z1 P2 (K1.trans K2)⟩
    · exact ⟨_, rfl, p, q, ns, _, rfl, by decide, by decide, P1, fun r2 H2 z0 z1 P2 K2 => k _ _ z0 (by omega) P2 (K1.trans K2)⟩
theorem ok_law_name {f : Addr} {fd : FuncData} (D : C8.Def K mg "_law_name" s_law_name f fd) (b : Binds K fd ["pool", "taken"] []) (T : Txt K mg T_SIGNS T_ZERO T_ONE) (c_law_draw : C8.Cal P w K mg base 1 "_law_draw" sp_law_draw []) (c_law_few : C8.Cal P w K mg base 2 "_law_few" sp_law_few [])
    (c_law_keys : C8.Cal P w K mg base 1 "_law_keys" sp_law_keys []) : C8.Cal P w K mg base 3 "_law_name" sp_law_name [] := by
  refine cal0 D b .nil sc_law_name (fun vs H Q E h => ?_) (fun cdv A outer s H vs Q E hr h => ?_)
  · obtain ⟨p, q, l, ns, ys, rfl, _⟩ := h
    rfl
  · obtain ⟨p, q, l, ns, ys, rfl, hl, nlp, hlen, hP, k⟩ := h
    refine ⟨_, (pss_cons (ps_set (i := 2) sc_law_name.nd rfl (by first | exact Or.inl rfl | exact Or.inr rfl) pe_str)
(pss_cons (ps_set (i := 3) sc_law_name.nd rfl (by first | exact Or.inl rfl | exact Or.inr rfl) (pe_ix ix_str (pv 2) (pe_c c_law_draw hr (by first | exact Nat.le_refl _ | decide) rfl (pa_cons (pv 0) (pa_cons pe_int pa_nil))) (fun _ _ => rfl)))
(pss_cons (ps_for PassesOwn.never rfl (pi_range1 (by rfl) T.n_range (pa_cons (pe_c c_law_few hr (by first | exact Nat.le_refl _ | decide) rfl (pa_cons (pv 0) (pa_cons pe_int pa_nil))) pa_nil)) (pg_name (i := 4) sc_law_name.nd rfl (by first | exact Or.inl rfl | exact Or.inr rfl))
  (pss_one (ps_set (i := 3) sc_law_name.nd rfl (by first | exact Or.inl rfl | exact Or.inr rfl) (pe_op op_add_str (pv 3) (pe_ix ix_str (pv 2) (pe_c c_law_draw hr (by first | exact Nat.le_refl _ | decide) rfl (pa_cons (pv 0) (pa_cons pe_int pa_nil))) (fun _ _ => rfl))))))
(pss_cut (ps_if (PW.pt (pw_or (pt_cmpR op_in_seq (pv 3) (pv 1) (by rfl)) (pw_or1 (pt_cmpR op_in_seq (pv 3) (pe_c0 c_law_keys hr (by first | exact Nat.le_refl _ | decide) rfl) (by rfl)))))
  (pss_one (ps_for PassesOwn.never rfl (pi_range1 (by rfl) T.n_range (pa_cons pe_int pa_nil)) (pg_name (i := 4) sc_law_name.nd rfl (by first | exact Or.inl rfl | exact Or.inr rfl))
    (pss_one (ps_if (pt_cmpR op_notIn_seq (pe_op op_add_str pe_str (pe_callTy call_str_int (by rfl) T.n_str bo_str (pa_cons (pv 4) pa_nil))) (pv 1) (by rfl))
      (pss_one (ps_set (i := 3) sc_law_name.nd rfl (by first | exact Or.inl rfl | exact Or.inr rfl) (pe_op op_add_str pe_str (pe_callTy call_str_int (by rfl) T.n_str bo_str (pa_cons (pv 4) pa_nil)))))
      pss_nil))))
  pss_nil)
(pss_one (ps_ret (pv 3))))))), ?_⟩
    obtain ⟨sg, hsgv, hsg, hso⟩ : ∃ sg : Str, sg = ("abcdefghijklmnopqrstuvwxyz0123456789" : Str) ∧ sg.length = 36 ∧ PyData.strOk sg = true := ⟨_, rfl, by decide +kernel, by decide +kernel⟩
    rw [← hsgv]
    have hsl : (TL.tl sg).length = 36 := by rw [← TL.len_tl]; exact hsg
    have l1 : ∀ c : Nat, (⟨#[c]⟩ : Str).length = 1 := fun _ => rfl
    refine ⟨_, rfl, _, rfl, p, q, ns, 26, rfl, by decide, by decide, hP, fun r H1 r0 r1 P1 K1 => ?_⟩
    obtain ⟨m, rfl⟩ : ∃ m : Nat, r = (m : Int) := ⟨r.toNat, by omega⟩
    have hm := List.getElem?_eq_getElem (show m < (TL.tl sg).length by omega)
    refine ⟨_, _, _, rfl, rfl, smallM (by omega), atI_nat hm, ?_⟩
    have ok0 := strOk_sign hso hm
    refine ⟨_, rfl, p, q, ns, 11, rfl, by decide, by decide, P1, fun f H2 f0 f1 P2 K2 => ?_⟩
    refine ⟨_, rfl, by omega, by omega, for_range (lo := 0) (n := f.toNat) (fun i σ H' => ∃ (z : Str) (o : Option V), σ = [some (.ref p), some (.ref l), some (.str sg), some (.str z), o] ∧ PyData.strOk z = true ∧ z.length = i + 1 ∧ Pool H' p q ns ∧ Keep [p] H H')
      ⟨_, none, rfl, ok0, l1 _, P2, K1.trans K2⟩ ?_ ?_⟩
    · rintro i σ H3 hi ⟨z, o, rfl, hz, hzl, P3, K3⟩
      refine ⟨_, rfl, _, rfl, _, rfl, p, q, ns, 36, rfl, by decide, by decide, P3, fun r H4 r0 r1 P4 K4 => ?_⟩
      obtain ⟨m, rfl⟩ : ∃ m : Nat, r = (m : Int) := ⟨r.toNat, by omega⟩
      have hm := List.getElem?_eq_getElem (show m < (TL.tl sg).length by omega)
      refine ⟨_, _, _, rfl, rfl, smallM (by omega), atI_nat hm, _, _, rfl, rfl, smallM (by rw [l1]; omega), ?_⟩
      exact ⟨_, _, rfl, by rw [strOk_app, hz, strOk_sign hso hm]; rfl, by rw [len_appN, l1, hzl], P4, K3.trans K4⟩
    · rintro σ H3 ⟨z, o, rfl, hz, hzl, P3, K3⟩
      have hl3 := K3 _ _ hl (by simpa using nlp)
      refine ⟨fun σ H' => ∃ (z : Str) (o : Option V), σ = [some (.ref p), some (.ref l), some (.str sg), some (.str z), o] ∧ z ∉ ys ∧ PyData.strOk z = true ∧ z.length ≤ 20 ∧ Pool H' p q ns ∧ Keep [p] H H', ?_, ?_⟩
      · have rest : ∀ (H4 : Hp), Pool H4 p q ns → Keep [p] H H4 → (fun (D : Ends) => True) = (fun (D : Ends) => True) := fun _ _ _ => rfl
        have inv : ∀ {H4 : Hp}, Pool H4 p q ns → Keep [p] H H4 → (fun (i : Nat) (σ : List (Option V)) (H' : Hp) => ∃ (z : Str) (o : Option V), σ = [some (.ref p), some (.ref l), some (.str sg), some (.str z), o] ∧ (z ∉ ys ∨ ∀ j, j < i → vN j ∈ ys) ∧ PyData.strOk z = true ∧ z.length ≤ 20 ∧ H' = H4) 0 [some (.ref p), some (.ref l), some (.str sg), some (.str z), o] H4 :=
          fun _ _ => ⟨_, _, rfl, .inr fun j hj => absurd hj (Nat.not_lt_zero _), hz, by omega, rfl⟩
        refine ⟨_, rfl, _, rfl, _, _, rfl, .inl (SqL.of hl3), rfl, flat_strs ys, _, rfl, iteB (fun e => ?_) (fun e => ?_)⟩
        · refine ⟨20, rfl, by decide, by decide, for_range (lo := 0) (n := 20) (fun (i : Nat) (σ : List (Option V)) (H' : Hp) => ∃ (z : Str) (o : Option V), σ = [some (.ref p), some (.ref l), some (.str sg), some (.str z), o] ∧ (z ∉ ys ∨ ∀ j, j < i → vN j ∈ ys) ∧ PyData.strOk z = true ∧ z.length ≤ 20 ∧ H' = H3) (inv P3 K3) ?_ ?_⟩
          · rintro i σ H' hi ⟨z, o, rfl, hzz, hz, hzl, rfl⟩
            have e0 : (0 : Int) + (i : Int) = (i : Int) := by omega
            rw [e0]
            have hv := vN_ok i hi
            have hlog : ((i : Nat) : Int).natAbs.log2 < 1920 := by
              rw [Int.natAbs_natCast]; exact PySem.Flt.log2_lt_of (by decide) (Nat.lt_trans (show i < 20 from hi) (by decide +kernel))
            have hvl : ("v" : Str).length + (Str.ofString (toString ((i : Nat) : Int))).length ≤ sizeLine := by
              have := hv.2; unfold vN at this; rw [len_appN] at this; exact smallM (by omega)
            refine ⟨_, rfl, _, rfl, hlog, _, _, rfl, rfl, hvl, _, rfl, _, _, rfl, .inl (SqL.of hl3), rfl, flat_strs ys, _, rfl, iteB (fun e => ?_) (fun e => ?_)⟩
            · have e' : (!inV (.str (vN i)) (ys.map V.str)) = true := e
              rw [inV_strs] at e'
              exact ⟨_, rfl, _, rfl, hlog, _, _, rfl, rfl, hvl, vN i, _, rfl, .inl (by simpa using e'), hv.1, by omega, rfl⟩
            · have e' : (!inV (.str (vN i)) (ys.map V.str)) = false := e
              rw [inV_strs] at e'
              refine ⟨z, _, rfl, ?_, hz, hzl, rfl⟩
              rcases hzz with hzz | hzz
              · exact .inl hzz
              · refine .inr fun j hj => ?_
                by_cases q : j = i
                · subst q; simpa using e'
                · exact hzz j (by omega)
          · rintro σ H' ⟨z, o, rfl, hzz, hz, hzl, rfl⟩
            exact ⟨z, o, rfl, hzz.elim id (fun g => (vN_free hlen g).elim), hz, hzl, P3, K3⟩
        · have e' : inV (.str z) (ys.map V.str) = false := e
          rw [inV_strs] at e'
          have hzy : z ∉ ys := by simpa using e'
          refine ⟨_, rfl, rfl, fun a H4 na ha K4 => ⟨_, _, rfl, .inl (SqL.of ha), rfl, flat_strs kwL, _, rfl, iteB (fun e => ?_) (fun e => ?_)⟩⟩
          · have P4 := P3.keep0 K4
            have K4' : Keep [p] H H4 := K3.trans (K4.mono (by simp))
            have hl4 := K4 _ _ hl3 (by simp)
            refine ⟨20, rfl, by decide, by decide, for_range (lo := 0) (n := 20) (fun (i : Nat) (σ : List (Option V)) (H' : Hp) => ∃ (z : Str) (o : Option V), σ = [some (.ref p), some (.ref l), some (.str sg), some (.str z), o] ∧ (z ∉ ys ∨ ∀ j, j < i → vN j ∈ ys) ∧ PyData.strOk z = true ∧ z.length ≤ 20 ∧ H' = H4) (inv P4 K4') ?_ ?_⟩
            · rintro i σ H' hi ⟨z, o, rfl, hzz, hz, hzl, rfl⟩
              have e0 : (0 : Int) + (i : Int) = (i : Int) := by omega
              rw [e0]
              have hv := vN_ok i hi
              have hlog : ((i : Nat) : Int).natAbs.log2 < 1920 := by
                rw [Int.natAbs_natCast]; exact PySem.Flt.log2_lt_of (by decide) (Nat.lt_trans (show i < 20 from hi) (by decide +kernel))
              have hvl : ("v" : Str).length + (Str.ofString (toString ((i : Nat) : Int))).length ≤ sizeLine := by
                have := hv.2; unfold vN at this; rw [len_appN] at this; exact smallM (by omega)
              refine ⟨_, rfl, _, rfl, hlog, _, _, rfl, rfl, hvl, _, rfl, _, _, rfl, .inl (SqL.of hl4), rfl, flat_strs ys, _, rfl, iteB (fun e => ?_) (fun e => ?_)⟩
              · have e' : (!inV (.str (vN i)) (ys.map V.str)) = true := e
                rw [inV_strs] at e'
                exact ⟨_, rfl, _, rfl, hlog, _, _, rfl, rfl, hvl, vN i, _, rfl, .inl (by simpa using e'), hv.1, by omega, rfl⟩
              · have e' : (!inV (.str (vN i)) (ys.map V.str)) = false := e
                rw [inV_strs] at e'
                refine ⟨z, _, rfl, ?_, hz, hzl, rfl⟩
                rcases hzz with hzz | hzz
                · exact .inl hzz
                · refine .inr fun j hj => ?_
                  by_cases q : j = i
                  · subst q; simpa using e'
                  · exact hzz j (by omega)
            · rintro σ H' ⟨z, o, rfl, hzz, hz, hzl, rfl⟩
              exact ⟨z, o, rfl, hzz.elim id (fun g => (vN_free hlen g).elim), hz, hzl, P4, K4'⟩
          · exact ⟨z, o, rfl, hzy, hz, by omega, P3.keep0 K4, K3.trans (K4.mono (by simp))⟩
      · rintro σ H4 ⟨z, o, rfl, hzy, hz, hzl, P4, K4⟩
        exact ⟨_, rfl, k _ _ hzy hz hzl P4 K4⟩
theorem ok_law_names {f : Addr} {fd : FuncData} (D : C8.Def K mg "_law_names" s_law_names f fd) (b : Binds K fd ["pool", "most"] []) (T : Txt K mg T_SIGNS T_ZERO T_ONE) (c_law_few : C8.Cal P w K mg base 2 "_law_few" sp_law_few []) (c_law_name : C8.Cal P w K mg base 3 "_law_name" sp_law_name []) : C8.Cal P w K mg base 4 "_law_names" sp_law_names [] := by
  refine cal0 D b .nil sc_law_names (fun vs H Q E h => ?_) (fun cdv A outer s H vs Q E hr h => ?_)
  · obtain ⟨p, q, ns, m, rfl, _⟩ := h
    rfl
  · obtain ⟨p, q, ns, m, rfl, m0, m1, hP, k⟩ := h
    refine ⟨_, (pss_cons (ps_set (i := 2) sc_law_names.nd rfl (by first | exact Or.inl rfl | exact Or.inr rfl) (pe_lst pa_nil))
(pss_cons (ps_for PassesOwn.never rfl (pi_range1 (by rfl) T.n_range (pa_cons (pe_c c_law_few hr (by first | exact Nat.le_refl _ | decide) rfl (pa_cons (pv 0) (pa_cons (pv 1) pa_nil))) pa_nil)) (pg_name (i := 3) sc_law_names.nd rfl (by first | exact Or.inl rfl | exact Or.inr rfl))
  (pss_one (ps_expr (pe_bm PySem.F.plainAttrs_list PySem.F.slot_list_append PySem.F.type_list_append mt_append (pv 2) (pa_cons (pe_c c_law_name hr (by first | exact Nat.le_refl _ | decide) rfl (pa_cons (pv 0) (pa_cons (pv 2) pa_nil))) pa_nil)))))
(pss_one (ps_ret (pv 2))))), ?_⟩
    refine ⟨by show 0 ≤ sizeLine; decide, fun l hl => ?_⟩
    have P1 := hP.new (o := .lst []) hl
    have nlp := hP.nep hl
    have nlq := hP.neq hl
    refine ⟨_, rfl, _, rfl, p, q, ns, m, rfl, m0, by omega, P1, fun f H2 f0 f1 P2 K2 => ?_⟩
    refine ⟨_, rfl, by omega, by omega, for_range (lo := 0) (n := f.toNat) (fun i σ H' => ∃ (ys : List Str) (o : Option V), σ = [some (.ref p), some (.int m), some (.ref l), o] ∧ H' l = some (.lst (ys.map V.str)) ∧ ys.length = i ∧ ys.Nodup ∧ NamesOk ys ∧ (∀ y ∈ ys, y.length ≤ 20) ∧ Pool H' p q ns ∧ Keep [p] H H')
      ⟨[], none, rfl, K2 _ _ upd_same (by simpa using nlp), rfl, List.nodup_nil, (fun _ h => by cases h), (fun _ h => by cases h), P2, (Keep.new hl).trans K2⟩ ?_ ?_⟩
    · rintro i σ H3 hi ⟨ys, o, rfl, hy, hyl, hnd, hno, hle, P3, K3⟩
      refine ⟨_, rfl, .inl ⟨rfl, _, SqL.of hy⟩, _, rfl, _, rfl, p, q, l, ns, ys, rfl, hy, nlp, by omega, P3, fun z H4 hz1 hz2 hz3 P4 K4 => ?_⟩
      have hy4 := K4 _ _ hy (by simpa using nlp)
      refine ⟨_, _, _, rfl, rfl, hy4, (by rw [List.length_map]; exact smallL (by omega)), ?_⟩
      refine ⟨ys ++ [z], _, rfl, by rw [List.map_append]; exact upd_same, by rw [List.length_append, hyl]; rfl, ?_, ?_, ?_, P4.own nlp nlq, (K3.trans K4).then_own hl⟩
      · rw [List.nodup_append]
        refine ⟨hnd, by simp, fun a ha b hb => ?_⟩
        rw [List.mem_singleton] at hb
        subst hb
        exact fun q => hz1 (q ▸ ha)
      · intro y hy
        rcases List.mem_append.mp hy with h | h
        · exact hno y h
        · rw [List.mem_singleton.mp h]; exact hz2
      · intro y hy
        rcases List.mem_append.mp hy with h | h
        · exact hle y h
        · rw [List.mem_singleton.mp h]; exact hz3
    · rintro σ H3 ⟨ys, o, rfl, hy, hyl, hnd, hno, hle, P3, K3⟩
      exact ⟨_, rfl, k l ys _ hl hy (by omega) hnd hno hle P3 K3⟩
end

/-! folding, in plain words -/
def numOf : Ex → Option Int
  | .num n => some n
  | _ => none
def m3 (s : Str) : Bool := inV (.str s) [.str "-", .str "mod", .str "<"]
def m4 (s : Str) : Bool := inV (.str s) [.str "-", .str "*", .str "/", .str "mod"]
def m5 (s : Str) : Bool := inV (.str s) [.str "*", .str "/", .str "mod", .str "<"]
def m2 (s : Str) : Bool := inV (.str s) [.str "+", .str "-"]
def m6 (s : Str) : Bool := inV (.str s) [.str "*", .str "/"]
def isS (s t : Str) : Bool := decide (V.str s = V.str t)
def p8 (s : Str) (a b : Ex) : Ex := .op s a b
def p7 (s : Str) (a b : Ex) : Ex := if (EQ b (.num 0) && m2 s || EQ b (.num 1) && m6 s) = true then a else p8 s a b
def p6 (s : Str) (a b : Ex) : Ex := if (EQ a (.num 0) && isS s "+" || EQ a (.num 1) && isS s "*") = true then b else p7 s a b
def p5 (s : Str) (a b : Ex) : Ex := if (EQ b (.num 1) && isS s "mod") = true then .num 0 else p6 s a b
def p4 (s : Str) (a b : Ex) : Ex := if (EQ b (.num 0) && m5 s) = true then .num 0 else p5 s a b
def p3 (s : Str) (a b : Ex) : Ex := if (EQ a (.num 0) && m4 s) = true then .num 0 else p4 s a b
def p2 (s : Str) (a b : Ex) : Ex := if (EQ a b && isS s "=") = true then .num 1 else p3 s a b
def p1 (s : Str) (a b : Ex) : Ex := if (EQ a b && m3 s) = true then .num 0 else p2 s a b
def pair (s : Str) (a b : Ex) : Ex :=
  match numOf a with
  | none => p1 s a b
  | some m => match numOf b with
    | none => p1 s a b
    | some n => .num (comb s m n)
theorem pair_l {s : Str} {a b : Ex} (h : numOf a = none) : pair s a b = p1 s a b := by unfold pair; rw [h]
theorem pair_r {s : Str} {a b : Ex} (h : numOf b = none) : pair s a b = p1 s a b := by
  unfold pair
  cases q : numOf a with
  | none => rfl
  | some m => simp only [h]
theorem pair_n {s : Str} {m n : Int} : pair s (.num m) (.num n) = .num (comb s m n) := rfl
theorem m3_c : ∀ s ∈ sgL, m3 s = true → s = "-" ∨ s = "mod" ∨ s = "<" := by decide +kernel
theorem m4_c : ∀ s ∈ sgL, m4 s = true → s = "-" ∨ s = "*" ∨ s = "/" ∨ s = "mod" := by decide +kernel
theorem m5_c : ∀ s ∈ sgL, m5 s = true → s = "*" ∨ s = "/" ∨ s = "mod" ∨ s = "<" := by decide +kernel
theorem m2_c : ∀ s ∈ sgL, m2 s = true → s = "+" ∨ s = "-" := by decide +kernel
theorem m6_c : ∀ s ∈ sgL, m6 s = true → s = "*" ∨ s = "/" := by decide +kernel
theorem is_c {s t : Str} (h : isS s t = true) : s = t := V.str.inj (of_decide_eq_true h)
/-- the law's own tests of signs -/
theorem l2_c : ∀ s ∈ sgL, (!isS s "+" && !isS s "*" && !isS s "/") = (m3 s || isS s "=") := by decide +kernel
theorem l2_d : ∀ s ∈ sgL, m3 s = true → isS s "=" = false := by decide +kernel
theorem l3_c : ∀ s ∈ sgL, (!isS s "+" && !isS s "<" && !isS s "=") = m4 s := by decide +kernel
theorem l4_c : ∀ s ∈ sgL, (!isS s "+" && !isS s "-" && !isS s "=") = m5 s := by decide +kernel
theorem l6_c : ∀ s ∈ sgL, (isS s "+" || isS s "-") = m2 s := by decide +kernel
theorem l7_c : ∀ s ∈ sgL, (isS s "*" || isS s "/") = m6 s := by decide +kernel
section
variable {tb : Str → Int} {on : Str → Bool} {seen : List Int} {ns ps : List Str}
theorem val_p1 (ht : TbOk ns tb) (hs : SeenOk seen) {s : Str} {a b : Ex} (hsg : s ∈ sgL) (ha : a.Ok ns ps) (hb : b.Ok ns ps) : val tb on seen (p1 s a b) = comb s (val tb on seen a) (val tb on seen b) := by
  have ra := val_range (on := on) ht hs a ha
  have rb := val_range (on := on) ht hs b hb
  unfold p1
  split
  · rename_i h
    rw [Bool.and_eq_true] at h
    have e := eq_sound _ _ h.1
    subst e
    show (0 : Int) = _
    rcases m3_c s hsg h.2 with rfl | rfl | rfl
    · rw [comb_sub]; split <;> omega
    · rw [comb_mod]; split
      · exact Int.emod_self.symm
      · rfl
    · rw [comb_lt]; split <;> omega
  unfold p2
  split
  · rename_i h
    rw [Bool.and_eq_true] at h
    have e := eq_sound _ _ h.1
    subst e
    have e2 := is_c h.2
    subst e2
    rw [comb_eq, if_pos rfl]; rfl
  unfold p3
  split
  · rename_i h
    rw [Bool.and_eq_true] at h
    have e := eq_sound _ _ h.1
    subst e
    show (0 : Int) = comb s 0 _
    rcases m4_c s hsg h.2 with rfl | rfl | rfl | rfl
    · rw [comb_sub]; split <;> omega
    · rw [comb_mul, Int.zero_mul]; rfl
    · rw [comb_div, Int.zero_ediv]; split <;> rfl
    · rw [comb_mod, Int.zero_emod]; split <;> rfl
  unfold p4
  split
  · rename_i h
    rw [Bool.and_eq_true] at h
    have e := eq_sound _ _ h.1
    subst e
    show (0 : Int) = comb s _ 0
    rcases m5_c s hsg h.2 with rfl | rfl | rfl | rfl
    · rw [comb_mul, Int.mul_zero]; rfl
    · rw [comb_div]; rfl
    · rw [comb_mod]; rfl
    · rw [comb_lt]; split <;> omega
  unfold p5
  split
  · rename_i h
    rw [Bool.and_eq_true] at h
    have e := eq_sound _ _ h.1
    subst e
    have e2 := is_c h.2
    subst e2
    show (0 : Int) = comb "mod" _ 1
    rw [comb_mod, if_pos (by decide), Int.emod_one]
  unfold p6
  split
  · rename_i h
    rw [Bool.or_eq_true, Bool.and_eq_true, Bool.and_eq_true] at h
    rcases h with h | h
    · have e := eq_sound _ _ h.1
      subst e
      have e2 := is_c h.2
      subst e2
      show _ = comb "+" 0 _
      rw [comb_add]; omega
    · have e := eq_sound _ _ h.1
      subst e
      have e2 := is_c h.2
      subst e2
      show _ = comb "*" 1 _
      rw [comb_mul]; omega
  unfold p7
  split
  · rename_i h
    rw [Bool.or_eq_true, Bool.and_eq_true, Bool.and_eq_true] at h
    rcases h with h | h
    · have e := eq_sound _ _ h.1
      subst e
      show _ = comb s _ 0
      rcases m2_c s hsg h.2 with rfl | rfl
      · rw [comb_add]; omega
      · rw [comb_sub]; split <;> omega
    · have e := eq_sound _ _ h.1
      subst e
      show _ = comb s _ 1
      rcases m6_c s hsg h.2 with rfl | rfl
      · rw [comb_mul]; omega
      · rw [comb_div, if_pos (by decide), Int.ediv_one]
  rfl
theorem p1_shape (s : Str) (a b : Ex) : p1 s a b = .num 0 ∨ p1 s a b = .num 1 ∨ p1 s a b = a ∨ p1 s a b = b ∨ p1 s a b = .op s a b := by
  unfold p1 p2 p3 p4 p5 p6 p7 p8
  repeat' split
  all_goals simp
theorem pair_shape {s : Str} {a b : Ex} (hsg : s ∈ sgL) (ha : a.Ok ns ps) (hb : b.Ok ns ps) : (∃ k, pair s a b = .num k ∧ 0 ≤ k ∧ k < 65536) ∨ pair s a b = a ∨ pair s a b = b ∨ pair s a b = .op s a b := by
  have g : pair s a b = p1 s a b → (∃ k, pair s a b = .num k ∧ 0 ≤ k ∧ k < 65536) ∨ pair s a b = a ∨ pair s a b = b ∨ pair s a b = .op s a b := fun e => by
    rw [e]
    rcases p1_shape s a b with h | h | h
    · exact .inl ⟨0, h, by decide, by decide⟩
    · exact .inl ⟨1, h, by decide, by decide⟩
    · exact .inr h
  cases qa : numOf a with
  | none => exact g (pair_l qa)
  | some m =>
    cases qb : numOf b with
    | none => exact g (pair_r qb)
    | some n =>
      cases a <;> simp [numOf] at qa
      cases b <;> simp [numOf] at qb
      subst qa qb
      have := comb_range hsg ha.1 ha.2 hb.1 hb.2
      exact .inl ⟨_, rfl, this.1, this.2⟩
theorem val_pair (ht : TbOk ns tb) (hs : SeenOk seen) {s : Str} {a b : Ex} (hsg : s ∈ sgL) (ha : a.Ok ns ps) (hb : b.Ok ns ps) : val tb on seen (pair s a b) = comb s (val tb on seen a) (val tb on seen b) := by
  cases qa : numOf a with
  | none => rw [pair_l qa]; exact val_p1 ht hs hsg ha hb
  | some m =>
    cases qb : numOf b with
    | none => rw [pair_r qb]; exact val_p1 ht hs hsg ha hb
    | some n =>
      cases a <;> simp [numOf] at qa
      cases b <;> simp [numOf] at qb
      rfl
def fold (on : Str → Bool) : Ex → Ex
  | .pick x l r => if on x = true then fold on l else fold on r
  | .view e => .view (fold on e)
  | .op s l r => pair s (fold on l) (fold on r)
  | .num n => .num n
  | .var x => .var x
  | .long => .long
theorem fold_ok : ∀ e : Ex, e.Ok ns ps → (fold on e).Ok ns ps ∧ (fold on e).dep ≤ e.dep
  | .num _, h => ⟨h, Nat.le_refl _⟩
  | .var _, h => ⟨h, Nat.le_refl _⟩
  | .long, h => ⟨h, Nat.le_refl _⟩
  | .view e, h => by
    have := fold_ok e h
    exact ⟨this.1, Nat.succ_le_succ this.2⟩
  | .pick x l r, ⟨h1, h2, h3⟩ => by
    have a := fold_ok l h2
    have b := fold_ok r h3
    show (if on x = true then fold on l else fold on r).Ok ns ps ∧ (if on x = true then fold on l else fold on r).dep ≤ max l.dep r.dep + 1
    split
    · exact ⟨a.1, by omega⟩
    · exact ⟨b.1, by omega⟩
  | .op s l r, ⟨h1, h2, h3⟩ => by
    have a := fold_ok l h2
    have b := fold_ok r h3
    show (pair s (fold on l) (fold on r)).Ok ns ps ∧ (pair s (fold on l) (fold on r)).dep ≤ max l.dep r.dep + 1
    rcases pair_shape h1 a.1 b.1 with ⟨k, e, k0, k1⟩ | e | e | e
    · rw [e]; exact ⟨⟨k0, k1⟩, by show 1 ≤ _; omega⟩
    · rw [e]; exact ⟨a.1, by omega⟩
    · rw [e]; exact ⟨b.1, by omega⟩
    · rw [e]; exact ⟨⟨h1, a.1, b.1⟩, by show max (fold on l).dep (fold on r).dep + 1 ≤ _; omega⟩
theorem fold_val (ht : TbOk ns tb) (hs : SeenOk seen) : ∀ e : Ex, e.Ok ns ps → val tb on seen (fold on e) = val tb on seen e
  | .num _, h => rfl
  | .var _, h => rfl
  | .long, h => rfl
  | .view e, h => by
    have := fold_val ht hs e h
    show val tb on seen (.view (fold on e)) = _
    simp only [val, this]
  | .pick x l r, ⟨h1, h2, h3⟩ => by
    have a := fold_val ht hs l h2
    have b := fold_val ht hs r h3
    by_cases q : on x = true
    · simp only [fold, val, if_pos q]; exact a
    · simp only [fold, val, if_neg q]; exact b
  | .op s l r, ⟨h1, h2, h3⟩ => by
    have a := fold_val ht hs l h2
    have b := fold_val ht hs r h3
    show val tb on seen (pair s (fold on l) (fold on r)) = comb s (val tb on seen l) (val tb on seen r)
    rw [val_pair ht hs h1 (fold_ok l h2).1 (fold_ok r h3).1, a, b]
theorem fold_fix : ∀ e : Ex, e.Ok ns ps → fold on (fold on e) = fold on e
  | .num _, h => rfl
  | .var _, h => rfl
  | .long, h => rfl
  | .view e, h => by
    have := fold_fix e h
    show Ex.view (fold on (fold on e)) = .view (fold on e)
    rw [this]
  | .pick x l r, ⟨h1, h2, h3⟩ => by
    have a := fold_fix l h2
    have b := fold_fix r h3
    by_cases q : on x = true
    · simp only [fold, if_pos q]; exact a
    · simp only [fold, if_neg q]; exact b
  | .op s l r, ⟨h1, h2, h3⟩ => by
    have a := fold_fix l h2
    have b := fold_fix r h3
    show fold on (pair s (fold on l) (fold on r)) = pair s (fold on l) (fold on r)
    rcases pair_shape h1 (fold_ok (on := on) l h2).1 (fold_ok (on := on) r h3).1 with ⟨k, e, k0, k1⟩ | e | e | e
    · rw [e]; rfl
    · rw [e, a]
    · rw [e, b]
    · conv => lhs; rw [e]
      show pair s (fold on (fold on l)) (fold on (fold on r)) = _
      rw [a, b]
end
theorem ev_tag {K : PySem.W.Frag} {H : Hp} {v : V} {e : Ex} {ns ps : List Str} (h : EV K H v e) (ok : e.Ok ns ps) : ∃ a t rest, v = .ref a ∧ At K H a (.str t :: rest) ∧ ((t = "number" ∧ ∃ n, e = .num n ∧ rest = [.int n]) ∨ (t ≠ "number" ∧ numOf e = none)) := by
  cases h with
  | num h => exact ⟨_, _, _, rfl, h, .inl ⟨rfl, _, rfl, rfl⟩⟩
  | var h => exact ⟨_, _, _, rfl, h, .inr ⟨by decide +kernel, rfl⟩⟩
  | long h => exact ⟨_, _, _, rfl, h, .inr ⟨by decide +kernel, rfl⟩⟩
  | view h _ => exact ⟨_, _, _, rfl, h, .inr ⟨by decide +kernel, rfl⟩⟩
  | pick h _ _ => exact ⟨_, _, _, rfl, h, .inr ⟨by decide +kernel, rfl⟩⟩
  | op h _ _ => exact ⟨_, _, _, rfl, h, .inr ⟨(sg_not _ ok.1).1, rfl⟩⟩
theorem calUp {P : Program} {w : World} {K : PySem.W.Frag} {mg : Str → Option Value} {base : Heap} {j k : Nat} {x : Str} {sp : Sp} {dvs : List V} (c : C8.Cal P w K mg base j x sp dvs) (h : j ≤ k) : C8.Cal P w K mg base k x sp dvs := by
  obtain ⟨f, fd, ps, ds, F, hm, kp, b, d⟩ := c.ex
  exact ⟨f, fd, ps, ds, F.mono h, hm, kp, b, d⟩
def sp_pair (K : PySem.W.Frag) : Sp := fun vs H Q _ => ∃ s va vb a b ns ps, vs = [.str s, va, vb] ∧ s ∈ sgL ∧ EV K H va a ∧ EV K H vb b ∧ a.Ok ns ps ∧ b.Ok ns ps ∧ a.dep ≤ 60 ∧ b.dep ≤ 60 ∧ NamesOk ns ∧ NamesOk ps ∧
  ∀ r H', Keep [] H H' → EV K H' r (pair s a b) → Q r H'
theorem shN (n : Int) : SeqAt.shaped (dEx (.num n)) = true := shaped_ex (ns := []) (ps := []) (e := .num 0) (fun _ h => by cases h) (fun _ h => by cases h) ⟨by decide, by decide⟩ (by decide)

theorem dpN {K : PySem.W.Frag} {H : Hp} {v : V} {e : Ex} (h : EV K H v e) : Dp K H v (dEx e) := h.dp
section
variable {P : Program} {w : World} {K : PySem.W.Frag} {mg : Str → Option Value} {base : Heap} {T_SIGNS : Addr} {T_ZERO : Addr} {T_ONE : Addr}
theorem ok_fold_pair {f : Addr} {fd : FuncData} (D : C8.Def K mg "fold_pair" s_fold_pair f fd) (b : Binds K fd ["sign", "left", "right"] []) (T : Txt K mg T_SIGNS T_ZERO T_ONE) {k : Nat} (c_combine : C8.Cal P w K mg base k "combine" sp_combine []) : C8.Cal P w K mg base (k + 1) "fold_pair" (sp_pair K) [] := by
  refine cal0 D b .nil sc_fold_pair (fun vs H Q E h => ?_) (fun cdv A outer s H vs Q E hr h => ?_)
  · obtain ⟨s, va, vb, a, b, ns, ps, rfl, _⟩ := h
    rfl
  · obtain ⟨s, va, vb, a, b, ns, ps, rfl, hs, ha, hb, oa, ob, da, db, hn, hp, k⟩ := h
    refine ⟨_, (pss_cut (ps_if (PW.pt (pw_and (pt_cmpR op_eq (pe_ix ix_tup (pv 1) pe_int (fun _ _ => rfl)) pe_str (nomark _)) (pw_and1 (pt_cmpR op_eq (pe_ix ix_tup (pv 2) pe_int (fun _ _ => rfl)) pe_str (nomark _)))))
  (pss_one (ps_ret (pe_tup (pa_cons pe_str (pa_cons (pe_c c_combine hr (by first | exact Nat.le_refl _ | decide) rfl (pa_cons (pv 0) (pa_cons (pe_ix ix_tup (pv 1) pe_int (fun _ _ => rfl)) (pa_cons (pe_ix ix_tup (pv 2) pe_int (fun _ _ => rfl)) pa_nil)))) pa_nil)))))
  pss_nil)
(pss_cut (ps_if (PW.pt (pw_and (pt_cmpR (op_eqD hr.units) (pv 1) (pv 2) (nomark _)) (pw_and1 (pt_cmpR op_in_seq (pv 0) (pe_tup (pa_cons pe_str (pa_cons pe_str (pa_cons pe_str pa_nil)))) (by rfl)))))
  (pss_one (ps_ret (pe_gc rfl T.v_ZERO)))
  pss_nil)
(pss_cut (ps_if (PW.pt (pw_and (pt_cmpR (op_eqD hr.units) (pv 1) (pv 2) (nomark _)) (pw_and1 (pt_cmpR op_eq (pv 0) pe_str (nomark _)))))
  (pss_one (ps_ret (pe_gc rfl T.v_ONE)))
  pss_nil)
(pss_cut (ps_if (PW.pt (pw_and (pt_cmpR (op_eqD hr.units) (pv 1) (pe_gc rfl T.v_ZERO) (nomark _)) (pw_and1 (pt_cmpR op_in_seq (pv 0) (pe_tup (pa_cons pe_str (pa_cons pe_str (pa_cons pe_str (pa_cons pe_str pa_nil))))) (by rfl)))))
  (pss_one (ps_ret (pe_gc rfl T.v_ZERO)))
  pss_nil)
(pss_cut (ps_if (PW.pt (pw_and (pt_cmpR (op_eqD hr.units) (pv 2) (pe_gc rfl T.v_ZERO) (nomark _)) (pw_and1 (pt_cmpR op_in_seq (pv 0) (pe_tup (pa_cons pe_str (pa_cons pe_str (pa_cons pe_str (pa_cons pe_str pa_nil))))) (by rfl)))))
  (pss_one (ps_ret (pe_gc rfl T.v_ZERO)))
  pss_nil)
(pss_cut (ps_if (PW.pt (pw_and (pt_cmpR (op_eqD hr.units) (pv 2) (pe_gc rfl T.v_ONE) (nomark _)) (pw_and1 (pt_cmpR op_eq (pv 0) pe_str (nomark _)))))
  (pss_one (ps_ret (pe_gc rfl T.v_ZERO)))
  pss_nil)
(pss_cut (ps_if (PW.pt (pw_or (PW.pt (pw_and (pt_cmpR (op_eqD hr.units) (pv 1) (pe_gc rfl T.v_ZERO) (nomark _)) (pw_and1 (pt_cmpR op_eq (pv 0) pe_str (nomark _))))) (pw_or1 (PW.pt (pw_and (pt_cmpR (op_eqD hr.units) (pv 1) (pe_gc rfl T.v_ONE) (nomark _)) (pw_and1 (pt_cmpR op_eq (pv 0) pe_str (nomark _))))))))
  (pss_one (ps_ret (pv 2)))
  pss_nil)
(pss_cut (ps_if (PW.pt (pw_or (PW.pt (pw_and (pt_cmpR (op_eqD hr.units) (pv 2) (pe_gc rfl T.v_ZERO) (nomark _)) (pw_and1 (pt_cmpR op_in_seq (pv 0) (pe_tup (pa_cons pe_str (pa_cons pe_str pa_nil))) (by rfl))))) (pw_or1 (PW.pt (pw_and (pt_cmpR (op_eqD hr.units) (pv 2) (pe_gc rfl T.v_ONE) (nomark _)) (pw_and1 (pt_cmpR op_in_seq (pv 0) (pe_tup (pa_cons pe_str (pa_cons pe_str pa_nil))) (by rfl))))))))
  (pss_one (ps_ret (pv 1)))
  pss_nil)
(pss_one (ps_ret (pe_tup (pa_cons (pv 0) (pa_cons (pv 1) (pa_cons (pv 2) pa_nil)))))))))))))), ?_⟩
    have sa := shaped_ex hn hp oa da
    have sb := shaped_ex hn hp ob db
    have Zv : ∀ H', EV K H' (.ref T_ZERO) (.num 0) := fun H' => .num (.inr T.q_ZERO)
    have Ov : ∀ H', EV K H' (.ref T_ONE) (.num 1) := fun H' => .num (.inr T.q_ONE)
    -- both are numbers
    refine ⟨fun σ H' => σ = [some (.str s), some va, some vb] ∧ H' = H ∧ pair s a b = p1 s a b, ?_, ?_⟩
    · obtain ⟨a1, t, rest, rfl, hat, ht⟩ := ev_tag ha oa
      refine ⟨_, rfl, _, _, _, _, rfl, rfl, hat.sq, atI_nat (j := 0) rfl, rfl, _, rfl, ?_⟩
      rcases ht with ⟨rfl, m, rfl, rfl⟩ | ⟨hne, hno⟩
      · refine iteDT rfl ?_
        obtain ⟨b1, t, rest, rfl, hbt, ht⟩ := ev_tag hb ob
        refine ⟨_, rfl, _, _, _, _, rfl, rfl, hbt.sq, atI_nat (j := 0) rfl, rfl, _, rfl, ?_⟩
        rcases ht with ⟨rfl, n, rfl, rfl⟩ | ⟨hne, hno⟩
        · refine iteDT rfl ?_
          refine ⟨_, rfl, _, rfl, _, _, _, _, rfl, rfl, hat.sq, rfl, _, rfl, _, _, _, _, rfl, rfl, hbt.sq, rfl, _, _, _, rfl, hs, oa.1, oa.2, ob.1, ob.2, by show 2 ≤ sizeLine; decide, fun p hp => ?_⟩
          exact k _ _ (Keep.new hp) (.num (.inl upd_same))
        · exact iteDF (nes hne) ⟨rfl, rfl, pair_r hno⟩
      · exact iteDF (nes hne) ⟨rfl, rfl, pair_l hno⟩
    rintro σ H1 ⟨rfl, rfl, e1⟩
    -- alike, and - mod <
    refine ⟨fun σ H' => σ = [some (.str s), some va, some vb] ∧ Keep [] H1 H' ∧ pair s a b = p2 s a b, ?_, ?_⟩
    · refine ⟨_, rfl, _, rfl, _, _, ha.dp, hb.dp, sa, sb, _, rfl, iteB (fun e => ?_) (fun e => ?_)⟩
      · refine ⟨_, rfl, by show 3 ≤ sizeLine; decide, fun p hp => ⟨_, _, rfl, .inr (SqT.of upd_same), rfl, rfl, _, rfl, iteB (fun e2 => ?_) (fun e2 => ?_)⟩⟩
        · refine k _ _ (Keep.new hp) ?_
          rw [e1, p1, if_pos (by rw [Bool.and_eq_true]; exact ⟨e, e2⟩)]
          exact Zv _
        · refine ⟨rfl, Keep.new hp, ?_⟩
          rw [e1, p1, if_neg (by rw [Bool.and_eq_true]; rintro ⟨_, q⟩; exact absurd (e2.symm.trans q) (by simp))]
      · refine ⟨rfl, Keep.refl _ _, ?_⟩
        rw [e1, p1, if_neg (by rw [Bool.and_eq_true]; rintro ⟨q, _⟩; exact absurd (e.symm.trans q) (by simp))]
    rintro σ H2 ⟨rfl, K2, e1⟩
    have ha2 := ha.tk K2.tk
    have hb2 := hb.tk K2.tk
    -- alike, and =
    refine ⟨fun σ H' => σ = [some (.str s), some va, some vb] ∧ H' = H2 ∧ pair s a b = p3 s a b, ?_, ?_⟩
    · refine ⟨_, rfl, _, rfl, _, _, ha2.dp, hb2.dp, sa, sb, _, rfl, iteB (fun e => ?_) (fun e => ?_)⟩
      · refine ⟨_, rfl, rfl, _, rfl, iteB (fun e2 => ?_) (fun e2 => ?_)⟩
        · refine k _ _ K2 ?_
          rw [e1, p2, if_pos (by rw [Bool.and_eq_true]; exact ⟨e, e2⟩)]
          exact Ov _
        · refine ⟨rfl, rfl, ?_⟩
          rw [e1, p2, if_neg (by rw [Bool.and_eq_true]; rintro ⟨_, q⟩; exact absurd (e2.symm.trans q) (by simp))]
      · refine ⟨rfl, rfl, ?_⟩
        rw [e1, p2, if_neg (by rw [Bool.and_eq_true]; rintro ⟨q, _⟩; exact absurd (e.symm.trans q) (by simp))]
    rintro σ H3 ⟨rfl, rfl, e1⟩
    -- left is zero
    refine ⟨fun σ H' => σ = [some (.str s), some va, some vb] ∧ Keep [] H1 H' ∧ pair s a b = p4 s a b, ?_, ?_⟩
    · refine ⟨_, rfl, _, _, ha2.dp, (Zv _).dp, sa, shN 0, _, rfl, iteB (fun e => ?_) (fun e => ?_)⟩
      · refine ⟨_, rfl, by show 4 ≤ sizeLine; decide, fun p hp => ⟨_, _, rfl, .inr (SqT.of upd_same), rfl, rfl, _, rfl, iteB (fun e2 => ?_) (fun e2 => ?_)⟩⟩
        · refine k _ _ (K2.then_new hp) ?_
          rw [e1, p3, if_pos (by rw [Bool.and_eq_true]; exact ⟨e, e2⟩)]
          exact Zv _
        · refine ⟨rfl, K2.then_new hp, ?_⟩
          rw [e1, p3, if_neg (by rw [Bool.and_eq_true]; rintro ⟨_, q⟩; exact absurd (e2.symm.trans q) (by simp))]
      · refine ⟨rfl, K2, ?_⟩
        rw [e1, p3, if_neg (by rw [Bool.and_eq_true]; rintro ⟨q, _⟩; exact absurd (e.symm.trans q) (by simp))]
    rintro σ H4 ⟨rfl, K4, e1⟩
    have ha4 := ha.tk K4.tk
    have hb4 := hb.tk K4.tk
    -- right is zero
    refine ⟨fun σ H' => σ = [some (.str s), some va, some vb] ∧ Keep [] H1 H' ∧ pair s a b = p5 s a b, ?_, ?_⟩
    · refine ⟨_, rfl, _, _, hb4.dp, (Zv _).dp, sb, shN 0, _, rfl, iteB (fun e => ?_) (fun e => ?_)⟩
      · refine ⟨_, rfl, by show 4 ≤ sizeLine; decide, fun p hp => ⟨_, _, rfl, .inr (SqT.of upd_same), rfl, rfl, _, rfl, iteB (fun e2 => ?_) (fun e2 => ?_)⟩⟩
        · refine k _ _ (K4.then_new hp) ?_
          rw [e1, p4, if_pos (by rw [Bool.and_eq_true]; exact ⟨e, e2⟩)]
          exact Zv _
        · refine ⟨rfl, K4.then_new hp, ?_⟩
          rw [e1, p4, if_neg (by rw [Bool.and_eq_true]; rintro ⟨_, q⟩; exact absurd (e2.symm.trans q) (by simp))]
      · refine ⟨rfl, K4, ?_⟩
        rw [e1, p4, if_neg (by rw [Bool.and_eq_true]; rintro ⟨q, _⟩; exact absurd (e.symm.trans q) (by simp))]
    rintro σ H5 ⟨rfl, K5, e1⟩
    have ha5 := ha.tk K5.tk
    have hb5 := hb.tk K5.tk
    -- right is one, and mod
    refine ⟨fun σ H' => σ = [some (.str s), some va, some vb] ∧ H' = H5 ∧ pair s a b = p6 s a b, ?_, ?_⟩
    · refine ⟨_, rfl, _, _, hb5.dp, (Ov _).dp, sb, shN 1, _, rfl, iteB (fun e => ?_) (fun e => ?_)⟩
      · refine ⟨_, rfl, rfl, _, rfl, iteB (fun e2 => ?_) (fun e2 => ?_)⟩
        · refine k _ _ K5 ?_
          rw [e1, p5, if_pos (by rw [Bool.and_eq_true]; exact ⟨e, e2⟩)]
          exact Zv _
        · refine ⟨rfl, rfl, ?_⟩
          rw [e1, p5, if_neg (by rw [Bool.and_eq_true]; rintro ⟨_, q⟩; exact absurd (e2.symm.trans q) (by simp))]
      · refine ⟨rfl, rfl, ?_⟩
        rw [e1, p5, if_neg (by rw [Bool.and_eq_true]; rintro ⟨q, _⟩; exact absurd (e.symm.trans q) (by simp))]
    rintro σ H6 ⟨rfl, rfl, e1⟩
    -- nothing added, or once
    refine ⟨fun σ H' => σ = [some (.str s), some va, some vb] ∧ H' = H6 ∧ pair s a b = p7 s a b, ?_, ?_⟩
    · have hit : (EQ a (.num 0) && isS s "+" || EQ a (.num 1) && isS s "*") = true → Q vb H6 := fun h => by
        refine k _ _ K5 ?_
        rw [e1, p6, if_pos h]; exact hb5
      have miss : (EQ a (.num 0) && isS s "+" || EQ a (.num 1) && isS s "*") = false → pair s a b = p7 s a b := fun h => by rw [e1, p6, if_neg (by rw [h]; simp)]
      refine ⟨_, rfl, _, _, ha5.dp, (Zv _).dp, sa, shN 0, _, rfl, iteB (fun e => ⟨_, rfl, rfl, _, rfl, iteB (fun e2 => iteT (B := True) ⟨_, rfl, hit ?_⟩) (fun e2 => ?_)⟩) (fun e => ?_)⟩
      · rw [show EQ a (.num 0) = true from e, show isS s "+" = true from e2]; rfl
      all_goals
        refine iteF (A := True) ?_
        have f1 : (EQ a (.num 0) && isS s "+") = false := by
          first
            | exact (by rw [show isS s "+" = false from e2, Bool.and_false])
            | exact (by rw [show EQ a (.num 0) = false from e, Bool.false_and])
        refine ⟨_, rfl, _, _, ha5.dp, (Ov _).dp, sa, shN 1, _, rfl, iteB (fun g => ⟨_, rfl, rfl, _, rfl, iteB (fun g2 => ⟨_, rfl, hit ?_⟩) (fun g2 => ⟨rfl, rfl, miss ?_⟩)⟩) (fun g => ⟨rfl, rfl, miss ?_⟩)⟩
        · rw [show EQ a (.num 1) = true from g, show isS s "*" = true from g2, Bool.and_true, Bool.or_true]
        · rw [f1, show isS s "*" = false from g2, Bool.and_false]; rfl
        · rw [f1, show EQ a (.num 1) = false from g]; rfl
    rintro σ H7 ⟨rfl, rfl, e1⟩
    refine ⟨fun σ H' => σ = [some (.str s), some va, some vb] ∧ Keep [] H1 H' ∧ pair s a b = p8 s a b, ?_, ?_⟩
    · have hit : ∀ H', Keep [] H1 H' → (EQ b (.num 0) && m2 s || EQ b (.num 1) && m6 s) = true → Q va H' := fun H' KK h => by
        refine k _ _ KK ?_
        rw [e1, p7, if_pos h]; exact ha.tk KK.tk
      have miss : (EQ b (.num 0) && m2 s || EQ b (.num 1) && m6 s) = false → pair s a b = p8 s a b := fun h => by rw [e1, p7, if_neg (by rw [h]; simp)]
      refine ⟨_, rfl, _, _, hb5.dp, (Zv _).dp, sb, shN 0, _, rfl, iteB (fun e => ⟨_, rfl, by show 2 ≤ sizeLine; decide, fun p hp => ⟨_, _, rfl, .inr (SqT.of upd_same), rfl, rfl, _, rfl, iteB (fun e2 => iteT (B := True) ⟨_, rfl, hit _ (K5.then_new hp) ?_⟩) (fun e2 => ?_)⟩⟩) (fun e => ?_)⟩
      · rw [show EQ b (.num 0) = true from e, show m2 s = true from e2]; rfl
      · refine iteF (A := True) ?_
        have f1 : (EQ b (.num 0) && m2 s) = false := by rw [show m2 s = false from e2, Bool.and_false]
        have K6 := K5.then_new (o := .tup [.str "+", .str "-"]) hp
        have hb6 := hb.tk K6.tk
        refine ⟨_, rfl, _, _, hb6.dp, (Ov _).dp, sb, shN 1, _, rfl, iteB (fun g => ⟨_, rfl, by show 2 ≤ sizeLine; decide, fun p2 hp2 => ⟨_, _, rfl, .inr (SqT.of upd_same), rfl, rfl, _, rfl, iteB (fun g2 => ⟨_, rfl, hit _ (K6.then_new hp2) ?_⟩) (fun g2 => ⟨rfl, K6.then_new hp2, miss ?_⟩)⟩⟩) (fun g => ⟨rfl, K6, miss ?_⟩)⟩
        · rw [show EQ b (.num 1) = true from g, show m6 s = true from g2, Bool.and_true, Bool.or_true]
        · rw [f1, show m6 s = false from g2, Bool.and_false]; rfl
        · rw [f1, show EQ b (.num 1) = false from g]; rfl
      · refine iteF (A := True) ?_
        have f1 : (EQ b (.num 0) && m2 s) = false := by rw [show EQ b (.num 0) = false from e, Bool.false_and]
        refine ⟨_, rfl, _, _, hb5.dp, (Ov _).dp, sb, shN 1, _, rfl, iteB (fun g => ⟨_, rfl, by show 2 ≤ sizeLine; decide, fun p2 hp2 => ⟨_, _, rfl, .inr (SqT.of upd_same), rfl, rfl, _, rfl, iteB (fun g2 => ⟨_, rfl, hit _ (K5.then_new hp2) ?_⟩) (fun g2 => ⟨rfl, K5.then_new hp2, miss ?_⟩)⟩⟩) (fun g => ⟨rfl, K5, miss ?_⟩)⟩
        · rw [show EQ b (.num 1) = true from g, show m6 s = true from g2, Bool.and_true, Bool.or_true]
        · rw [f1, show m6 s = false from g2, Bool.and_false]; rfl
        · rw [f1, show EQ b (.num 1) = false from g]; rfl
    rintro σ H8 ⟨rfl, K8, e1⟩
    refine ⟨_, rfl, _, rfl, _, rfl, by show 3 ≤ sizeLine; decide, fun p hp => ?_⟩
    refine k _ _ (K8.then_new hp) ?_
    rw [e1]
    have K9 := K8.then_new (o := .tup [.str s, va, vb]) hp
    exact .op (.inl upd_same) (ha.tk K9.tk) (hb.tk K9.tk)
def sp_fold (K : PySem.W.Frag) (n : Nat) : Sp := fun vs H Q _ => ∃ v od e ns ps on, vs = [v, .ref od] ∧ EV K H v e ∧ e.Ok ns ps ∧ e.dep ≤ n ∧ n ≤ 60 ∧ NamesOk ns ∧ NamesOk ps ∧ DcB H od ps on ∧ ∀ r H', Keep [] H H' → EV K H' r (fold on e) → Q r H'
theorem DcB.keep {H H' : Hp} {a : Addr} {ps : List Str} {on : Str → Bool} (h : DcB H a ps on) (k : Keep [] H H') : DcB H' a ps on := by
  obtain ⟨kvs, e, q⟩ := h
  exact ⟨kvs, k _ _ e (by simp), q⟩
theorem ok_fold0 {f : Addr} {fd : FuncData} (D : C8.Def K mg "fold_expression" s_fold_expression f fd) (b : Binds K fd ["expression", "on"] []) : C8.Cal P w K mg base 2 "fold_expression" (sp_fold K 0) [] :=
  ⟨f, fd, ["expression", "on"], [], ⟨fun vs H Q E h => (by obtain ⟨v, od, e, ns, ps, on, rfl, _⟩ := h; rfl), fun A outer s H args us vs Q E _ _ _ _ h => (by obtain ⟨v, od, e, ns, ps, on, _, _, _, z, _⟩ := h; have := e.dep_pos; omega)⟩, D.mgf, D.kp, b, .nil⟩
theorem ok_fold {f : Addr} {fd : FuncData} (D : C8.Def K mg "fold_expression" s_fold_expression f fd) (b : Binds K fd ["expression", "on"] []) (T : Txt K mg T_SIGNS T_ZERO T_ONE) {n k : Nat}
    (c_fold_expression : C8.Cal P w K mg base k "fold_expression" (sp_fold K n) []) (c_fold_pair : C8.Cal P w K mg base k "fold_pair" (sp_pair K) []) : C8.Cal P w K mg base (k + 1) "fold_expression" (sp_fold K (n + 1)) [] := by
  refine cal0 D b .nil sc_fold_expression (fun vs H Q E h => ?_) (fun cdv A outer s H vs Q E hr h => ?_)
  · obtain ⟨v, od, e, ns, ps, on, rfl, _⟩ := h
    rfl
  · obtain ⟨v, od, e, ns, ps, on, rfl, he, hok, hd, hn60, hn, hp, O, k⟩ := h
    have hu := hu_of hr
    refine ⟨_, (pss_cons (ps_set (i := 2) sc_fold_expression.nd rfl (by first | exact Or.inl rfl | exact Or.inr rfl) (pe_ix ix_tup (pv 0) pe_int (fun _ _ => rfl)))
(pss_cons (ps_if (pt_cmpR op_eq (pv 2) pe_str (nomark _))
  (pss_one (ps_ret (pe_c c_fold_expression hr (by first | exact Nat.le_refl _ | decide) rfl (pa_cons (pe_ifExp (pt_val (pe_dget hu (pv 1) (pe_ix ix_tup (pv 0) pe_int (fun _ _ => rfl)) (fun _ _ => rfl))) (pe_ix ix_tup (pv 0) pe_int (fun _ _ => rfl)) (pe_ix ix_tup (pv 0) pe_int (fun _ _ => rfl))) (pa_cons (pv 1) pa_nil)))))
  pss_nil)
(pss_cons (ps_if (pt_cmpR op_eq (pv 2) pe_str (nomark _))
  (pss_one (ps_ret (pe_tup (pa_cons pe_str (pa_cons (pe_c c_fold_expression hr (by first | exact Nat.le_refl _ | decide) rfl (pa_cons (pe_ix ix_tup (pv 0) pe_int (fun _ _ => rfl)) (pa_cons (pv 1) pa_nil))) pa_nil)))))
  pss_nil)
(pss_cons (ps_if (pt_cmpR op_in_seq (pv 2) (pe_gc rfl T.v_SIGNS) (by rfl))
  (pss_one (ps_ret (pe_c c_fold_pair hr (by first | exact Nat.le_refl _ | decide) rfl (pa_cons (pv 2) (pa_cons (pe_c c_fold_expression hr (by first | exact Nat.le_refl _ | decide) rfl (pa_cons (pe_ix ix_tup (pv 0) pe_int (fun _ _ => rfl)) (pa_cons (pv 1) pa_nil))) (pa_cons (pe_c c_fold_expression hr (by first | exact Nat.le_refl _ | decide) rfl (pa_cons (pe_ix ix_tup (pv 0) pe_int (fun _ _ => rfl)) (pa_cons (pv 1) pa_nil))) pa_nil))))))
  pss_nil)
(pss_one (ps_ret (pv 0))))))), ?_⟩
    -- no sign
    have self : ∀ {a : Addr} {t : Str}, t ∉ sgL → fold on e = e → v = .ref a → inV (.str t) (([ "+", "-", "*", "/", "mod", "<", "="] : List Str).map V.str) = false ∧ Q v H := fun {a} {t} h1 h2 h3 => ⟨by
      rw [inV_strs]; exact decide_eq_false h1, k _ _ (Keep.refl _ _) (by rw [h2]; exact he)⟩
    cases he with
    | num h =>
      obtain ⟨q1, q2⟩ := self (t := "number") (by decide +kernel) rfl rfl
      refine ⟨_, rfl, _, _, _, _, rfl, rfl, h.sq, rfl, _, rfl, rfl, _, rfl, iteDF (nes (by decide +kernel)) ?_⟩
      refine ⟨_, rfl, rfl, _, rfl, iteDF (nes (by decide +kernel)) ?_⟩
      refine ⟨_, rfl, _, _, rfl, .inr (T.q_SIGNS H), rfl, by rfl, _, rfl, iteB (fun e => absurd (q1.symm.trans e) (by simp)) (fun e => ?_)⟩
      exact ⟨_, rfl, q2⟩
    | var h =>
      obtain ⟨q1, q2⟩ := self (t := "variable") (by decide +kernel) rfl rfl
      refine ⟨_, rfl, _, _, _, _, rfl, rfl, h.sq, rfl, _, rfl, rfl, _, rfl, iteDF (nes (by decide +kernel)) ?_⟩
      refine ⟨_, rfl, rfl, _, rfl, iteDF (nes (by decide +kernel)) ?_⟩
      refine ⟨_, rfl, _, _, rfl, .inr (T.q_SIGNS H), rfl, by rfl, _, rfl, iteB (fun e => absurd (q1.symm.trans e) (by simp)) (fun e => ?_)⟩
      exact ⟨_, rfl, q2⟩
    | long h =>
      obtain ⟨q1, q2⟩ := self (t := "long") (by decide +kernel) rfl rfl
      refine ⟨_, rfl, _, _, _, _, rfl, rfl, h.sq, rfl, _, rfl, rfl, _, rfl, iteDF (nes (by decide +kernel)) ?_⟩
      refine ⟨_, rfl, rfl, _, rfl, iteDF (nes (by decide +kernel)) ?_⟩
      refine ⟨_, rfl, _, _, rfl, .inr (T.q_SIGNS H), rfl, by rfl, _, rfl, iteB (fun e => absurd (q1.symm.trans e) (by simp)) (fun e => ?_)⟩
      exact ⟨_, rfl, q2⟩
    | view h h1 =>
      refine ⟨_, rfl, _, _, _, _, rfl, rfl, h.sq, rfl, _, rfl, rfl, _, rfl, iteDF (nes (by decide +kernel)) ?_⟩
      refine ⟨_, rfl, rfl, _, rfl, iteDT rfl ?_⟩
      unfold Ex.dep at hd
      refine ⟨_, rfl, _, _, _, _, rfl, rfl, h.sq, rfl, _, rfl, _, _, _, ns, ps, on, rfl, h1, hok, by omega, by omega, hn, hp, O, fun r H1 K1 E1 => ?_⟩
      refine ⟨by show 2 ≤ sizeLine; decide, fun p np => ?_⟩
      exact k _ _ (K1.then_new np) (.view (.inl upd_same) (E1.tk (TK.new np)))
    | pick h h1 h2 =>
      refine ⟨_, rfl, _, _, _, _, rfl, rfl, h.sq, rfl, _, rfl, rfl, _, rfl, iteDT rfl ?_⟩
      unfold Ex.dep at hd
      unfold fold at k
      refine ⟨_, rfl, _, rfl, _, _, _, _, rfl, rfl, h.sq, rfl, _, _, rfl, O.get hok.1, _, rfl, iteB (fun q => ?_) (fun q => ?_)⟩
      · rw [if_pos q] at k
        exact ⟨_, rfl, _, _, _, _, rfl, rfl, h.sq, rfl, _, rfl, _, _, _, ns, ps, on, rfl, h1, hok.2.1, by omega, by omega, hn, hp, O, k⟩
      · rw [if_neg (by simp [q])] at k
        exact ⟨_, rfl, _, _, _, _, rfl, rfl, h.sq, rfl, _, rfl, _, _, _, ns, ps, on, rfl, h2, hok.2.2, by omega, by omega, hn, hp, O, k⟩
    | op h h1 h2 =>
      obtain ⟨n1, n2, n3, n4, n5⟩ := sg_not _ hok.1
      refine ⟨_, rfl, _, _, _, _, rfl, rfl, h.sq, rfl, _, rfl, rfl, _, rfl, iteDF (nes n5) ?_⟩
      refine ⟨_, rfl, rfl, _, rfl, iteDF (nes n4) ?_⟩
      refine ⟨_, rfl, _, _, rfl, .inr (T.q_SIGNS H), rfl, by rfl, _, rfl, iteB (fun e => ?_) (fun e => ?_)⟩
      rotate_left
      · have e' : inV (.str _) (sgL.map V.str) = false := e
        rw [inV_strs, decide_eq_true hok.1] at e'
        cases e'
      unfold Ex.dep at hd
      have fa := fold_ok (on := on) _ hok.2.1
      have fb := fold_ok (on := on) _ hok.2.2
      refine ⟨_, rfl, _, rfl, _, _, _, _, rfl, rfl, h.sq, rfl, _, rfl, _, _, _, ns, ps, on, rfl, h1, hok.2.1, by omega, by omega, hn, hp, O, fun r1 H1 K1 E1 => ?_⟩
      refine ⟨_, rfl, _, _, _, _, rfl, rfl, (h.tk K1.tk).sq, rfl, _, rfl, _, _, _, ns, ps, on, rfl, h2.tk K1.tk, hok.2.2, by omega, by omega, hn, hp, O.keep K1, fun r2 H2 K2 E2 => ?_⟩
      exact ⟨_, _, _, _, _, ns, ps, rfl, hok.1, E1.tk K2.tk, E2, fa.1, fb.1, by omega, by omega, hn, hp, fun r H3 K3 E3 => k _ _ ((K1.trans K2).trans K3) E3⟩
end

theorem Pool.tk {H H' : Hp} {p q : Addr} {ns : List Int} (h : Pool H p q ns) (k : Keep [p] H H') : TK H H' := by
  obtain ⟨i1, i2, i3, i4, i5, h1, _⟩ := h
  exact k.tk1 h1
def sp_expr (K : PySem.W.Frag) (n : Nat) : Sp := fun vs H Q _ => ∃ (p q la lb : Addr) (ns : List Int) (xs ys : List Str) (d : Int), vs = [.ref p, .ref la, .ref lb, .int d] ∧ 1 ≤ d ∧ d.toNat ≤ n ∧ Pool H p q ns ∧
  H la = some (.lst (xs.map V.str)) ∧ la ≠ p ∧ H lb = some (.lst (ys.map V.str)) ∧ lb ≠ p ∧ xs.length ≤ 1000 ∧ ys.length ≤ 1000 ∧
  ∀ r e H', EV K H' r e → e.Ok xs ys → e.dep ≤ d.toNat → Pool H' p q ns → Keep [p] H H' → Q r H'
theorem sg_at : ∀ m, m < 11 → ∃ s, s ∈ sgL ∧ ([.str "+", .str "-", .str "*", .str "/", .str "mod", .str "<", .str "=", .str "+", .str "-", .str "*", .str "/"] : List V)[m]? = some (.str s)
  | 0, _ => ⟨_, by decide +kernel, rfl⟩
  | 1, _ => ⟨_, by decide +kernel, rfl⟩
  | 2, _ => ⟨_, by decide +kernel, rfl⟩
  | 3, _ => ⟨_, by decide +kernel, rfl⟩
  | 4, _ => ⟨_, by decide +kernel, rfl⟩
  | 5, _ => ⟨_, by decide +kernel, rfl⟩
  | 6, _ => ⟨_, by decide +kernel, rfl⟩
  | 7, _ => ⟨_, by decide +kernel, rfl⟩
  | 8, _ => ⟨_, by decide +kernel, rfl⟩
  | 9, _ => ⟨_, by decide +kernel, rfl⟩
  | 10, _ => ⟨_, by decide +kernel, rfl⟩
theorem empty_ne {ys : List Str} (e : (!(ys.map V.str).isEmpty) = true) : 0 < ys.length := by
  cases ys with
  | nil => simp at e
  | cons a r => exact Nat.succ_pos _
section
variable {P : Program} {w : World} {K : PySem.W.Frag} {mg : Str → Option Value} {base : Heap} {T_SIGNS : Addr} {T_ZERO : Addr} {T_ONE : Addr}
theorem ok_law_combine {f : Addr} {fd : FuncData} (D : C8.Def K mg "_law_combine" s_law_combine f fd) (b : Binds K fd ["sign", "a", "b"] []) (T : Txt K mg T_SIGNS T_ZERO T_ONE) {k : Nat} : C8.Cal P w K mg base (k + 1) "_law_combine" sp_combine [] := by
  refine cal0 D b .nil sc_law_combine (fun vs H Q E h => ?_) (fun cdv A outer s H vs Q E hr h => ?_)
  · obtain ⟨s, a, b, rfl, _⟩ := h
    rfl
  · obtain ⟨s, x, y, rfl, hs, x0, x1, y0, y1, k⟩ := h
    refine ⟨_, (pss_cons (ps_if (pt_cmpR op_eq (pv 0) pe_str (nomark _))
  (pss_one (ps_ret (pe_op op_sub (pe_op op_add (pv 1) (pv 2)) (pe_op op_mul pe_int (pe_callTy call_int1 (by rfl) T.n_int bo_int (pa_cons (pe_cmpR op_gt (pe_op op_add (pv 1) (pv 2)) pe_int (nomark _)) pa_nil))))))
  pss_nil)
(pss_cons (ps_if (pt_cmpR op_eq (pv 0) pe_str (nomark _))
  (pss_one (ps_ret (pe_op op_mul (pe_op op_sub (pv 1) (pv 2)) (pe_callTy call_int1 (by rfl) T.n_int bo_int (pa_cons (pe_cmpR op_gt (pv 1) (pv 2) (nomark _)) pa_nil)))))
  pss_nil)
(pss_cons (ps_if (pt_cmpR op_eq (pv 0) pe_str (nomark _))
  (pss_one (ps_ret (pe_op op_sub (pe_op op_mul (pv 1) (pv 2)) (pe_op op_mul (pe_op op_fdiv (pe_op op_mul (pv 1) (pv 2)) pe_int) pe_int))))
  pss_nil)
(pss_cons (ps_if (pt_cmpR op_eq (pv 0) pe_str (nomark _))
  (pss_one (ps_ret (pe_callTy call_int1 (by rfl) T.n_int bo_int (pa_cons (pe_cmpR op_lt (pv 1) (pv 2) (nomark _)) pa_nil))))
  pss_nil)
(pss_cons (ps_if (pt_cmpR op_eq (pv 0) pe_str (nomark _))
  (pss_one (ps_ret (pe_callTy call_int1 (by rfl) T.n_int bo_int (pa_cons (pe_cmpR op_eq (pv 1) (pv 2) (nomark _)) pa_nil))))
  pss_nil)
(pss_cons (ps_if (pt_cmpR op_eq (pv 2) pe_int (nomark _))
  (pss_one (ps_ret pe_int))
  pss_nil)
(pss_cons (ps_set (i := 3) sc_law_combine.nd rfl (by first | exact Or.inl rfl | exact Or.inr rfl) (pe_op op_fdiv (pv 1) (pv 2)))
(pss_cons (ps_if (pt_cmpR op_eq (pv 0) pe_str (nomark _))
  (pss_one (ps_ret (pv 3)))
  pss_nil)
(pss_one (ps_ret (pe_op op_sub (pv 1) (pe_op op_mul (pv 3) (pv 2))))))))))))), ?_⟩
    refine ⟨_, rfl, rfl, _, rfl, iteD (fun e => ?_) (fun e1 => ?_)⟩
    · rw [V.str.inj e, comb_add] at k
      refine ⟨_, rfl, _, rfl, _, _, rfl, rfl, _, rfl, _, rfl, _, _, rfl, rfl, _, _, rfl, rfl, .inr ⟨_, rfl, _, _, rfl, rfl, .inl ⟨by decide, by decide⟩, _, _, rfl, rfl, ?_⟩⟩
      have e2 : x + y - 65536 * (if decide (65535 < x + y) = true then 1 else 0) = (x + y) % 65536 := by
        by_cases h : 65535 < x + y
        · rw [decide_eq_true h]; simp only [if_true]; omega
        · rw [decide_eq_false h]; simp only [Bool.false_eq_true, if_false]; omega
      have k' : Q (.int (x + y - 65536 * (if decide (65535 < x + y) = true then 1 else 0))) H := by rw [e2]; exact k
      exact k'
    refine ⟨_, rfl, rfl, _, rfl, iteD (fun e => ?_) (fun e2 => ?_)⟩
    · rw [V.str.inj e, comb_sub] at k
      refine ⟨_, rfl, _, rfl, _, _, rfl, rfl, _, rfl, _, rfl, _, _, rfl, rfl, .inr ⟨_, rfl, _, _, rfl, rfl, .inl ⟨by omega, by omega⟩, ?_⟩⟩
      have e2 : (x - y) * (if decide (y < x) = true then 1 else 0) = if x - y > 0 then x - y else 0 := by
        by_cases h : y < x
        · rw [decide_eq_true h, if_pos (by omega : x - y > 0)]; simp only [if_true]; omega
        · rw [decide_eq_false h, if_neg (by omega : ¬ x - y > 0)]; simp only [Bool.false_eq_true, if_false]; omega
      have k' : Q (.int ((x - y) * (if decide (y < x) = true then 1 else 0))) H := by rw [e2]; exact k
      exact k'
    refine ⟨_, rfl, rfl, _, rfl, iteD (fun e => ?_) (fun e3 => ?_)⟩
    · rw [V.str.inj e, comb_mul] at k
      refine ⟨_, rfl, _, rfl, _, _, rfl, rfl, .inl ⟨by omega, by omega⟩, _, rfl, _, rfl, _, _, rfl, rfl, .inl ⟨by omega, by omega⟩, _, _, rfl, rfl, ⟨by decide, by decide⟩, _, _, rfl, rfl, .inr ⟨by decide, by decide⟩, _, _, rfl, rfl, ?_⟩
      have e2 : x * y - x * y / 65536 * 65536 = x * y % 65536 := by omega
      have k' : Q (.int (x * y - x * y / 65536 * 65536)) H := by rw [e2]; exact k
      exact k'
    refine ⟨_, rfl, rfl, _, rfl, iteD (fun e => ?_) (fun e4 => ?_)⟩
    · rw [V.str.inj e, comb_lt] at k
      refine ⟨_, rfl, _, rfl, _, _, rfl, rfl, .inr ⟨_, rfl, ?_⟩⟩
      by_cases h : x < y
      · rw [if_pos h] at k; rw [decide_eq_true h]; exact k
      · rw [if_neg h] at k; rw [decide_eq_false h]; exact k
    refine ⟨_, rfl, rfl, _, rfl, iteD (fun e => ?_) (fun e5 => ?_)⟩
    · rw [V.str.inj e, comb_eq] at k
      refine ⟨_, rfl, _, rfl, rfl, .inr ⟨_, rfl, ?_⟩⟩
      by_cases h : x = y
      · rw [if_pos h] at k; rw [decide_eq_true (congrArg V.int h)]; exact k
      · rw [if_neg h] at k; rw [decide_eq_false (fun z => h (V.int.inj z))]; exact k
    have h2 : s = "/" ∨ s = "mod" := by
      rcases sg_cases hs with rfl | rfl | rfl | rfl | rfl | rfl | rfl
      · exact absurd rfl e1
      · exact absurd rfl e2
      · exact absurd rfl e3
      · exact .inl rfl
      · exact .inr rfl
      · exact absurd rfl e4
      · exact absurd rfl e5
    refine ⟨_, rfl, rfl, _, rfl, iteD (fun e => ?_) (fun e6 => ?_)⟩
    · have hy := V.int.inj e
      subst hy
      rcases h2 with rfl | rfl
      · rw [comb_div, if_neg (by decide)] at k; exact k
      · rw [comb_mod, if_neg (by decide)] at k; exact k
    have hy : 0 < y := by
      have : y ≠ 0 := fun q => e6 (congrArg V.int q)
      omega
    refine ⟨_, rfl, _, rfl, _, _, rfl, rfl, ⟨hy, by omega⟩, _, rfl, rfl, _, rfl, iteD (fun e => ?_) (fun e7 => ?_)⟩
    · rw [V.str.inj e, comb_div, if_pos hy] at k
      exact ⟨_, rfl, k⟩
    · have hm : s = "mod" := h2.elim (fun q => absurd (congrArg V.str q) e7) id
      rw [hm, comb_mod, if_pos hy] at k
      refine ⟨_, rfl, _, rfl, _, rfl, _, _, rfl, rfl, .inr ⟨by omega, by omega⟩, _, _, rfl, rfl, ?_⟩
      have e2 : x - x / y * y = x % y := by rw [Int.emod_def, Int.mul_comm]
      have k' : Q (.int (x - x / y * y)) H := by rw [e2]; exact k
      exact k'
theorem ok_law_value0 {f : Addr} {fd : FuncData} (D : C8.Def K mg "_law_value" s_law_value f fd) (b : Binds K fd ["due", "table", "on", "seen"] []) : C8.Cal P w K mg base 1 "_law_value" (sp_value K 0) [] :=
  ⟨f, fd, ["due", "table", "on", "seen"], [], ⟨fun vs H Q E h => (by obtain ⟨v, td, od, sa, e, ns, ps, tb, on, seen, rfl, _⟩ := h; rfl), fun A outer s H args us vs Q E _ _ _ _ h => (by obtain ⟨v, td, od, sa, e, ns, ps, tb, on, seen, _, _, _, z, _⟩ := h; have := e.dep_pos; omega)⟩, D.mgf, D.kp, b, .nil⟩
theorem ok_law_value {f : Addr} {fd : FuncData} (D : C8.Def K mg "_law_value" s_law_value f fd) (b : Binds K fd ["due", "table", "on", "seen"] []) (T : Txt K mg T_SIGNS T_ZERO T_ONE) {n k : Nat}
    (c_law_value : C8.Cal P w K mg base k "_law_value" (sp_value K n) []) (c_law_combine : C8.Cal P w K mg base k "_law_combine" sp_combine []) : C8.Cal P w K mg base (k + 1) "_law_value" (sp_value K (n + 1)) [] := by
  refine cal0 D b .nil sc_law_value (fun vs H Q E h => ?_) (fun cdv A outer s H vs Q E hr h => ?_)
  · obtain ⟨v, td, od, sa, e, ns, ps, tb, on, seen, rfl, _⟩ := h
    rfl
  · obtain ⟨v, td, od, sa, e, ns, ps, tb, on, seen, rfl, he, hok, hd, V, k⟩ := h
    have hu := hu_of hr
    refine ⟨_, (pss_cons (ps_if (pt_cmpR op_eq (pe_ix ix_tup (pv 0) pe_int (fun _ _ => rfl)) pe_str (nomark _))
  (pss_one (ps_ret (pe_ix ix_tup (pv 0) pe_int (fun _ _ => rfl))))
  pss_nil)
(pss_cons (ps_if (pt_cmpR op_eq (pe_ix ix_tup (pv 0) pe_int (fun _ _ => rfl)) pe_str (nomark _))
  (pss_one (ps_ret (pe_dget hu (pv 1) (pe_ix ix_tup (pv 0) pe_int (fun _ _ => rfl)) (fun _ _ => rfl))))
  pss_nil)
(pss_cons (ps_if (pt_cmpR op_eq (pe_ix ix_tup (pv 0) pe_int (fun _ _ => rfl)) pe_str (nomark _))
  (pss_one (ps_ret (pe_callB (call_min2 rfl) (by rfl) T.n_min bo_min (pa_cons (pe_callB call_len_seq (by rfl) T.n_len bo_len (pa_cons (pv 3) pa_nil)) (pa_cons pe_int pa_nil)))))
  pss_nil)
(pss_cons (ps_if (pt_cmpR op_eq (pe_ix ix_tup (pv 0) pe_int (fun _ _ => rfl)) pe_str (nomark _))
  (pss_cons (ps_set (i := 4) sc_law_value.nd rfl (by first | exact Or.inl rfl | exact Or.inr rfl) (pe_c c_law_value hr (by first | exact Nat.le_refl _ | decide) rfl (pa_cons (pe_ix ix_tup (pv 0) pe_int (fun _ _ => rfl)) (pa_cons (pv 1) (pa_cons (pv 2) (pa_cons (pv 3) pa_nil))))))
  (pss_cons (ps_if (pt_cmpR op_lt (pv 4) (pe_callB call_len_seq (by rfl) T.n_len bo_len (pa_cons (pv 3) pa_nil)) (nomark _))
    (pss_one (ps_ret (pe_ix ix_tup (pv 3) (pv 4) (fun _ _ => rfl))))
    pss_nil)
  (pss_one (ps_ret pe_int))))
  pss_nil)
(pss_cons (ps_if (pt_cmpR op_eq (pe_ix ix_tup (pv 0) pe_int (fun _ _ => rfl)) pe_str (nomark _))
  (pss_one (ps_ret (pe_c c_law_value hr (by first | exact Nat.le_refl _ | decide) rfl (pa_cons (pe_ix ix_tup (pv 0) (pe_op op_sub pe_int (pe_callTy call_int1 (by rfl) T.n_int bo_int (pa_cons (pe_dget hu (pv 2) (pe_ix ix_tup (pv 0) pe_int (fun _ _ => rfl)) (fun _ _ => rfl)) pa_nil))) (fun _ _ => rfl)) (pa_cons (pv 1) (pa_cons (pv 2) (pa_cons (pv 3) pa_nil)))))))
  pss_nil)
(pss_cons (ps_set (i := 5) sc_law_value.nd rfl (by first | exact Or.inl rfl | exact Or.inr rfl) (pe_c c_law_value hr (by first | exact Nat.le_refl _ | decide) rfl (pa_cons (pe_ix ix_tup (pv 0) pe_int (fun _ _ => rfl)) (pa_cons (pv 1) (pa_cons (pv 2) (pa_cons (pv 3) pa_nil))))))
(pss_one (ps_ret (pe_c c_law_combine hr (by first | exact Nat.le_refl _ | decide) rfl (pa_cons (pe_ix ix_tup (pv 0) pe_int (fun _ _ => rfl)) (pa_cons (pv 5) (pa_cons (pe_c c_law_value hr (by first | exact Nat.le_refl _ | decide) rfl (pa_cons (pe_ix ix_tup (pv 0) pe_int (fun _ _ => rfl)) (pa_cons (pv 1) (pa_cons (pv 2) (pa_cons (pv 3) pa_nil))))) pa_nil)))))))))))), ?_⟩
    cases he with
    | num h =>
      refine ⟨_, rfl, _, _, _, _, rfl, rfl, h.sq, rfl, rfl, _, rfl, iteDT rfl ?_⟩
      exact ⟨_, rfl, _, _, _, _, rfl, rfl, h.sq, rfl, k⟩
    | var h =>
      refine ⟨_, rfl, _, _, _, _, rfl, rfl, h.sq, rfl, rfl, _, rfl, iteDF (nes (by decide +kernel)) ?_⟩
      refine ⟨_, rfl, _, _, _, _, rfl, rfl, h.sq, rfl, rfl, _, rfl, iteDT rfl ?_⟩
      exact ⟨_, rfl, _, rfl, _, _, _, _, rfl, rfl, h.sq, rfl, _, _, rfl, V.t.get hok, k⟩
    | long h =>
      refine ⟨_, rfl, _, _, _, _, rfl, rfl, h.sq, rfl, rfl, _, rfl, iteDF (nes (by decide +kernel)) ?_⟩
      refine ⟨_, rfl, _, _, _, _, rfl, rfl, h.sq, rfl, rfl, _, rfl, iteDF (nes (by decide +kernel)) ?_⟩
      refine ⟨_, rfl, _, _, _, _, rfl, rfl, h.sq, rfl, rfl, _, rfl, iteDT rfl ?_⟩
      refine ⟨_, rfl, _, _, rfl, .inr V.s, _, _, rfl, ?_⟩
      rw [List.length_map]; exact k
    | view h h1 =>
      refine ⟨_, rfl, _, _, _, _, rfl, rfl, h.sq, rfl, rfl, _, rfl, iteDF (nes (by decide +kernel)) ?_⟩
      refine ⟨_, rfl, _, _, _, _, rfl, rfl, h.sq, rfl, rfl, _, rfl, iteDF (nes (by decide +kernel)) ?_⟩
      refine ⟨_, rfl, _, _, _, _, rfl, rfl, h.sq, rfl, rfl, _, rfl, iteDF (nes (by decide +kernel)) ?_⟩
      refine ⟨_, rfl, _, _, _, _, rfl, rfl, h.sq, rfl, rfl, _, rfl, iteDT rfl ?_⟩
      have hr2 := ev_range (on := on) V.tok V.sok h1 hok
      refine ⟨_, rfl, _, _, _, _, rfl, rfl, h.sq, rfl, _, rfl, _, rfl, _, rfl, _, td, od, sa, _, ns, ps, tb, on, seen, rfl, h1, hok, (by unfold Ex.dep at hd; omega), V, ?_⟩
      refine ⟨_, rfl, _, rfl, _, _, rfl, .inr V.s, _, _, rfl, rfl, _, rfl, iteD (fun q => ?_) (fun q => ?_)⟩
      · rw [List.length_map] at q
        refine ⟨_, rfl, _, rfl, _, _, _, _, rfl, rfl, V.s, seen_at hr2.1 q, ?_⟩
        unfold val at k
        rw [if_pos q] at k
        exact k
      · rw [List.length_map] at q
        unfold val at k
        rw [if_neg q] at k
        exact k
    | @pick _ x _ _ _ _ h h1 h2 =>
      refine ⟨_, rfl, _, _, _, _, rfl, rfl, h.sq, rfl, rfl, _, rfl, iteDF (nes (by decide +kernel)) ?_⟩
      refine ⟨_, rfl, _, _, _, _, rfl, rfl, h.sq, rfl, rfl, _, rfl, iteDF (nes (by decide +kernel)) ?_⟩
      refine ⟨_, rfl, _, _, _, _, rfl, rfl, h.sq, rfl, rfl, _, rfl, iteDF (nes (by decide +kernel)) ?_⟩
      refine ⟨_, rfl, _, _, _, _, rfl, rfl, h.sq, rfl, rfl, _, rfl, iteDF (nes (by decide +kernel)) ?_⟩
      refine ⟨_, rfl, _, _, _, _, rfl, rfl, h.sq, rfl, rfl, _, rfl, iteDT rfl ?_⟩
      unfold val at k
      unfold Ex.dep at hd
      have ho := V.o.get hok.1
      cases q : on x with
      | true =>
        rw [q] at ho
        rw [if_pos q] at k
        exact ⟨_, rfl, _, rfl, _, rfl, _, _, _, _, rfl, rfl, h.sq, rfl, _, _, rfl, ho, .inr ⟨_, rfl, _, _, rfl, rfl, _, _, _, _, rfl, rfl, h.sq, rfl, _, rfl, _, rfl, _, rfl, _, td, od, sa, _, ns, ps, tb, on, seen, rfl, h1, hok.2.1, (by omega), V, k⟩⟩
      | false =>
        rw [q] at ho
        rw [if_neg (by simp [q])] at k
        exact ⟨_, rfl, _, rfl, _, rfl, _, _, _, _, rfl, rfl, h.sq, rfl, _, _, rfl, ho, .inr ⟨_, rfl, _, _, rfl, rfl, _, _, _, _, rfl, rfl, h.sq, rfl, _, rfl, _, rfl, _, rfl, _, td, od, sa, _, ns, ps, tb, on, seen, rfl, h2, hok.2.2, (by omega), V, k⟩⟩
    | op h h1 h2 =>
      obtain ⟨n1, n2, n3, n4, n5⟩ := sg_not _ hok.1
      refine ⟨_, rfl, _, _, _, _, rfl, rfl, h.sq, rfl, rfl, _, rfl, iteDF (nes n1) ?_⟩
      refine ⟨_, rfl, _, _, _, _, rfl, rfl, h.sq, rfl, rfl, _, rfl, iteDF (nes n2) ?_⟩
      refine ⟨_, rfl, _, _, _, _, rfl, rfl, h.sq, rfl, rfl, _, rfl, iteDF (nes n3) ?_⟩
      refine ⟨_, rfl, _, _, _, _, rfl, rfl, h.sq, rfl, rfl, _, rfl, iteDF (nes n4) ?_⟩
      refine ⟨_, rfl, _, _, _, _, rfl, rfl, h.sq, rfl, rfl, _, rfl, iteDF (nes n5) ?_⟩
      unfold val at k
      unfold Ex.dep at hd
      have ha := val_range (on := on) V.tok V.sok _ hok.2.1
      have hb := val_range (on := on) V.tok V.sok _ hok.2.2
      refine ⟨_, rfl, _, _, _, _, rfl, rfl, h.sq, rfl, _, rfl, _, rfl, _, rfl, _, td, od, sa, _, ns, ps, tb, on, seen, rfl, h1, hok.2.1, (by omega), V, ?_⟩
      refine ⟨_, rfl, _, _, _, _, rfl, rfl, h.sq, rfl, _, rfl, _, rfl, _, _, _, _, rfl, rfl, h.sq, rfl, _, rfl, _, rfl, _, rfl, _, td, od, sa, _, ns, ps, tb, on, seen, rfl, h2, hok.2.2, (by omega), V, ?_⟩
      exact ⟨_, _, _, rfl, hok.1, ha.1, ha.2, hb.1, hb.2, k⟩
theorem ok_law_fold_pair {f : Addr} {fd : FuncData} (D : C8.Def K mg "_law_fold_pair" s_law_fold_pair f fd) (b : Binds K fd ["sign", "a", "b"] []) (T : Txt K mg T_SIGNS T_ZERO T_ONE) {k : Nat} (c_law_combine : C8.Cal P w K mg base k "_law_combine" sp_combine []) : C8.Cal P w K mg base (k + 1) "_law_fold_pair" (sp_pair K) [] := by
  refine cal0 D b .nil sc_law_fold_pair (fun vs H Q E h => ?_) (fun cdv A outer s H vs Q E hr h => ?_)
  · obtain ⟨s, va, vb, a, b, ns, ps, rfl, _⟩ := h
    rfl
  · obtain ⟨s, va, vb, a, b, ns, ps, rfl, hs, ha0, hb0, oa, ob, da, db, hn, hp, k⟩ := h
    refine ⟨_, (pss_cons (ps_set (i := 3) sc_law_fold_pair.nd rfl (by first | exact Or.inl rfl | exact Or.inr rfl) (pe_tup (pa_cons pe_str (pa_cons pe_int pa_nil))))
(pss_cons (ps_set (i := 4) sc_law_fold_pair.nd rfl (by first | exact Or.inl rfl | exact Or.inr rfl) (pe_tup (pa_cons pe_str (pa_cons pe_int pa_nil))))
(pss_cut (ps_if (PW.pt (pw_and (pt_cmpR op_eq (pe_ix ix_tup (pv 1) pe_int (fun _ _ => rfl)) pe_str (nomark _)) (pw_and1 (pt_cmpR op_eq (pe_ix ix_tup (pv 2) pe_int (fun _ _ => rfl)) pe_str (nomark _)))))
  (pss_one (ps_ret (pe_tup (pa_cons pe_str (pa_cons (pe_c c_law_combine hr (by first | exact Nat.le_refl _ | decide) rfl (pa_cons (pv 0) (pa_cons (pe_ix ix_tup (pv 1) pe_int (fun _ _ => rfl)) (pa_cons (pe_ix ix_tup (pv 2) pe_int (fun _ _ => rfl)) pa_nil)))) pa_nil)))))
  pss_nil)
(pss_cut (ps_if (PW.pt (pw_and (pt_cmpR (op_eqD hr.units) (pv 1) (pv 2) (nomark _)) (pw_and (pt_cmpR op_ne (pv 0) pe_str (nomark _)) (pw_and (pt_cmpR op_ne (pv 0) pe_str (nomark _)) (pw_and1 (pt_cmpR op_ne (pv 0) pe_str (nomark _)))))))
  (pss_one (ps_ret (pe_tup (pa_cons pe_str (pa_cons (pe_callTy call_int1 (by rfl) T.n_int bo_int (pa_cons (pe_cmpR op_eq (pv 0) pe_str (nomark _)) pa_nil)) pa_nil)))))
  pss_nil)
(pss_cut (ps_if (PW.pt (pw_and (pt_cmpR (op_eqD hr.units) (pv 1) (pv 3) (nomark _)) (pw_and (pt_cmpR op_ne (pv 0) pe_str (nomark _)) (pw_and (pt_cmpR op_ne (pv 0) pe_str (nomark _)) (pw_and1 (pt_cmpR op_ne (pv 0) pe_str (nomark _)))))))
  (pss_one (ps_ret (pv 3)))
  pss_nil)
(pss_cut (ps_if (PW.pt (pw_and (pt_cmpR (op_eqD hr.units) (pv 2) (pv 3) (nomark _)) (pw_and (pt_cmpR op_ne (pv 0) pe_str (nomark _)) (pw_and (pt_cmpR op_ne (pv 0) pe_str (nomark _)) (pw_and1 (pt_cmpR op_ne (pv 0) pe_str (nomark _)))))))
  (pss_one (ps_ret (pv 3)))
  pss_nil)
(pss_cut (ps_if (PW.pt (pw_and (pt_cmpR (op_eqD hr.units) (pv 2) (pv 4) (nomark _)) (pw_and1 (pt_cmpR op_eq (pv 0) pe_str (nomark _)))))
  (pss_one (ps_ret (pv 3)))
  pss_nil)
(pss_cut (ps_if (PW.pt (pw_or (PW.pt (pw_and (pt_cmpR (op_eqD hr.units) (pv 1) (pv 3) (nomark _)) (pw_and1 (pt_cmpR op_eq (pv 0) pe_str (nomark _))))) (pw_or1 (PW.pt (pw_and (pt_cmpR (op_eqD hr.units) (pv 1) (pv 4) (nomark _)) (pw_and1 (pt_cmpR op_eq (pv 0) pe_str (nomark _))))))))
  (pss_one (ps_ret (pv 2)))
  pss_nil)
(pss_cut (ps_if (PW.pt (pw_or (PW.pt (pw_and (pt_cmpR (op_eqD hr.units) (pv 2) (pv 3) (nomark _)) (pw_and1 (PW.pt (pw_or (pt_cmpR op_eq (pv 0) pe_str (nomark _)) (pw_or1 (pt_cmpR op_eq (pv 0) pe_str (nomark _)))))))) (pw_or1 (PW.pt (pw_and (pt_cmpR (op_eqD hr.units) (pv 2) (pv 4) (nomark _)) (pw_and1 (PW.pt (pw_or (pt_cmpR op_eq (pv 0) pe_str (nomark _)) (pw_or1 (pt_cmpR op_eq (pv 0) pe_str (nomark _)))))))))))
  (pss_one (ps_ret (pv 1)))
  pss_nil)
(pss_one (ps_ret (pe_tup (pa_cons (pv 0) (pa_cons (pv 1) (pa_cons (pv 2) pa_nil))))))))))))))), ?_⟩
    have sa := shaped_ex hn hp oa da
    have sb := shaped_ex hn hp ob db
    refine ⟨by show 2 ≤ sizeLine; decide, fun z nz => ⟨by show 2 ≤ sizeLine; decide, fun o no => ?_⟩⟩
    have K0 : Keep [] H (upd (upd H z (.tup [.str "number", .int 0])) o (.tup [.str "number", .int 1])) := (Keep.new nz).then_new no
    have nzo : z ≠ o := ne_of_none (H := upd H z (.tup [.str "number", .int 0])) upd_same no
    have Zv : EV K (upd (upd H z (.tup [.str "number", .int 0])) o (.tup [.str "number", .int 1])) (.ref z) (.num 0) := .num (.inl (by rw [upd_ne nzo]; exact upd_same))
    have Ov : EV K (upd (upd H z (.tup [.str "number", .int 0])) o (.tup [.str "number", .int 1])) (.ref o) (.num 1) := .num (.inl upd_same)
    have ha := ha0.tk K0.tk
    have hb := hb0.tk K0.tk
    generalize upd (upd H z (.tup [.str "number", .int 0])) o (.tup [.str "number", .int 1]) = H1 at K0 Zv Ov ha hb
    refine ⟨fun σ H' => σ = [some (.str s), some va, some vb, some (.ref z), some (.ref o)] ∧ H' = H1 ∧ pair s a b = p1 s a b, ?_, ?_⟩
    · obtain ⟨a1, t, rest, rfl, hat, ht⟩ := ev_tag ha oa
      refine ⟨_, rfl, _, _, _, _, rfl, rfl, hat.sq, atI_nat (j := 0) rfl, rfl, _, rfl, ?_⟩
      rcases ht with ⟨rfl, m, rfl, rfl⟩ | ⟨hne, hno⟩
      · refine iteDT rfl ?_
        obtain ⟨b1, t, rest, rfl, hbt, ht⟩ := ev_tag hb ob
        refine ⟨_, rfl, _, _, _, _, rfl, rfl, hbt.sq, atI_nat (j := 0) rfl, rfl, _, rfl, ?_⟩
        rcases ht with ⟨rfl, n, rfl, rfl⟩ | ⟨hne, hno⟩
        · refine iteDT rfl ?_
          refine ⟨_, rfl, _, rfl, _, _, _, _, rfl, rfl, hat.sq, rfl, _, rfl, _, _, _, _, rfl, rfl, hbt.sq, rfl, _, _, _, rfl, hs, oa.1, oa.2, ob.1, ob.2, by show 2 ≤ sizeLine; decide, fun p hp => ?_⟩
          exact k _ _ (K0.then_new hp) (.num (.inl upd_same))
        · exact iteDF (nes hne) ⟨rfl, rfl, pair_r hno⟩
      · exact iteDF (nes hne) ⟨rfl, rfl, pair_l hno⟩
    rintro σ H2 ⟨rfl, rfl, e1⟩
    -- alike
    refine ⟨fun σ H' => σ = [some (.str s), some va, some vb, some (.ref z), some (.ref o)] ∧ H' = H2 ∧ pair s a b = p3 s a b, ?_, ?_⟩
    · have miss : (EQ a b && (!isS s "+" && !isS s "*" && !isS s "/")) = false → pair s a b = p3 s a b := fun h => by
        rw [l2_c s hs, Bool.and_or_distrib_left, Bool.or_eq_false_iff] at h
        rw [e1, p1, if_neg (by rw [h.1]; simp), p2, if_neg (by rw [h.2]; simp)]
      refine ⟨_, rfl, _, rfl, _, _, ha.dp, hb.dp, sa, sb, _, rfl, iteB (fun e => ⟨_, rfl, rfl, _, rfl, iteB (fun x1 => ⟨_, rfl, rfl, _, rfl, iteB (fun x2 => ⟨_, rfl, rfl, _, rfl, iteB (fun x3 => ?_) (fun x3 => ⟨rfl, rfl, miss ?_⟩)⟩) (fun x2 => ⟨rfl, rfl, miss ?_⟩)⟩) (fun x1 => ⟨rfl, rfl, miss ?_⟩)⟩) (fun e => ⟨rfl, rfl, miss ?_⟩)⟩
      · refine ⟨_, rfl, rfl, .inr ⟨_, rfl, by show 2 ≤ sizeLine; decide, fun p hp => ?_⟩⟩
        refine k _ _ (K0.then_new hp) ?_
        have hc : (EQ a b && (m3 s || isS s "=")) = true := by
          rw [← l2_c s hs, show EQ a b = true from e, show (!isS s "+") = true from x1, show (!isS s "*") = true from x2, show (!isS s "/") = true from x3]; rfl
        rw [show EQ a b = true from e, Bool.true_and, Bool.or_eq_true] at hc
        have hdec : decide (V.str s = V.str "=") = isS s "=" := rfl
        rw [hdec]
        cases h3 : m3 s with
        | true =>
          have hp0 : pair s a b = .num 0 := by rw [e1, p1, show EQ a b = true from e, h3]; rfl
          rw [hp0, l2_d s hs h3]
          exact .num (.inl upd_same)
        | false =>
          have h4 : isS s "=" = true := hc.elim (fun q => absurd (h3.symm.trans q) (by simp)) id
          have hp0 : pair s a b = .num 1 := by rw [e1, p1, p2, show EQ a b = true from e, h3, h4]; rfl
          rw [hp0, h4]
          exact .num (.inl upd_same)
      · rw [show (!isS s "/") = false from x3]; simp
      · rw [show (!isS s "*") = false from x2]; simp
      · rw [show (!isS s "+") = false from x1]; simp
      · rw [show EQ a b = false from e]; simp
    rintro σ H3 ⟨rfl, rfl, e1⟩
    refine ⟨fun σ H' => σ = [some (.str s), some va, some vb, some (.ref z), some (.ref o)] ∧ H' = H3 ∧ pair s a b = p4 s a b, ?_, ?_⟩
    · have miss : (EQ a (.num 0) && (!isS s "+" && !isS s "<" && !isS s "=")) = false → pair s a b = p4 s a b := fun h => by
        rw [l3_c s hs] at h
        rw [e1, p3, if_neg (by rw [h]; simp)]
      refine ⟨_, rfl, _, rfl, _, _, ha.dp, Zv.dp, sa, shN 0, _, rfl, iteB (fun e => ⟨_, rfl, rfl, _, rfl, iteB (fun x1 => ⟨_, rfl, rfl, _, rfl, iteB (fun x2 => ⟨_, rfl, rfl, _, rfl, iteB (fun x3 => ?_) (fun x3 => ⟨rfl, rfl, miss ?_⟩)⟩) (fun x2 => ⟨rfl, rfl, miss ?_⟩)⟩) (fun x1 => ⟨rfl, rfl, miss ?_⟩)⟩) (fun e => ⟨rfl, rfl, miss ?_⟩)⟩
      · refine ⟨_, rfl, k _ _ K0 ?_⟩
        have hc : (EQ a (.num 0) && m4 s) = true := by
          rw [← l3_c s hs, show EQ a (.num 0) = true from e, show (!isS s "+") = true from x1, show (!isS s "<") = true from x2, show (!isS s "=") = true from x3]; rfl
        rw [e1, p3, if_pos hc]; exact Zv
      · rw [show (!isS s "=") = false from x3]; simp
      · rw [show (!isS s "<") = false from x2]; simp
      · rw [show (!isS s "+") = false from x1]; simp
      · rw [show EQ a (.num 0) = false from e]; simp
    rintro σ H4 ⟨rfl, rfl, e1⟩
    refine ⟨fun σ H' => σ = [some (.str s), some va, some vb, some (.ref z), some (.ref o)] ∧ H' = H4 ∧ pair s a b = p5 s a b, ?_, ?_⟩
    · have miss : (EQ b (.num 0) && (!isS s "+" && !isS s "-" && !isS s "=")) = false → pair s a b = p5 s a b := fun h => by
        rw [l4_c s hs] at h
        rw [e1, p4, if_neg (by rw [h]; simp)]
      refine ⟨_, rfl, _, rfl, _, _, hb.dp, Zv.dp, sb, shN 0, _, rfl, iteB (fun e => ⟨_, rfl, rfl, _, rfl, iteB (fun x1 => ⟨_, rfl, rfl, _, rfl, iteB (fun x2 => ⟨_, rfl, rfl, _, rfl, iteB (fun x3 => ?_) (fun x3 => ⟨rfl, rfl, miss ?_⟩)⟩) (fun x2 => ⟨rfl, rfl, miss ?_⟩)⟩) (fun x1 => ⟨rfl, rfl, miss ?_⟩)⟩) (fun e => ⟨rfl, rfl, miss ?_⟩)⟩
      · refine ⟨_, rfl, k _ _ K0 ?_⟩
        have hc : (EQ b (.num 0) && m5 s) = true := by
          rw [← l4_c s hs, show EQ b (.num 0) = true from e, show (!isS s "+") = true from x1, show (!isS s "-") = true from x2, show (!isS s "=") = true from x3]; rfl
        rw [e1, p4, if_pos hc]; exact Zv
      · rw [show (!isS s "=") = false from x3]; simp
      · rw [show (!isS s "-") = false from x2]; simp
      · rw [show (!isS s "+") = false from x1]; simp
      · rw [show EQ b (.num 0) = false from e]; simp
    rintro σ H5 ⟨rfl, rfl, e1⟩
    refine ⟨fun σ H' => σ = [some (.str s), some va, some vb, some (.ref z), some (.ref o)] ∧ H' = H5 ∧ pair s a b = p6 s a b, ?_, ?_⟩
    · refine ⟨_, rfl, _, rfl, _, _, hb.dp, Ov.dp, sb, shN 1, _, rfl, iteB (fun e => ⟨_, rfl, rfl, _, rfl, iteB (fun x1 => ⟨_, rfl, k _ _ K0 ?_⟩) (fun x1 => ⟨rfl, rfl, ?_⟩)⟩) (fun e => ⟨rfl, rfl, ?_⟩)⟩
      · rw [e1, p5, if_pos (by rw [show EQ b (.num 1) = true from e, show isS s "mod" = true from x1]; rfl)]; exact Zv
      · rw [e1, p5, if_neg (by rw [show isS s "mod" = false from x1]; simp)]
      · rw [e1, p5, if_neg (by rw [show EQ b (.num 1) = false from e]; simp)]
    rintro σ H6 ⟨rfl, rfl, e1⟩
    refine ⟨fun σ H' => σ = [some (.str s), some va, some vb, some (.ref z), some (.ref o)] ∧ H' = H6 ∧ pair s a b = p7 s a b, ?_, ?_⟩
    · have hit : (EQ a (.num 0) && isS s "+" || EQ a (.num 1) && isS s "*") = true → Q vb H6 := fun h => by
        refine k _ _ K0 ?_
        rw [e1, p6, if_pos h]; exact hb
      have miss : (EQ a (.num 0) && isS s "+" || EQ a (.num 1) && isS s "*") = false → pair s a b = p7 s a b := fun h => by rw [e1, p6, if_neg (by rw [h]; simp)]
      refine ⟨_, rfl, _, rfl, _, _, ha.dp, Zv.dp, sa, shN 0, _, rfl, iteB (fun e => ⟨_, rfl, rfl, _, rfl, iteB (fun e2 => iteT (B := True) ⟨_, rfl, hit ?_⟩) (fun e2 => ?_)⟩) (fun e => ?_)⟩
      · rw [show EQ a (.num 0) = true from e, show isS s "+" = true from e2]; rfl
      all_goals
        refine iteF (A := True) ?_
        have f1 : (EQ a (.num 0) && isS s "+") = false := by
          first
            | exact (by rw [show isS s "+" = false from e2, Bool.and_false])
            | exact (by rw [show EQ a (.num 0) = false from e, Bool.false_and])
        refine ⟨_, rfl, _, rfl, _, _, ha.dp, Ov.dp, sa, shN 1, _, rfl, iteB (fun g => ⟨_, rfl, rfl, _, rfl, iteB (fun g2 => ⟨_, rfl, hit ?_⟩) (fun g2 => ⟨rfl, rfl, miss ?_⟩)⟩) (fun g => ⟨rfl, rfl, miss ?_⟩)⟩
        · rw [show EQ a (.num 1) = true from g, show isS s "*" = true from g2, Bool.and_true, Bool.or_true]
        · rw [f1, show isS s "*" = false from g2, Bool.and_false]; rfl
        · rw [f1, show EQ a (.num 1) = false from g]; rfl
    rintro σ H7 ⟨rfl, rfl, e1⟩
    refine ⟨fun σ H' => σ = [some (.str s), some va, some vb, some (.ref z), some (.ref o)] ∧ H' = H7 ∧ pair s a b = p8 s a b, ?_, ?_⟩
    · have hit : (EQ b (.num 0) && (isS s "+" || isS s "-") || EQ b (.num 1) && (isS s "*" || isS s "/")) = true → Q va H7 := fun h => by
        rw [l6_c s hs, l7_c s hs] at h
        refine k _ _ K0 ?_
        rw [e1, p7, if_pos h]; exact ha
      have miss : (EQ b (.num 0) && (isS s "+" || isS s "-") || EQ b (.num 1) && (isS s "*" || isS s "/")) = false → pair s a b = p8 s a b := fun h => by
        rw [l6_c s hs, l7_c s hs] at h
        rw [e1, p7, if_neg (by rw [h]; simp)]
      refine ⟨_, rfl, _, rfl, _, _, hb.dp, Zv.dp, sb, shN 0, _, rfl, iteB (fun e => ⟨_, rfl, rfl, _, rfl, iteB (fun x1 => iteT (B := True) (iteT (B := True) ⟨_, rfl, hit ?_⟩)) (fun x1 => ⟨_, rfl, rfl, _, rfl, iteB (fun x2 => iteT (B := True) ⟨_, rfl, hit ?_⟩) (fun x2 => ?_)⟩)⟩) (fun e => ?_)⟩
      · rw [show EQ b (.num 0) = true from e, show isS s "+" = true from x1]; rfl
      · rw [show EQ b (.num 0) = true from e, show isS s "-" = true from x2, Bool.or_true]; rfl
      all_goals
        refine iteF (A := True) ?_
        have f1 : (EQ b (.num 0) && (isS s "+" || isS s "-")) = false := by
          first
            | exact (by rw [show isS s "+" = false from x1, show isS s "-" = false from x2, Bool.or_self, Bool.and_false])
            | exact (by rw [show EQ b (.num 0) = false from e, Bool.false_and])
        refine ⟨_, rfl, _, rfl, _, _, hb.dp, Ov.dp, sb, shN 1, _, rfl, iteB (fun g => ⟨_, rfl, rfl, _, rfl, iteB (fun y1 => iteT (B := True) ⟨_, rfl, hit ?_⟩) (fun y1 => ⟨_, rfl, rfl, _, rfl, iteB (fun y2 => ⟨_, rfl, hit ?_⟩) (fun y2 => ⟨rfl, rfl, miss ?_⟩)⟩)⟩) (fun g => ⟨rfl, rfl, miss ?_⟩)⟩
        · rw [show EQ b (.num 1) = true from g, show isS s "*" = true from y1, Bool.true_or, Bool.and_true, Bool.or_true]
        · rw [show EQ b (.num 1) = true from g, show isS s "/" = true from y2, Bool.or_true, Bool.and_true, Bool.or_true]
        · rw [f1, show isS s "*" = false from y1, show isS s "/" = false from y2, Bool.or_self, Bool.and_false]; rfl
        · rw [f1, show EQ b (.num 1) = false from g]; rfl
    rintro σ H8 ⟨rfl, rfl, e1⟩
    refine ⟨_, rfl, _, rfl, _, rfl, by show 3 ≤ sizeLine; decide, fun p hp => ?_⟩
    refine k _ _ (K0.then_new hp) ?_
    rw [e1]
    exact .op (.inl upd_same) (ha.tk (TK.new hp)) (hb.tk (TK.new hp))
theorem ok_law_fold0 {f : Addr} {fd : FuncData} (D : C8.Def K mg "_law_fold" s_law_fold f fd) (b : Binds K fd ["due", "on"] []) : C8.Cal P w K mg base 2 "_law_fold" (sp_fold K 0) [] :=
  ⟨f, fd, ["due", "on"], [], ⟨fun vs H Q E h => (by obtain ⟨v, od, e, ns, ps, on, rfl, _⟩ := h; rfl), fun A outer s H args us vs Q E _ _ _ _ h => (by obtain ⟨v, od, e, ns, ps, on, _, _, _, z, _⟩ := h; have := e.dep_pos; omega)⟩, D.mgf, D.kp, b, .nil⟩
theorem ok_law_fold {f : Addr} {fd : FuncData} (D : C8.Def K mg "_law_fold" s_law_fold f fd) (b : Binds K fd ["due", "on"] []) (T : Txt K mg T_SIGNS T_ZERO T_ONE) {n k : Nat}
    (c_law_fold : C8.Cal P w K mg base k "_law_fold" (sp_fold K n) []) (c_law_fold_pair : C8.Cal P w K mg base k "_law_fold_pair" (sp_pair K) []) : C8.Cal P w K mg base (k + 1) "_law_fold" (sp_fold K (n + 1)) [] := by
  refine cal0 D b .nil sc_law_fold (fun vs H Q E h => ?_) (fun cdv A outer s H vs Q E hr h => ?_)
  · obtain ⟨v, od, e, ns, ps, on, rfl, _⟩ := h
    rfl
  · obtain ⟨v, od, e, ns, ps, on, rfl, he, hok, hd, hn60, hn, hp, O, k⟩ := h
    have hu := hu_of hr
    refine ⟨_, (pss_cons (ps_if (PW.pt (pw_or (pt_cmpR op_eq (pe_ix ix_tup (pv 0) pe_int (fun _ _ => rfl)) pe_str (nomark _)) (pw_or (pt_cmpR op_eq (pe_ix ix_tup (pv 0) pe_int (fun _ _ => rfl)) pe_str (nomark _)) (pw_or1 (pt_cmpR op_eq (pe_ix ix_tup (pv 0) pe_int (fun _ _ => rfl)) pe_str (nomark _))))))
  (pss_one (ps_ret (pv 0)))
  pss_nil)
(pss_cons (ps_if (pt_cmpR op_eq (pe_ix ix_tup (pv 0) pe_int (fun _ _ => rfl)) pe_str (nomark _))
  (pss_one (ps_ret (pe_c c_law_fold hr (by first | exact Nat.le_refl _ | decide) rfl (pa_cons (pe_ix ix_tup (pv 0) (pe_op op_sub pe_int (pe_callTy call_int1 (by rfl) T.n_int bo_int (pa_cons (pe_dget hu (pv 1) (pe_ix ix_tup (pv 0) pe_int (fun _ _ => rfl)) (fun _ _ => rfl)) pa_nil))) (fun _ _ => rfl)) (pa_cons (pv 1) pa_nil)))))
  pss_nil)
(pss_cons (ps_if (pt_cmpR op_eq (pe_ix ix_tup (pv 0) pe_int (fun _ _ => rfl)) pe_str (nomark _))
  (pss_one (ps_ret (pe_tup (pa_cons pe_str (pa_cons (pe_c c_law_fold hr (by first | exact Nat.le_refl _ | decide) rfl (pa_cons (pe_ix ix_tup (pv 0) pe_int (fun _ _ => rfl)) (pa_cons (pv 1) pa_nil))) pa_nil)))))
  pss_nil)
(pss_one (ps_ret (pe_c c_law_fold_pair hr (by first | exact Nat.le_refl _ | decide) rfl (pa_cons (pe_ix ix_tup (pv 0) pe_int (fun _ _ => rfl)) (pa_cons (pe_c c_law_fold hr (by first | exact Nat.le_refl _ | decide) rfl (pa_cons (pe_ix ix_tup (pv 0) pe_int (fun _ _ => rfl)) (pa_cons (pv 1) pa_nil))) (pa_cons (pe_c c_law_fold hr (by first | exact Nat.le_refl _ | decide) rfl (pa_cons (pe_ix ix_tup (pv 0) pe_int (fun _ _ => rfl)) (pa_cons (pv 1) pa_nil))) pa_nil))))))))), ?_⟩
    cases he with
    | num h =>
      refine ⟨_, rfl, _, _, _, _, rfl, rfl, h.sq, rfl, rfl, _, rfl, iteDT rfl ?_⟩
      exact ⟨_, rfl, k _ _ (Keep.refl _ _) (.num h)⟩
    | var h =>
      refine ⟨_, rfl, _, _, _, _, rfl, rfl, h.sq, rfl, rfl, _, rfl, iteDF (nes (by decide +kernel)) ?_⟩
      refine ⟨_, rfl, _, _, _, _, rfl, rfl, h.sq, rfl, rfl, _, rfl, iteDT rfl ?_⟩
      exact ⟨_, rfl, k _ _ (Keep.refl _ _) (.var h)⟩
    | long h =>
      refine ⟨_, rfl, _, _, _, _, rfl, rfl, h.sq, rfl, rfl, _, rfl, iteDF (nes (by decide +kernel)) ?_⟩
      refine ⟨_, rfl, _, _, _, _, rfl, rfl, h.sq, rfl, rfl, _, rfl, iteDF (nes (by decide +kernel)) ?_⟩
      refine ⟨_, rfl, _, _, _, _, rfl, rfl, h.sq, rfl, rfl, _, rfl, iteDT rfl ?_⟩
      exact ⟨_, rfl, k _ _ (Keep.refl _ _) (.long h)⟩
    | view h h1 =>
      refine ⟨_, rfl, _, _, _, _, rfl, rfl, h.sq, rfl, rfl, _, rfl, iteDF (nes (by decide +kernel)) ?_⟩
      refine ⟨_, rfl, _, _, _, _, rfl, rfl, h.sq, rfl, rfl, _, rfl, iteDF (nes (by decide +kernel)) ?_⟩
      refine ⟨_, rfl, _, _, _, _, rfl, rfl, h.sq, rfl, rfl, _, rfl, iteDF (nes (by decide +kernel)) ?_⟩
      refine ⟨_, rfl, _, _, _, _, rfl, rfl, h.sq, rfl, rfl, _, rfl, iteDF (nes (by decide +kernel)) ?_⟩
      refine ⟨_, rfl, _, _, _, _, rfl, rfl, h.sq, rfl, rfl, _, rfl, iteDT rfl ?_⟩
      unfold Ex.dep at hd
      refine ⟨_, rfl, _, _, _, _, rfl, rfl, h.sq, rfl, _, rfl, _, _, _, ns, ps, on, rfl, h1, hok, by omega, by omega, hn, hp, O, fun r H1 K1 E1 => ?_⟩
      refine ⟨by show 2 ≤ sizeLine; decide, fun p np => ?_⟩
      exact k _ _ (K1.then_new np) (.view (.inl upd_same) (E1.tk (TK.new np)))
    | @pick _ x _ _ _ _ h h1 h2 =>
      refine ⟨_, rfl, _, _, _, _, rfl, rfl, h.sq, rfl, rfl, _, rfl, iteDF (nes (by decide +kernel)) ?_⟩
      refine ⟨_, rfl, _, _, _, _, rfl, rfl, h.sq, rfl, rfl, _, rfl, iteDF (nes (by decide +kernel)) ?_⟩
      refine ⟨_, rfl, _, _, _, _, rfl, rfl, h.sq, rfl, rfl, _, rfl, iteDF (nes (by decide +kernel)) ?_⟩
      refine ⟨_, rfl, _, _, _, _, rfl, rfl, h.sq, rfl, rfl, _, rfl, iteDT rfl ?_⟩
      unfold Ex.dep at hd
      unfold fold at k
      have ho := O.get hok.1
      cases q : on x with
      | true =>
        rw [q] at ho
        rw [if_pos q] at k
        exact ⟨_, rfl, _, rfl, _, rfl, _, _, _, _, rfl, rfl, h.sq, rfl, _, _, rfl, ho, .inr ⟨_, rfl, _, _, rfl, rfl, _, _, _, _, rfl, rfl, h.sq, rfl, _, rfl, _, _, _, ns, ps, on, rfl, h1, hok.2.1, (by omega), (by omega), hn, hp, O, k⟩⟩
      | false =>
        rw [q] at ho
        rw [if_neg (by simp [q])] at k
        exact ⟨_, rfl, _, rfl, _, rfl, _, _, _, _, rfl, rfl, h.sq, rfl, _, _, rfl, ho, .inr ⟨_, rfl, _, _, rfl, rfl, _, _, _, _, rfl, rfl, h.sq, rfl, _, rfl, _, _, _, ns, ps, on, rfl, h2, hok.2.2, (by omega), (by omega), hn, hp, O, k⟩⟩
    | op h h1 h2 =>
      obtain ⟨n1, n2, n3, n4, n5⟩ := sg_not _ hok.1
      refine ⟨_, rfl, _, _, _, _, rfl, rfl, h.sq, rfl, rfl, _, rfl, iteDF (nes n1) ?_⟩
      refine ⟨_, rfl, _, _, _, _, rfl, rfl, h.sq, rfl, rfl, _, rfl, iteDF (nes n2) ?_⟩
      refine ⟨_, rfl, _, _, _, _, rfl, rfl, h.sq, rfl, rfl, _, rfl, iteDF (nes n3) ?_⟩
      refine ⟨_, rfl, _, _, _, _, rfl, rfl, h.sq, rfl, rfl, _, rfl, iteDF (nes n5) ?_⟩
      refine ⟨_, rfl, _, _, _, _, rfl, rfl, h.sq, rfl, rfl, _, rfl, iteDF (nes n4) ?_⟩
      unfold Ex.dep at hd
      have fa := fold_ok (on := on) _ hok.2.1
      have fb := fold_ok (on := on) _ hok.2.2
      refine ⟨_, rfl, _, _, _, _, rfl, rfl, h.sq, rfl, _, rfl, _, _, _, _, rfl, rfl, h.sq, rfl, _, rfl, _, _, _, ns, ps, on, rfl, h1, hok.2.1, by omega, by omega, hn, hp, O, fun r1 H1 K1 E1 => ?_⟩
      refine ⟨_, rfl, _, _, _, _, rfl, rfl, (h.tk K1.tk).sq, rfl, _, rfl, _, _, _, ns, ps, on, rfl, h2.tk K1.tk, hok.2.2, by omega, by omega, hn, hp, O.keep K1, fun r2 H2 K2 E2 => ?_⟩
      exact ⟨_, _, _, _, _, ns, ps, rfl, hok.1, E1.tk K2.tk, E2, fa.1, fb.1, by omega, by omega, hn, hp, fun r H3 K3 E3 => k _ _ ((K1.trans K2).trans K3) E3⟩
end

section
variable {P : Program} {w : World} {K : PySem.W.Frag} {mg : Str → Option Value} {base : Heap} {T_SIGNS : Addr} {T_ZERO : Addr} {T_ONE : Addr}
theorem ok_law_expr0 {f : Addr} {fd : FuncData} (D : C8.Def K mg "_law_expression" s_law_expression f fd) (b : Binds K fd ["pool", "names", "picks", "deep"] []) : C8.Cal P w K mg base 3 "_law_expression" (sp_expr K 0) [] :=
  ⟨f, fd, ["pool", "names", "picks", "deep"], [], ⟨fun vs H Q E h => (by obtain ⟨p, q, la, lb, ns, xs, ys, d, rfl, _⟩ := h; rfl), fun A outer s H args us vs Q E _ _ _ _ h => (by obtain ⟨p, q, la, lb, ns, xs, ys, d, _, h1, h2, _⟩ := h; omega)⟩, D.mgf, D.kp, b, .nil⟩
theorem ok_law_expr {f : Addr} {fd : FuncData} (D : C8.Def K mg "_law_expression" s_law_expression f fd) (b : Binds K fd ["pool", "names", "picks", "deep"] []) (T : Txt K mg T_SIGNS T_ZERO T_ONE) {n k : Nat} (c_law_expression : C8.Cal P w K mg base k "_law_expression" (sp_expr K n) [])
    (c_law_draw : C8.Cal P w K mg base k "_law_draw" sp_law_draw []) (c_law_spend : C8.Cal P w K mg base k "_law_spend" sp_law_spend []) (c_law_number : C8.Cal P w K mg base k "_law_number" sp_law_number []) :
    C8.Cal P w K mg base (k + 1) "_law_expression" (sp_expr K (n + 1)) [] := by
  refine cal0 D b .nil sc_law_expression (fun vs H Q E h => ?_) (fun cdv A outer s H vs Q E hr h => ?_)
  · obtain ⟨p, q, la, lb, ns, xs, ys, d, rfl, _⟩ := h
    rfl
  · obtain ⟨p, q, la, lb, ns, xs, ys, d, rfl, d1, dn, hP, ha, nla, hb, nlb, hxl, hyl, k⟩ := h
    refine ⟨_, (pss_cons (ps_set (i := 4) sc_law_expression.nd rfl (by first | exact Or.inl rfl | exact Or.inr rfl) (pe_c c_law_draw hr (by first | exact Nat.le_refl _ | decide) rfl (pa_cons (pv 0) (pa_cons pe_int pa_nil))))
(pss_cut (ps_if (PW.pt (pw_and (pt_cmpR op_gt (pv 3) pe_int (nomark _)) (pw_and (pt_cmpR op_lt (pv 4) pe_int (nomark _)) (pw_and1 (pt_val (pe_c c_law_spend hr (by first | exact Nat.le_refl _ | decide) rfl (pa_cons (pv 0) pa_nil)))))))
  (pss_cut (ps_if (PW.pt (pw_and (pt_cmpR op_eq (pv 4) pe_int (nomark _)) (pw_and1 (pt_cmpR op_eq (pe_c c_law_draw hr (by first | exact Nat.le_refl _ | decide) rfl (pa_cons (pv 0) (pa_cons pe_int pa_nil))) pe_int (nomark _)))))
    (pss_one (ps_ret (pe_tup (pa_cons pe_str (pa_cons (pe_c c_law_expression hr (by first | exact Nat.le_refl _ | decide) rfl (pa_cons (pv 0) (pa_cons (pv 1) (pa_cons (pv 2) (pa_cons (pe_op op_sub (pv 3) pe_int) pa_nil))))) pa_nil)))))
    pss_nil)
  (pss_cut (ps_if (PW.pt (pw_and (pt_cmpR op_gt (pv 4) pe_int (nomark _)) (pw_and1 (pt_truth (pv 2) (by intro _; rfl)))))
    (pss_cons (ps_set (i := 5) sc_law_expression.nd rfl (by first | exact Or.inl rfl | exact Or.inr rfl) (pe_ix ix_list (pv 2) (pe_c c_law_draw hr (by first | exact Nat.le_refl _ | decide) rfl (pa_cons (pv 0) (pa_cons (pe_callB call_len_seq (by rfl) T.n_len bo_len (pa_cons (pv 2) pa_nil)) pa_nil))) (fun _ _ => rfl)))
    (pss_cons (ps_set (i := 6) sc_law_expression.nd rfl (by first | exact Or.inl rfl | exact Or.inr rfl) (pe_c c_law_expression hr (by first | exact Nat.le_refl _ | decide) rfl (pa_cons (pv 0) (pa_cons (pv 1) (pa_cons (pv 2) (pa_cons (pe_op op_sub (pv 3) pe_int) pa_nil))))))
    (pss_one (ps_ret (pe_tup (pa_cons pe_str (pa_cons (pv 5) (pa_cons (pv 6) (pa_cons (pe_c c_law_expression hr (by first | exact Nat.le_refl _ | decide) rfl (pa_cons (pv 0) (pa_cons (pv 1) (pa_cons (pv 2) (pa_cons (pe_op op_sub (pv 3) pe_int) pa_nil))))) pa_nil)))))))))
    pss_nil)
  (pss_cons (ps_set (i := 7) sc_law_expression.nd rfl (by first | exact Or.inl rfl | exact Or.inr rfl) (pe_ix ix_tup (pe_tup (pa_cons pe_str (pa_cons pe_str (pa_cons pe_str (pa_cons pe_str (pa_cons pe_str (pa_cons pe_str (pa_cons pe_str (pa_cons pe_str (pa_cons pe_str (pa_cons pe_str (pa_cons pe_str pa_nil)))))))))))) (pv 4) (fun _ _ => rfl)))
  (pss_cons (ps_set (i := 6) sc_law_expression.nd rfl (by first | exact Or.inl rfl | exact Or.inr rfl) (pe_c c_law_expression hr (by first | exact Nat.le_refl _ | decide) rfl (pa_cons (pv 0) (pa_cons (pv 1) (pa_cons (pv 2) (pa_cons (pe_op op_sub (pv 3) pe_int) pa_nil))))))
  (pss_cut (ps_if (PW.pt (pw_and (pt_cmpR op_eq (pe_c c_law_draw hr (by first | exact Nat.le_refl _ | decide) rfl (pa_cons (pv 0) (pa_cons pe_int pa_nil))) pe_int (nomark _)) (pw_and1 (pt_cmpR op_gt (pe_ix ix_list (pv 0) pe_int (fun _ _ => rfl)) pe_int (nomark _)))))
    (pss_cons (ps_asg (pe_op op_sub (pe_ix ix_list (pv 0) pe_int (fun _ _ => rfl)) pe_int) (pg_sub (pv 0) pe_int set_list))
    (pss_one (ps_ret (pe_tup (pa_cons (pv 7) (pa_cons (pv 6) (pa_cons (pv 6) pa_nil)))))))
    pss_nil)
  (pss_one (ps_ret (pe_tup (pa_cons (pv 7) (pa_cons (pv 6) (pa_cons (pe_c c_law_expression hr (by first | exact Nat.le_refl _ | decide) rfl (pa_cons (pv 0) (pa_cons (pv 1) (pa_cons (pv 2) (pa_cons (pe_op op_sub (pv 3) pe_int) pa_nil))))) pa_nil)))))))))))
  pss_nil)
(pss_cons (ps_if (pt_cmpR op_eq (pv 4) pe_int (nomark _))
  (pss_one (ps_ret (pe_tup (pa_cons pe_str pa_nil))))
  pss_nil)
(pss_cut (ps_if (PW.pt (pw_and (pt_truth (pv 1) (by intro _; rfl)) (pw_and1 (pt_cmpR op_eq (pe_op op_mod (pe_callTy call_int1 (by rfl) T.n_int bo_int (pa_cons (pv 4) pa_nil)) pe_int) pe_int (nomark _)))))
  (pss_one (ps_ret (pe_tup (pa_cons pe_str (pa_cons (pe_ix ix_list (pv 1) (pe_c c_law_draw hr (by first | exact Nat.le_refl _ | decide) rfl (pa_cons (pv 0) (pa_cons (pe_callB call_len_seq (by rfl) T.n_len bo_len (pa_cons (pv 1) pa_nil)) pa_nil))) (fun _ _ => rfl)) pa_nil)))))
  pss_nil)
(pss_cons (ps_if (pt_cmpR op_lt (pv 4) pe_int (nomark _))
  (pss_one (ps_ret (pe_tup (pa_cons pe_str (pa_cons (pe_c c_law_draw hr (by first | exact Nat.le_refl _ | decide) rfl (pa_cons (pv 0) (pa_cons pe_int pa_nil))) pa_nil)))))
  pss_nil)
(pss_one (ps_ret (pe_tup (pa_cons pe_str (pa_cons (pe_c c_law_number hr (by first | exact Nat.le_refl _ | decide) rfl (pa_cons (pv 0) pa_nil)) pa_nil)))))))))), ?_⟩
    -- one part of it
    have sub : ∀ {H1 : Hp} {R : VK} {E1 : XK}, 1 < d → Pool H1 p q ns → Keep [p] H H1 → (∀ r e H', EV K H' r e → e.Ok xs ys → e.dep ≤ (d - 1).toNat → Pool H' p q ns → Keep [p] H1 H' → R r H') → sp_expr K n [.ref p, .ref la, .ref lb, .int (d - 1)] H1 R E1 :=
      fun hd P1 K1 g => ⟨p, q, la, lb, ns, xs, ys, d - 1, rfl, by omega, by omega, P1, K1 _ _ ha (by simpa using nla), nla, K1 _ _ hb (by simpa using nlb), nlb, hxl, hyl, g⟩
    have Ha : ∀ {H1 : Hp}, Keep [p] H H1 → H1 la = some (.lst (xs.map V.str)) := fun K1 => K1 _ _ ha (by simpa using nla)
    have Hb : ∀ {H1 : Hp}, Keep [p] H H1 → H1 lb = some (.lst (ys.map V.str)) := fun K1 => K1 _ _ hb (by simpa using nlb)
    refine ⟨_, rfl, p, q, ns, 16, rfl, by decide, by decide, hP, fun kind H1 r0 r1 P1 K1 => ?_⟩
    refine ⟨fun σ H' => σ = [some (.ref p), some (.ref la), some (.ref lb), some (.int d), some (.int kind), none, none, none] ∧ Pool H' p q ns ∧ Keep [p] H H', ?_, ?_⟩
    · refine ⟨_, rfl, _, _, rfl, rfl, _, rfl, iteD (fun hd => ?_) (fun hd => ⟨rfl, P1, K1⟩)⟩
      refine ⟨_, rfl, _, _, rfl, rfl, _, rfl, iteD (fun hk => ?_) (fun hk => ⟨rfl, P1, K1⟩)⟩
      refine ⟨_, rfl, p, q, ns, rfl, P1, fun bb H2 P2 K2 => ⟨_, rfl, iteB (fun eb => ?_) (fun eb => ⟨rfl, P2, K1.trans K2⟩)⟩⟩
      have K2' := K1.trans K2
      -- view
      refine ⟨fun σ H' => σ = [some (.ref p), some (.ref la), some (.ref lb), some (.int d), some (.int kind), none, none, none] ∧ Pool H' p q ns ∧ Keep [p] H H', ?_, ?_⟩
      · refine ⟨_, rfl, rfl, _, rfl, iteD (fun _ => ?_) (fun _ => ⟨rfl, P2, K2'⟩)⟩
        refine ⟨_, rfl, p, q, ns, 2, rfl, by decide, by decide, P2, fun r H3 _ _ P3 K3 => ⟨rfl, _, rfl, iteD (fun _ => ?_) (fun _ => ⟨rfl, P3, K2'.trans K3⟩)⟩⟩
        refine ⟨_, rfl, _, rfl, _, rfl, _, rfl, _, _, rfl, rfl, sub (E1 := E) hd P3 (K2'.trans K3) fun r e H4 E4 o4 d4 P4 K4 => ⟨by show 2 ≤ sizeLine; decide, fun t nt => ?_⟩⟩
        exact k _ (.view e) _ (.view (.inl upd_same) (E4.tk (TK.new nt))) o4 (by show e.dep + 1 ≤ _; omega) (P4.new nt) (((K2'.trans K3).trans K4).then_new nt)
      rintro σ H3 ⟨rfl, P3, K3⟩
      -- pick
      refine ⟨fun σ H' => σ = [some (.ref p), some (.ref la), some (.ref lb), some (.int d), some (.int kind), none, none, none] ∧ H' = H3, ?_, ?_⟩
      · refine ⟨_, rfl, _, _, rfl, rfl, _, rfl, iteD (fun _ => ?_) (fun _ => ⟨rfl, rfl⟩)⟩
        refine ⟨_, rfl, _, .inl ⟨_, SqL.of (Hb K3), rfl⟩, iteB (fun e => ?_) (fun e => ⟨rfl, rfl⟩)⟩
        have hy0 := empty_ne e
        refine ⟨_, rfl, _, rfl, _, rfl, _, _, rfl, .inl (SqL.of (Hb K3)), p, q, ns, _, rfl, by rw [List.length_map]; omega, by rw [List.length_map]; omega, P3, fun r H4 z0 z1 P4 K4 => ?_⟩
        rw [List.length_map] at z1
        obtain ⟨m, rfl⟩ : ∃ m : Nat, r = (m : Int) := ⟨r.toNat, by omega⟩
        have hm : m < ys.length := by omega
        have K4' := K3.trans K4
        refine ⟨_, _, _, _, rfl, rfl, SqL.of (Hb K4'), atI_nat (by rw [List.getElem?_map, List.getElem?_eq_getElem hm]; rfl), ?_⟩
        refine ⟨_, rfl, _, rfl, _, rfl, _, rfl, _, _, rfl, rfl, sub (E1 := E) hd P4 K4' fun r1 e1 H5 E5 o5 d5 P5 K5 => ?_⟩
        refine ⟨_, rfl, _, rfl, _, rfl, _, rfl, _, rfl, _, rfl, _, _, rfl, rfl, sub (E1 := E) hd P5 (K4'.trans K5) fun r2 e2 H6 E6 o6 d6 P6 K6 => ⟨by show 4 ≤ sizeLine; decide, fun t nt => ?_⟩⟩
        refine k _ (.pick ys[m] e1 e2) _ (.pick (.inl upd_same) ((E5.tk (P5.tk K6)).tk (TK.new nt)) (E6.tk (TK.new nt))) ⟨List.getElem_mem hm, o5, o6⟩ (by show max e1.dep e2.dep + 1 ≤ _; omega) (P6.new nt) (((K4'.trans K5).trans K6).then_new nt)
      rintro σ H' ⟨rfl, h33⟩
      rw [h33]
      -- a sign
      obtain ⟨m, rfl⟩ : ∃ m : Nat, kind = (m : Int) := ⟨kind.toNat, by omega⟩
      obtain ⟨sg, hsg, hat⟩ := sg_at m (by omega)
      refine ⟨by show 11 ≤ sizeLine; decide, fun t nt => ?_⟩
      refine ⟨_, rfl, _, _, _, _, rfl, rfl, SqT.of upd_same, atI_nat hat, ?_⟩
      have P4 := P3.new (o := .tup [.str "+", .str "-", .str "*", .str "/", .str "mod", .str "<", .str "=", .str "+", .str "-", .str "*", .str "/"]) nt
      have K4 := K3.then_new (o := .tup [.str "+", .str "-", .str "*", .str "/", .str "mod", .str "<", .str "=", .str "+", .str "-", .str "*", .str "/"]) nt
      refine ⟨_, rfl, _, rfl, _, rfl, _, rfl, _, _, rfl, rfl, sub (E1 := E) hd P4 K4 fun r1 e1 H5 E5 o5 d5 P5 K5 => ?_⟩
      have K5' := K4.trans K5
      refine ⟨fun σ H' => σ = [some (.ref p), some (.ref la), some (.ref lb), some (.int d), some (.int (m : Int)), none, some r1, some (.str sg)] ∧ Pool H' p q ns ∧ Keep [p] H H' ∧ EV K H' r1 e1, ?_, ?_⟩
      · refine ⟨_, rfl, p, q, ns, 5, rfl, by decide, by decide, P5, fun r H6 _ _ P6 K6 => ⟨rfl, _, rfl, iteD (fun _ => ?_) (fun _ => ⟨rfl, P6, K5'.trans K6, E5.tk (P5.tk K6)⟩)⟩⟩
        have E6 := E5.tk (P5.tk K6)
        obtain ⟨i1, i2, i3, i4, i5, h1, h2, h3, h4⟩ := P6
        refine ⟨_, rfl, _, _, _, _, rfl, rfl, SqL.of h1, rfl, _, _, rfl, rfl, _, rfl, iteD (fun _ => ?_) (fun _ => ⟨rfl, ⟨i1, i2, i3, i4, i5, h1, h2, h3, h4⟩, K5'.trans K6, E6⟩)⟩
        refine ⟨_, rfl, _, _, _, _, rfl, rfl, SqL.of h1, rfl, _, _, rfl, rfl, _, rfl, _, _, _, _, rfl, rfl, h1, rfl, ?_⟩
        refine ⟨_, rfl, _, rfl, _, rfl, by show 3 ≤ sizeLine; decide, fun u nu => ?_⟩
        have P7 : Pool (upd H6 p (.lst (List.set [.ref q, .int i1, .int i2, .int i3, .int i4, .int i5] 5 (.int (i5 - 6))))) p q ns := ⟨_, _, _, _, _, upd_same, (by rw [upd_ne h3]; exact h2), h3, h4⟩
        have E7 : EV K (upd H6 p (.lst (List.set [.ref q, .int i1, .int i2, .int i3, .int i4, .int i5] 5 (.int (i5 - 6))))) r1 e1 := E6.tk (TK.lst h1)
        exact k _ (.op sg e1 e1) _ (.op (.inl upd_same) (E7.tk (TK.new nu)) (E7.tk (TK.new nu))) ⟨hsg, o5, o5⟩ (by show max e1.dep e1.dep + 1 ≤ _; omega) (P7.new nu) (((K5'.trans K6).then_at (List.mem_singleton.mpr rfl)).then_new nu)
      rintro σ H6 ⟨rfl, P6, K6, E6⟩
      refine ⟨_, rfl, _, rfl, _, rfl, _, rfl, _, rfl, _, rfl, _, _, rfl, rfl, sub (E1 := E) hd P6 K6 fun r2 e2 H7 E7 o7 d7 P7 K7 => ⟨by show 3 ≤ sizeLine; decide, fun t nt => ?_⟩⟩
      exact k _ (.op sg e1 e2) _ (.op (.inl upd_same) ((E6.tk (P6.tk K7)).tk (TK.new nt)) (E7.tk (TK.new nt))) ⟨hsg, o5, o7⟩ (by show max e1.dep e2.dep + 1 ≤ _; omega) (P7.new nt) ((K6.trans K7).then_new nt)
    rintro σ H2 ⟨rfl, P2, K2⟩
    refine ⟨_, rfl, rfl, _, rfl, iteD (fun _ => ?_) (fun _ => ?_)⟩
    · refine ⟨by show 1 ≤ sizeLine; decide, fun t nt => ?_⟩
      exact k _ .long _ (.long (.inl upd_same)) trivial (by show 1 ≤ _; omega) (P2.new nt) (K2.then_new nt)
    refine ⟨fun σ H' => σ = [some (.ref p), some (.ref la), some (.ref lb), some (.int d), some (.int kind), none, none, none] ∧ H' = H2, ?_, ?_⟩
    · refine ⟨_, rfl, _, .inl ⟨_, SqL.of (Ha K2), rfl⟩, iteB (fun e => ?_) (fun e => ⟨rfl, rfl⟩)⟩
      have hy0 := empty_ne e
      refine ⟨_, rfl, .inl ⟨_, rfl, _, _, rfl, rfl, (by show (0 : Int) < 2; decide), rfl, _, rfl, iteD (fun _ => ?_) (fun _ => ⟨rfl, rfl⟩)⟩⟩
      refine ⟨_, rfl, _, rfl, _, rfl, _, _, rfl, .inl (SqL.of (Ha K2)), p, q, ns, _, rfl, by rw [List.length_map]; omega, by rw [List.length_map]; omega, P2, fun r H4 z0 z1 P4 K4 => ?_⟩
      rw [List.length_map] at z1
      obtain ⟨m, rfl⟩ : ∃ m : Nat, r = (m : Int) := ⟨r.toNat, by omega⟩
      have hm : m < xs.length := by omega
      refine ⟨_, _, _, _, rfl, rfl, SqL.of (Ha (K2.trans K4)), atI_nat (by rw [List.getElem?_map, List.getElem?_eq_getElem hm]; rfl), by show 2 ≤ sizeLine; decide, fun t nt => ?_⟩
      exact k _ (.var xs[m]) _ (.var (.inl upd_same)) (List.getElem_mem hm) (by show 1 ≤ _; omega) (P4.new nt) ((K2.trans K4).then_new nt)
    rintro σ H' ⟨rfl, h33⟩
    rw [h33]
    refine ⟨_, rfl, _, _, rfl, rfl, _, rfl, iteD (fun _ => ?_) (fun _ => ?_)⟩
    · refine ⟨_, rfl, p, q, ns, 3, rfl, by decide, by decide, P2, fun r H3 z0 z1 P3 K3 => ⟨by show 2 ≤ sizeLine; decide, fun t nt => ?_⟩⟩
      exact k _ (.num r) _ (.num (.inl upd_same)) ⟨z0, by omega⟩ (by show 1 ≤ _; omega) (P3.new nt) ((K2.trans K3).then_new nt)
    · refine ⟨_, rfl, p, q, ns, rfl, P2, fun r H3 z0 z1 P3 K3 => ⟨by show 2 ≤ sizeLine; decide, fun t nt => ?_⟩⟩
      exact k _ (.num r) _ (.num (.inl upd_same)) ⟨z0, z1⟩ (by show 1 ≤ _; omega) (P3.new nt) ((K2.trans K3).then_new nt)
end

def sp_law (K : PySem.W.Frag) : Sp := fun vs H Q _ => ∃ (a : Addr) (ns : List Int), vs = [.ref a] ∧ SqL K H a (ns.map V.int) ∧ ∀ H', Q (.bl true) H'
/-- what stands through the law -/
structure LW (H : Hp) (p q la lb od kl st : Addr) (ns : List Int) (xs ys : List Str) (on : Str → Bool) (seen : List Int) : Prop where
  P : Pool H p q ns
  a : H la = some (.lst (xs.map V.str))
  b : H lb = some (.lst (ys.map V.str))
  o : ∃ kvs : List (Key × V), H od = some (.dK kvs) ∧ kvs.length = ys.length ∧ ∀ x ∈ ys, valV kvs (.inr x) = some (.bl (on x))
  l : H kl = some (.lst (ys.map fun x => V.bl (on x)))
  s : H st = some (.tup (seen.map V.int))
  na : la ≠ p
  nb : lb ≠ p
  no : od ≠ p
  nl : kl ≠ p
  ns' : st ≠ p
theorem LW.keep {H H' : Hp} {p q la lb od kl st : Addr} {ns : List Int} {xs ys : List Str} {on : Str → Bool} {seen : List Int} (h : LW H p q la lb od kl st ns xs ys on seen) (P : Pool H' p q ns) (k : Keep [p] H H') : LW H' p q la lb od kl st ns xs ys on seen := by
  obtain ⟨kvs, o1, o2, o3⟩ := h.o
  exact ⟨P, k _ _ h.a (by simpa using h.na), k _ _ h.b (by simpa using h.nb), ⟨kvs, k _ _ o1 (by simpa using h.no), o2, o3⟩, k _ _ h.l (by simpa using h.nl), k _ _ h.s (by simpa using h.ns'), h.na, h.nb, h.no, h.nl, h.ns'⟩
theorem LW.keep0 {H H' : Hp} {p q la lb od kl st : Addr} {ns : List Int} {xs ys : List Str} {on : Str → Bool} {seen : List Int} (h : LW H p q la lb od kl st ns xs ys on seen) (k : Keep [] H H') : LW H' p q la lb od kl st ns xs ys on seen := h.keep (h.P.keep0 k) (k.mono (by simp))
theorem LW.dc {H : Hp} {p q la lb od kl st : Addr} {ns : List Int} {xs ys : List Str} {on : Str → Bool} {seen : List Int} (h : LW H p q la lb od kl st ns xs ys on seen) : DcB H od ys on := by
  obtain ⟨kvs, o1, o2, o3⟩ := h.o
  exact ⟨kvs, o1, o3⟩
theorem same_bools {K : PySem.W.Frag} {H : Hp} {n : Nat} {p q : Addr} {bs : List V} (hb : ∀ x ∈ bs, ∃ b, x = V.bl b) (h1 : H p = some (.lst bs)) (h2 : H q = some (.lst bs)) (hl : bs.length ≤ 1000) : SameV K (n + 2) H (.ref p) (.ref q) := by
  refine .inr ⟨p, q, _, _, rfl, rfl, .inl ⟨h1, h2⟩, rfl, smallM (by omega), fun i x y hx hy => ?_⟩
  rw [hx] at hy; cases hy
  obtain ⟨b, rfl⟩ := hb x (List.mem_of_getElem? hx)
  exact .inl ⟨rfl, .inr (.inr (.inl ⟨b, rfl⟩))⟩
theorem putK_le (kvs : List (Key × V)) (k : Key) (v : V) : (putK kvs k v).length ≤ kvs.length + 1 := by
  unfold putK
  split <;> simp
theorem str_mem {ys : List Str} {i : Nat} {x : V} (h : (ys.map V.str)[i]? = some x) : ∃ (z : Str) (hi : i < ys.length), x = V.str z ∧ ys[i] = z ∧ ys.take (i + 1) = ys.take i ++ [z] ∧ z ∈ ys := by
  obtain ⟨z, hz, rfl⟩ := strs_get h
  obtain ⟨hi, e⟩ := List.getElem?_eq_some_iff.mp hz
  exact ⟨z, hi, rfl, e, by rw [List.take_succ_eq_append_getElem hi, e], e ▸ List.getElem_mem hi⟩
theorem nodup_take {ys : List Str} (h : ys.Nodup) {i : Nat} {z : Str} (hi : i < ys.length) (e : ys.take (i + 1) = ys.take i ++ [z]) : z ∉ ys.take i := by
  have h2 : (ys.take (i + 1)).Nodup := h.sublist (List.take_sublist _ _)
  rw [e, List.nodup_append] at h2
  exact fun q => h2.2.2 z q z (by simp) rfl
section
variable {P : Program} {w : World} {K : PySem.W.Frag} {mg : Str → Option Value} {base : Heap} {T_SIGNS : Addr} {T_ZERO : Addr} {T_ONE : Addr}
theorem same_all {f : Addr} {fd : FuncData} (D : C8.Def K mg "_law_same" s_law_same f fd) (b : Binds K fd ["actual", "due"] []) (T : Txt K mg T_SIGNS T_ZERO T_ONE) : ∀ n, C8.Cal P w K mg base n "_law_same" (sp_law_same K n) []
  | 0 => ok_law_same0 D b
  | n + 1 => ok_law_same D b T (same_all D b T n)
theorem value_all {f : Addr} {fd : FuncData} (D : C8.Def K mg "value_of" s_value_of f fd) {ds : List Value} (d : Vals [] ds) (b : Binds K fd ["expression", "table", "on", "seen"] ds) (T : Txt K mg T_SIGNS T_ZERO T_ONE) (c : C8.Cal P w K mg base 1 "combine" sp_combine []) : ∀ n, C8.Cal P w K mg base (n + 1) "value_of" (sp_value K n) []
  | 0 => ok_value0 D d b
  | n + 1 => ok_value D d b T (value_all D d b T c n) (calUp c (by omega))
theorem lvalue_all {f : Addr} {fd : FuncData} (D : C8.Def K mg "_law_value" s_law_value f fd) (b : Binds K fd ["due", "table", "on", "seen"] []) (T : Txt K mg T_SIGNS T_ZERO T_ONE) (c : C8.Cal P w K mg base 1 "_law_combine" sp_combine []) : ∀ n, C8.Cal P w K mg base (n + 1) "_law_value" (sp_value K n) []
  | 0 => ok_law_value0 D b
  | n + 1 => ok_law_value D b T (lvalue_all D b T c n) (calUp c (by omega))
theorem fold_all {f : Addr} {fd : FuncData} (D : C8.Def K mg "fold_expression" s_fold_expression f fd) (b : Binds K fd ["expression", "on"] []) (T : Txt K mg T_SIGNS T_ZERO T_ONE) (c : C8.Cal P w K mg base 2 "fold_pair" (sp_pair K) []) : ∀ n, C8.Cal P w K mg base (n + 2) "fold_expression" (sp_fold K n) []
  | 0 => ok_fold0 D b
  | n + 1 => ok_fold D b T (fold_all D b T c n) (calUp c (by omega))
theorem lfold_all {f : Addr} {fd : FuncData} (D : C8.Def K mg "_law_fold" s_law_fold f fd) (b : Binds K fd ["due", "on"] []) (T : Txt K mg T_SIGNS T_ZERO T_ONE) (c : C8.Cal P w K mg base 2 "_law_fold_pair" (sp_pair K) []) : ∀ n, C8.Cal P w K mg base (n + 2) "_law_fold" (sp_fold K n) []
  | 0 => ok_law_fold0 D b
  | n + 1 => ok_law_fold D b T (lfold_all D b T c n) (calUp c (by omega))
theorem expr_all {f : Addr} {fd : FuncData} (D : C8.Def K mg "_law_expression" s_law_expression f fd) (b : Binds K fd ["pool", "names", "picks", "deep"] []) (T : Txt K mg T_SIGNS T_ZERO T_ONE) (c1 : C8.Cal P w K mg base 1 "_law_draw" sp_law_draw []) (c2 : C8.Cal P w K mg base 1 "_law_spend" sp_law_spend []) (c3 : C8.Cal P w K mg base 2 "_law_number" sp_law_number []) :
    ∀ n, C8.Cal P w K mg base (n + 3) "_law_expression" (sp_expr K n) []
  | 0 => ok_law_expr0 D b
  | n + 1 => ok_law_expr D b T (expr_all D b T c1 c2 c3 n) (calUp c1 (by omega)) (calUp c2 (by omega)) (calUp c3 (by omega))
theorem ok_law {f : Addr} {fd : FuncData} (F : C8.Fun K "law" "law" s_law f fd) (T : Txt K mg T_SIGNS T_ZERO T_ONE) (c_law_pool : C8.Cal P w K mg base 1 "_law_pool" (sp_law_pool K) []) (c_law_draw : C8.Cal P w K mg base 1 "_law_draw" sp_law_draw []) (c_law_number : C8.Cal P w K mg base 2 "_law_number" sp_law_number [])
    (c_law_names : C8.Cal P w K mg base 4 "_law_names" sp_law_names []) (c_law_expression : C8.Cal P w K mg base 13 "_law_expression" (sp_expr K 10) []) (c_law_same : C8.Cal P w K mg base 13 "_law_same" (sp_law_same K 13) [])
    (c_law_fold : C8.Cal P w K mg base 14 "_law_fold" (sp_fold K 12) []) (c_fold_expression : C8.Cal P w K mg base 14 "fold_expression" (sp_fold K 12) []) (c_law_value : C8.Cal P w K mg base 13 "_law_value" (sp_value K 12) []) (c_value_of : C8.Cal P w K mg base 13 "value_of" (sp_value K 12) []) :
    FnOk P w K mg base C8.CX0 16 f fd ["script"] (sp_law K) := by
  refine C8.fn0 F sc_law (fun vs H Q E h => ?_) (fun cdv A outer s H vs Q E hr h => ?_)
  · obtain ⟨a, ns, rfl, _⟩ := h
    rfl
  · obtain ⟨a, ns, rfl, hS, k⟩ := h
    have hu := hu_of hr
    refine ⟨_, (pss_cons (ps_set (i := 1) sc_law.nd rfl (by first | exact Or.inl rfl | exact Or.inr rfl) (pe_c c_law_pool hr (by first | exact Nat.le_refl _ | decide) rfl (pa_cons (pv 0) (pa_cons pe_int pa_nil))))
(pss_cons (ps_set (i := 2) sc_law.nd rfl (by first | exact Or.inl rfl | exact Or.inr rfl) (pe_c c_law_names hr (by first | exact Nat.le_refl _ | decide) rfl (pa_cons (pv 1) (pa_cons pe_int pa_nil))))
(pss_cons (ps_set (i := 3) sc_law.nd rfl (by first | exact Or.inl rfl | exact Or.inr rfl) (pe_c c_law_names hr (by first | exact Nat.le_refl _ | decide) rfl (pa_cons (pv 1) (pa_cons pe_int pa_nil))))
(pss_cons (ps_set (i := 4) sc_law.nd rfl (by first | exact Or.inl rfl | exact Or.inr rfl) pe_dnewK)
(pss_cons (ps_for PassesOwn.never rfl (pi_list (pv 3)) (pg_name (i := 5) sc_law.nd rfl (by first | exact Or.inl rfl | exact Or.inr rfl))
  (pss_one (ps_dput hu (pv 4) (pv 5) (pe_cmpR op_eq (pe_c c_law_draw hr (by first | exact Nat.le_refl _ | decide) rfl (pa_cons (pv 1) (pa_cons pe_int pa_nil))) pe_int (nomark _)) (by rfl))))
(pss_cons (ps_setLc (i := 6) (own := [("name", 5)]) (g := gName 5) (tt := tYes) rfl sc_law.nd rfl rfl (sw_true rfl rfl rfl (by decide +kernel)) (pi_list (pv 3)) (blkOk_by (N := ["script", "pool", "names", "picks", "on", "name", "kept", "seen", "plain", "due", "actual", "k", "table", "value"]) (sc := fnScope s_law) (by decide +kernel)) (fun _ _ _ _ _ => pg_name (i := 5) sc_law.nd rfl (Or.inl rfl)) (fun _ _ _ _ _ => pts_nil) (fun _ _ _ _ _ => (pe_dget hu (pv 4) (pv 5) (fun _ _ => rfl))))
(pss_cons (ps_set (i := 7) sc_law.nd rfl (by first | exact Or.inl rfl | exact Or.inr rfl) (pe_callTy call_tuple_of (by rfl) T.n_tuple bo_tuple (pa_cons (pe_lc (own := [("k", 11)]) (g := gName 11) (tt := tYes) rfl sc_law.nd (pi_range1 (by rfl) T.n_range (pa_cons (pe_c c_law_draw hr (by first | exact Nat.le_refl _ | decide) rfl (pa_cons (pv 1) (pa_cons pe_int pa_nil))) pa_nil)) (blkOk_by (N := ["script", "pool", "names", "picks", "on", "name", "kept", "seen", "plain", "due", "actual", "k", "table", "value"]) (sc := fnScope s_law) (by decide +kernel)) (fun _ _ _ _ _ => pg_name (i := 11) sc_law.nd rfl (Or.inl rfl)) (fun _ _ _ _ _ => pts_nil) (fun _ _ _ _ _ => (pe_c c_law_number hr (by first | exact Nat.le_refl _ | decide) rfl (pa_cons (pv 1) pa_nil)))) pa_nil)))
(pss_cons (ps_set (i := 8) sc_law.nd rfl (by first | exact Or.inl rfl | exact Or.inr rfl) (pe_c c_law_expression hr (by first | exact Nat.le_refl _ | decide) rfl (pa_cons (pv 1) (pa_cons (pv 2) (pa_cons (pv 3) (pa_cons pe_int pa_nil))))))
(pss_cut (ps_if (pt_cmpR op_eq (pe_op op_mod (pe_callTy call_int1 (by rfl) T.n_int bo_int (pa_cons (pe_callB call_len_seq (by rfl) T.n_len bo_len (pa_cons (pv 0) pa_nil)) pa_nil)) pe_int) pe_int (nomark _))
  (pss_one (ps_set (i := 8) sc_law.nd rfl (by first | exact Or.inl rfl | exact Or.inr rfl) (pe_tup (pa_cons pe_str (pa_cons (pe_tup (pa_cons pe_str (pa_cons (pv 8) pa_nil))) (pa_cons (pe_tup (pa_cons pe_str pa_nil)) pa_nil))))))
  pss_nil)
(pss_cons (ps_set (i := 9) sc_law.nd rfl (by first | exact Or.inl rfl | exact Or.inr rfl) (pe_c c_law_fold hr (by first | exact Nat.le_refl _ | decide) rfl (pa_cons (pv 8) (pa_cons (pv 4) pa_nil))))
(pss_cons (ps_set (i := 10) sc_law.nd rfl (by first | exact Or.inl rfl | exact Or.inr rfl) (pe_c c_fold_expression hr (by first | exact Nat.le_refl _ | decide) rfl (pa_cons (pv 8) (pa_cons (pv 4) pa_nil))))
(pss_cons (ps_if (PW.pt (pw_or (pt_not (pt_val (pe_c c_law_same hr (by first | exact Nat.le_refl _ | decide) rfl (pa_cons (pv 10) (pa_cons (pv 9) pa_nil))))) (pw_or1 (pt_not (pt_val (pe_c c_law_same hr (by first | exact Nat.le_refl _ | decide) rfl (pa_cons (pe_c c_fold_expression hr (by first | exact Nat.le_refl _ | decide) rfl (pa_cons (pv 10) (pa_cons (pv 4) pa_nil))) (pa_cons (pv 9) pa_nil))))))))
  (pss_one (ps_ret pe_bl))
  pss_nil)
(pss_cons (ps_for PassesOwn.never rfl (pi_range1 (by rfl) T.n_range (pa_cons pe_int pa_nil)) (pg_name (i := 11) sc_law.nd rfl (by first | exact Or.inl rfl | exact Or.inr rfl))
  (pss_cons (ps_set (i := 12) sc_law.nd rfl (by first | exact Or.inl rfl | exact Or.inr rfl) pe_dnewK)
  (pss_cons (ps_for PassesOwn.never rfl (pi_list (pv 2)) (pg_name (i := 5) sc_law.nd rfl (by first | exact Or.inl rfl | exact Or.inr rfl))
    (pss_one (ps_dput hu (pv 12) (pv 5) (pe_ix ix_tup (pe_tup (pa_cons (pe_c c_law_number hr (by first | exact Nat.le_refl _ | decide) rfl (pa_cons (pv 1) pa_nil)) (pa_cons (pe_c c_law_draw hr (by first | exact Nat.le_refl _ | decide) rfl (pa_cons (pv 1) (pa_cons pe_int pa_nil))) (pa_cons pe_int pa_nil)))) (pv 11) (fun _ _ => rfl)) (by rfl))))
  (pss_cons (ps_set (i := 13) sc_law.nd rfl (by first | exact Or.inl rfl | exact Or.inr rfl) (pe_c c_law_value hr (by first | exact Nat.le_refl _ | decide) rfl (pa_cons (pv 8) (pa_cons (pv 12) (pa_cons (pv 4) (pa_cons (pv 7) pa_nil))))))
  (pss_one (ps_if (PW.pt (pw_or (pt_not (pt_val (pe_c c_law_same hr (by first | exact Nat.le_refl _ | decide) rfl (pa_cons (pe_c c_value_of hr (by first | exact Nat.le_refl _ | decide) rfl (pa_cons (pv 10) (pa_cons (pv 12) (pa_cons (pv 4) (pa_cons (pv 7) pa_nil))))) (pa_cons (pv 13) pa_nil))))) (pw_or1 (pt_cmpR op_ne (pe_c c_law_value hr (by first | exact Nat.le_refl _ | decide) rfl (pa_cons (pv 9) (pa_cons (pv 12) (pa_cons (pv 4) (pa_cons (pv 7) pa_nil))))) (pv 13) (nomark _)))))
    (pss_one (ps_ret pe_bl))
    pss_nil))))))
(pss_one (ps_ret (pe_and (pe_c c_law_same hr (by first | exact Nat.le_refl _ | decide) rfl (pa_cons (pe_lc (own := [("name", 5)]) (g := gName 5) (tt := tYes) rfl sc_law.nd (pi_list (pv 3)) (blkOk_by (N := ["script", "pool", "names", "picks", "on", "name", "kept", "seen", "plain", "due", "actual", "k", "table", "value"]) (sc := fnScope s_law) (by decide +kernel)) (fun _ _ _ _ _ => pg_name (i := 5) sc_law.nd rfl (Or.inl rfl)) (fun _ _ _ _ _ => pts_nil) (fun _ _ _ _ _ => (pe_dget2 hu (pv 4) (pv 5) pe_non ⟨rfl, by rfl, rfl, rfl⟩))) (pa_cons (pv 6) pa_nil))) (pe_one (pe_cmpR op_eq (pe_callB call_lenD (by rfl) T.n_len bo_len (pa_cons (pv 4) pa_nil)) (pe_callB call_len_seq (by rfl) T.n_len bo_len (pa_cons (pv 3) pa_nil)) (nomark _))))))))))))))))))), ?_⟩
    refine ⟨_, rfl, a, ns, 40, rfl, hS, fun p q H1 hp1 P1 K1 => ?_⟩
    refine ⟨_, rfl, p, q, ns, 12, rfl, by decide, by decide, P1, fun la xs H2 hla0 hla hxl hxnd hxo hxs P2 K2 => ?_⟩
    have nla := P1.nep hla0
    refine ⟨_, rfl, p, q, ns, 6, rfl, by decide, by decide, P2, fun lb ys H3 hlb0 hlb hyl hynd hyo hys P3 K3 => ?_⟩
    have nlb := P2.nep hlb0
    have hla3 := K3 _ _ hla (by simpa using nla)
    have hxl' : xs.length ≤ 12 := hxl
    have hyl' : ys.length ≤ 6 := hyl
    refine fun od hod => ?_
    have nod := P3.nep hod
    have nodq := P3.neq hod
    -- the dict of the options
    refine ⟨_, rfl, lb, rfl, ⟨_, SqL.of ((Keep.new (W := []) hod) _ _ hlb (by simp))⟩, for_list (K := K) (a := lb) (xs := ys.map V.str) (fun i σ H' => ∃ (o5 : Option V) (kvs : List (Key × V)) (on : Str → Bool), σ = [some (.ref a), some (.ref p), some (.ref la), some (.ref lb), some (.ref od), o5, none, none, none, none, none, none, none, none] ∧
      Pool H' p q ns ∧ Keep [p] H3 H' ∧ H' od = some (.dK kvs) ∧ kvs.length = i ∧ ∀ x, valV kvs (.inr x) = if x ∈ ys.take i then some (.bl (on x)) else none)
      ⟨none, [], fun _ => false, rfl, P3.new hod, Keep.new hod, upd_same, rfl, fun x => by simp [valV_nil]⟩ (fun i σ H' _ ⟨_, _, _, _, _, kk, _⟩ => SqL.of (kk _ _ hlb (by simpa using nlb))) ?_ ?_⟩
    · rintro i x σ H' hi ⟨o5, kvs, on, rfl, P4, K4, hkv, hlen, hval⟩
      obtain ⟨z, hil, rfl, hz, htk, hzm⟩ := str_mem hi
      have hnt := nodup_take hynd hil htk
      refine ⟨_, rfl, p, q, ns, 2, rfl, by decide, by decide, P4, fun r H5 _ _ P5 K5 => ?_⟩
      have hkv5 := K5 _ _ hkv (by simpa using nod)
      refine ⟨rfl, _, rfl, _, rfl, od, _, rfl, DPut.k (k := .inr z) hkv5 (smallL (by omega)), ?_⟩
      have hno : valV kvs (.inr z) = none := by rw [hval z, if_neg hnt]
      refine ⟨_, _, fun x => if x = z then decide (V.int r = V.int 1) else on x, rfl, P5.own nod nodq, (K4.trans K5).then_own hod, upd_same, ?_, fun x => ?_⟩
      · rw [putK_new _ hno, List.length_append, hlen]; rfl
      · rw [valV_put]
        dsimp only
        by_cases e : x = z
        · subst e
          rw [if_pos rfl, if_pos (by rw [htk]; simp), if_pos rfl]
        · rw [if_neg (fun q => e (Sum.inr.inj q)), if_neg e, hval x, htk]
          by_cases e2 : x ∈ ys.take i
          · rw [if_pos e2, if_pos (List.mem_append_left _ e2)]
          · rw [if_neg e2, if_neg (by rw [List.mem_append, List.mem_singleton]; rintro (q | q) <;> contradiction)]
    · rintro σ H4 ⟨o5, kvs, on, rfl, P4, K4, hkv, hlen, hval⟩
      rw [List.length_map] at hlen hval
      rw [List.take_length] at hval
      have hval' : ∀ x ∈ ys, valV kvs (.inr x) = some (.bl (on x)) := fun x hx => by rw [hval x, if_pos hx]
      have D4 : DcB H4 od ys on := ⟨kvs, hkv, hval'⟩
      have hla4 := K4 _ _ hla3 (by simpa using nla)
      have hlb4 := K4 _ _ hlb (by simpa using nlb)
      -- kept
      refine ⟨_, rfl, lb, rfl, ⟨_, SqL.of hlb4⟩, fun kl hkl => ?_⟩
      refine lc_list (K := K) (a := lb) (xs := ys.map V.str) (fun i H' => H' kl = some (.lst ((ys.take i).map fun x => V.bl (on x))) ∧ Keep [] H4 H')
        ⟨upd_same, Keep.new hkl⟩ (fun i H' _ ⟨_, kk⟩ => SqL.of (kk _ _ hlb4 (by simp))) ?_ ?_
      · rintro i x H' hi ⟨hD, kk⟩
        obtain ⟨z, hil, rfl, hz, htk, hzm⟩ := str_mem hi
        refine ⟨rfl, yes_then ⟨_, rfl, _, rfl, od, _, rfl, (D4.keep kk).get hzm, _, hD, by rw [List.length_map, List.length_take]; exact smallL (by omega), ?_, kk.then_own hkl⟩⟩
        rw [htk, List.map_append]; exact upd_same
      rintro H5 ⟨hkl5, K5⟩
      rw [List.length_map, List.take_length] at hkl5
      have P5 := P4.keep0 K5
      have nkl := P4.nep hkl
      have nklq := P4.neq hkl
      -- seen
      refine ⟨_, rfl, p, q, ns, 5, rfl, by decide, by decide, P5, fun r H6 r0 r1 P6 K6 => ?_⟩
      refine ⟨r, rfl, by omega, by omega, fun L hL => ?_⟩
      have nLp : L ≠ p := P6.nep hL
      have nLq : L ≠ q := P6.neq hL
      refine lc_range (n := r.toNat) (fun i H' => ∃ seen : List Int, H' L = some (.lst (seen.map V.int)) ∧ seen.length = i ∧ SeenOk seen ∧ Pool H' p q ns ∧ Keep [p] H6 H')
        ⟨[], upd_same, rfl, (fun _ q => by cases q), P6.new hL, Keep.new hL⟩ ?_ ?_
      · rintro i H' hi ⟨seen, hD, hlen, hok, P7, K7⟩
        refine ⟨rfl, yes_then ⟨_, rfl, p, q, ns, rfl, P7, fun z H8 z0 z1 P8 K8 => ?_⟩⟩
        have g := K8 _ _ hD (by simpa using nLp)
        refine ⟨_, g, by rw [List.length_map]; exact smallL (by omega), seen ++ [z], by rw [List.map_append]; exact upd_same, by simp [hlen], ?_, P8.own nLp nLq, (K7.trans K8).then_own hL⟩
        intro y hy
        rcases List.mem_append.mp hy with q | q
        · exact hok y q
        · rw [List.mem_singleton.mp q]; exact ⟨z0, z1⟩
      rintro H7 ⟨seen, hD, hlen7, hsok, P7, K7⟩
      refine ⟨_, _, rfl, .inl ⟨SqL.of hD, fun st hst => ?_⟩⟩
      have nst := P7.nep hst
      have K57 : Keep [p] H5 (upd H7 st (.tup (seen.map V.int))) := (K6.trans K7).then_new hst
      have K47 : Keep [p] H4 (upd H7 st (.tup (seen.map V.int))) := (K5.mono (by simp)).trans K57
      have W7 : LW (upd H7 st (.tup (seen.map V.int))) p q la lb od kl st ns xs ys on seen :=
        ⟨P7.new hst, K47 _ _ hla4 (by simpa using nla), K47 _ _ hlb4 (by simpa using nlb), ⟨kvs, K47 _ _ hkv (by simpa using nod), hlen, hval'⟩, K57 _ _ hkl5 (by simpa using nkl), upd_same, nla, nlb, nod, nkl, nst⟩
      -- since the start
      have K0 : Keep [] H (upd H7 st (.tup (seen.map V.int))) := fun b o e _ => by
        have hbp : b ≠ p := ne_of_none e hp1
        have e1 := K1 _ _ e (by simp)
        have e2 := K2 _ _ e1 (by simpa using hbp)
        have e3 := K3 _ _ e2 (by simpa using hbp)
        exact K47 _ _ (K4 _ _ e3 (by simpa using hbp)) (by simpa using hbp)
      have hS7 := K0.seqL hS (by simp)
      generalize upd H7 st (.tup (seen.map V.int)) = H8 at W7 hS7 K0
      refine ⟨_, rfl, _, rfl, _, rfl, p, q, la, lb, ns, xs, ys, 10, rfl, by decide, by decide, W7.P, W7.a, W7.na, W7.b, W7.nb, by omega, by omega, fun v e H9 E9 o9 d9 P9 K9 => ?_⟩
      have W9 := W7.keep P9 K9
      have d9' : e.dep ≤ 10 := d9
      -- under view
      refine ⟨fun σ H' => ∃ v e, σ = [some (.ref a), some (.ref p), some (.ref la), some (.ref lb), some (.ref od), o5, some (.ref kl), some (.ref st), some v, none, none, none, none, none] ∧ EV K H' v e ∧ e.Ok xs ys ∧ e.dep ≤ 12 ∧ LW H' p q la lb od kl st ns xs ys on seen, ?_, ?_⟩
      · have hS9 : SqL K H9 a (ns.map V.int) ∨ SqT K H9 a (ns.map V.int) := .inl (by
          refine Keep.seqL (W := []) (fun b o e _ => ?_) hS (by simp)
          have hbp : b ≠ p := ne_of_none e hp1
          exact K9 _ _ (K0 _ _ e (by simp)) (by simpa using hbp))
        refine ⟨_, rfl, _, _, rfl, hS9, .inl ⟨_, rfl, _, _, rfl, rfl, (by show (0 : Int) < 3; decide), rfl, _, rfl, iteD (fun _ => ?_) (fun _ => ⟨v, e, rfl, E9, o9, by omega, W9⟩)⟩⟩
        refine ⟨_, rfl, by show 2 ≤ sizeLine; decide, fun t1 n1 => ⟨by show 1 ≤ sizeLine; decide, fun t2 n2 => ⟨by show 3 ≤ sizeLine; decide, fun t3 n3 => ?_⟩⟩⟩
        have KA := ((Keep.new (W := []) (o := .tup [.str "view", v]) n1).then_new (o := .tup [.str "long"]) n2).then_new (o := .tup [.str "+", .ref t1, .ref t2]) n3
        refine ⟨.ref t3, .op "+" (.view e) .long, rfl, .op (.inl upd_same) (.view (.inl ?_) (E9.tk KA.tk)) (.long (.inl ?_)), ⟨by decide +kernel, o9, trivial⟩, by show max (e.dep + 1) 1 + 1 ≤ 12; omega, W9.keep0 KA⟩
        · have e12 : t1 ≠ t2 := ne_of_none (H := upd H9 t1 (.tup [.str "view", v])) upd_same n2
          have e13 : t1 ≠ t3 := ne_of_none (H := upd (upd H9 t1 (.tup [.str "view", v])) t2 (.tup [.str "long"])) (by rw [upd_ne e12]; exact upd_same) n3
          rw [upd_ne e13, upd_ne e12]; exact upd_same
        · have e23 : t2 ≠ t3 := ne_of_none (H := upd (upd H9 t1 (.tup [.str "view", v])) t2 (.tup [.str "long"])) upd_same n3
          rw [upd_ne e23]; exact upd_same
      rintro σ H10 ⟨v, e, rfl, E10, o10, d10, W10⟩
      have fo := fold_ok (on := on) e o10
      refine ⟨_, rfl, _, rfl, v, od, e, xs, ys, on, rfl, E10, o10, d10, by decide, hxo, hyo, W10.dc, fun vd H11 K11 E11 => ?_⟩
      have W11 := W10.keep0 K11
      refine ⟨_, rfl, _, rfl, v, od, e, xs, ys, on, rfl, E10.tk K11.tk, o10, d10, by decide, hxo, hyo, W11.dc, fun va H12 K12 E12 => ?_⟩
      have W12 := W11.keep0 K12
      have Ed12 := E11.tk K12.tk
      refine ⟨_, rfl, _, rfl, _, _, rfl, same_ev E12 Ed12 (by omega), _, rfl, iteF ?_⟩
      refine ⟨_, rfl, _, rfl, va, od, fold on e, xs, ys, on, rfl, E12, fo.1, by omega, by decide, hxo, hyo, W12.dc, fun vf H13 K13 E13 => ?_⟩
      rw [fold_fix e o10] at E13
      have W13 := W12.keep0 K13
      have Ed13 := Ed12.tk K13.tk
      have Ea13 := E12.tk K13.tk
      have Ep13 := (E10.tk K11.tk).tk (K12.trans K13).tk
      refine ⟨_, rfl, _, _, rfl, same_ev E13 Ed13 (by omega), _, rfl, iteF ?_⟩
      -- three tables
      refine ⟨3, rfl, by decide, by decide, for_range (lo := 0) (n := 3) (fun i σ H' => (∃ o1 o2 o3 o4 : Option V, σ = [some (.ref a), some (.ref p), some (.ref la), some (.ref lb), some (.ref od), o1, some (.ref kl), some (.ref st), some v, some vd, some va, o2, o3, o4]) ∧
        LW H' p q la lb od kl st ns xs ys on seen ∧ EV K H' v e ∧ EV K H' vd (fold on e) ∧ EV K H' va (fold on e)) ⟨⟨_, _, _, _, rfl⟩, W13, Ep13, Ed13, Ea13⟩ ?_ ?_⟩
      · rintro i σ H14 hi ⟨⟨o1, o2, o3, o4, rfl⟩, W14, Ep14, Ed14, Ea14⟩
        have e0 : (0 : Int) + (i : Int) = (i : Int) := by omega
        rw [e0]
        refine fun td htd => ?_
        have ntd := W14.P.nep htd
        have ntdq := W14.P.neq htd
        have nla14 : la ≠ td := ne_of_none W14.a htd
        refine ⟨_, rfl, la, rfl, ⟨_, SqL.of (by rw [upd_ne nla14]; exact W14.a)⟩, for_list (K := K) (a := la) (xs := xs.map V.str) (fun j σ H' => ∃ (o5 : Option V) (kvs : List (Key × V)) (tb : Str → Int), σ = [some (.ref a), some (.ref p), some (.ref la), some (.ref lb), some (.ref od), o5, some (.ref kl), some (.ref st), some v, some vd, some va, some (.int (i : Int)), some (.ref td), o4] ∧
          Pool H' p q ns ∧ Keep [p] H14 H' ∧ H' td = some (.dK kvs) ∧ kvs.length ≤ j ∧ ∀ x ∈ xs.take j, valV kvs (.inr x) = some (.int (tb x)) ∧ 0 ≤ tb x ∧ tb x < 65536)
          ⟨o1, [], fun _ => 0, rfl, W14.P.new htd, Keep.new htd, upd_same, Nat.le_refl _, fun x hx => by simp at hx⟩ (fun j σ H' _ ⟨_, _, _, _, _, kk, _⟩ => SqL.of (kk _ _ W14.a (by simpa using W14.na))) ?_ ?_⟩
        · rintro j x σ H' hj ⟨o5, kvs, tb, rfl, P15, K15, hkv, hlen, hval⟩
          obtain ⟨z, hil, rfl, hz, htk, hzm⟩ := str_mem hj
          refine ⟨_, rfl, p, q, ns, rfl, P15, fun r1 H16 r10 r11 P16 K16 => ?_⟩
          refine ⟨_, rfl, p, q, ns, 3, rfl, by decide, by decide, P16, fun r2 H17 r20 r21 P17 K17 => ?_⟩
          refine ⟨by show 3 ≤ sizeLine; decide, fun t nt => ?_⟩
          have K18 : Keep [p] H' (upd H17 t (.tup [.int r1, .int r2, .int 65535])) := (K16.trans K17).then_new nt
          have hkv18 := K18 _ _ hkv (by simpa using ntd)
          obtain ⟨y, hy, y0, y1⟩ : ∃ y : Int, ([.int r1, .int r2, .int 65535] : List V)[i]? = some (.int y) ∧ 0 ≤ y ∧ y < 65536 := by
            match i, hi with
            | 0, _ => exact ⟨_, rfl, r10, r11⟩
            | 1, _ => exact ⟨_, rfl, r20, by omega⟩
            | 2, _ => exact ⟨_, rfl, by decide, by decide⟩
          refine ⟨_, rfl, _, _, _, _, rfl, rfl, SqT.of upd_same, atI_nat hy, _, rfl, _, rfl, td, _, rfl, DPut.k (k := .inr z) hkv18 (smallL (by omega)), ?_⟩
          refine ⟨_, _, fun x => if x = z then y else tb x, rfl, (P17.new nt).own ntd ntdq, (K15.trans K18).then_own htd, upd_same, ?_, fun x hx => ?_⟩
          · have := putK_le kvs (.inr z) (.int y)
            omega
          · rw [valV_put]
            dsimp only
            by_cases e : x = z
            · subst e
              rw [if_pos rfl, if_pos rfl]
              exact ⟨rfl, y0, y1⟩
            · rw [if_neg (fun q => e (Sum.inr.inj q)), if_neg e]
              rw [htk, List.mem_append, List.mem_singleton] at hx
              exact hval x (hx.elim id fun q => absurd q e)
        · rintro σ H15 ⟨o5, kvs, tb, rfl, P15, K15, hkv, hlen, hval⟩
          rw [List.length_map, List.take_length] at hval
          have W15 := W14.keep P15 K15
          have tk15 := W14.P.tk K15
          have Ep15 := Ep14.tk tk15
          have Ed15 := Ed14.tk tk15
          have Ea15 := Ea14.tk tk15
          have VE : VEnv K H15 td od st xs ys tb on seen := ⟨⟨kvs, hkv, fun x hx => (hval x hx).1⟩, W15.dc, SqT.of W15.s, fun x hx => (hval x hx).2, hsok, by omega⟩
          have fv := fold_val (on := on) VE.tok hsok e o10
          refine ⟨_, rfl, _, rfl, _, rfl, _, rfl, v, td, od, st, e, xs, ys, tb, on, seen, rfl, Ep15, o10, d10, VE, ?_⟩
          refine ⟨_, rfl, _, rfl, _, rfl, _, rfl, va, td, od, st, fold on e, xs, ys, tb, on, seen, rfl, Ea15, fo.1, by omega, VE, ?_⟩
          rw [fv]
          refine ⟨_, rfl, _, _, rfl, sameV_atom (.inr (.inl ⟨_, rfl⟩)), _, rfl, iteF ?_⟩
          refine ⟨_, rfl, _, rfl, _, rfl, _, rfl, vd, td, od, st, fold on e, xs, ys, tb, on, seen, rfl, Ed15, fo.1, by omega, VE, ?_⟩
          rw [fv]
          exact ⟨_, rfl, rfl, _, rfl, iteNF rfl ⟨⟨_, _, _, _, rfl⟩, W15, Ep15, Ed15, Ea15⟩⟩
      · rintro σ H14 ⟨⟨o1, o2, o3, o4, rfl⟩, W14, _, _, _⟩
        refine ⟨_, rfl, lb, rfl, ⟨_, SqL.of W14.b⟩, fun gl hgl => ?_⟩
        refine lc_list (K := K) (a := lb) (xs := ys.map V.str) (fun i H' => H' gl = some (.lst ((ys.take i).map fun x => V.bl (on x))) ∧ Keep [] H14 H')
          ⟨upd_same, Keep.new hgl⟩ (fun i H' _ ⟨_, kk⟩ => SqL.of (kk _ _ W14.b (by simp))) ?_ ?_
        · rintro i x H' hi ⟨hD, kk⟩
          obtain ⟨z, hil, rfl, hz, htk, hzm⟩ := str_mem hi
          have W' := W14.keep0 kk
          obtain ⟨kvs', o1', _, _⟩ := W'.o
          refine ⟨rfl, yes_then ⟨_, rfl, od, rfl, .inl ⟨_, .inl o1'⟩, _, rfl, _, W'.dc.get hzm, _, hD, by rw [List.length_map, List.length_take]; exact smallL (by omega), ?_, kk.then_own hgl⟩⟩
          rw [htk, List.map_append]; exact upd_same
        · rintro H15 ⟨hgl5, K15⟩
          rw [List.length_map, List.take_length] at hgl5
          have W15 := W14.keep0 K15
          obtain ⟨kvs', o1', o2', _⟩ := W15.o
          refine ⟨_, rfl, _, _, rfl, same_bools (n := 11) (fun x hx => by obtain ⟨y, _, rfl⟩ := List.mem_map.mp hx; exact ⟨_, rfl⟩) hgl5 W15.l (by rw [List.length_map]; omega), ?_⟩
          refine ⟨_, rfl, iteT ⟨_, rfl, od, kvs', rfl, o1', _, rfl, _, _, rfl, .inl (SqL.of W15.b), rfl, ?_⟩⟩
          rw [decide_eq_true (by rw [List.length_map, o2'])]
          exact k _
end

theorem all_mk {l : PySem.W.OpenLaw} {w : World} {K : PySem.W.Frag} {h : Heap} {mg : Str → Option Value} {fa : Addr} (X : K.In h) (G : h.Ns mainGlobals mg) (hfa : mg "law" = some (.ref fa))
    {f_law_pool : Addr} {od_law_pool an_law_pool : Option Addr} {sl_law_pool : Array (Option Value)} {oc_law_pool kV_law_pool dc_law_pool pm_law_pool cd_law_pool ct_law_pool : Value}
    {f_law_draw : Addr} {od_law_draw an_law_draw : Option Addr} {sl_law_draw : Array (Option Value)} {oc_law_draw kV_law_draw dc_law_draw pm_law_draw cd_law_draw ct_law_draw : Value}
    {f_law_spend : Addr} {od_law_spend an_law_spend : Option Addr} {sl_law_spend : Array (Option Value)} {oc_law_spend kV_law_spend dc_law_spend pm_law_spend cd_law_spend ct_law_spend : Value}
    {f_law_few : Addr} {od_law_few an_law_few : Option Addr} {sl_law_few : Array (Option Value)} {oc_law_few kV_law_few dc_law_few pm_law_few cd_law_few ct_law_few : Value}
    {f_law_number : Addr} {od_law_number an_law_number : Option Addr} {sl_law_number : Array (Option Value)} {oc_law_number kV_law_number dc_law_number pm_law_number cd_law_number ct_law_number : Value}
    {f_law_same : Addr} {od_law_same an_law_same : Option Addr} {sl_law_same : Array (Option Value)} {oc_law_same kV_law_same dc_law_same pm_law_same cd_law_same ct_law_same : Value}
    {f_law_keys : Addr} {od_law_keys an_law_keys : Option Addr} {sl_law_keys : Array (Option Value)} {oc_law_keys kV_law_keys dc_law_keys pm_law_keys cd_law_keys ct_law_keys : Value}
    {f_law_name : Addr} {od_law_name an_law_name : Option Addr} {sl_law_name : Array (Option Value)} {oc_law_name kV_law_name dc_law_name pm_law_name cd_law_name ct_law_name : Value}
    {f_law_names : Addr} {od_law_names an_law_names : Option Addr} {sl_law_names : Array (Option Value)} {oc_law_names kV_law_names dc_law_names pm_law_names cd_law_names ct_law_names : Value}
    {f_combine : Addr} {od_combine an_combine : Option Addr} {sl_combine : Array (Option Value)} {oc_combine kV_combine dc_combine pm_combine cd_combine ct_combine : Value}
    {f_value_of : Addr} {od_value_of an_value_of : Option Addr} {sl_value_of : Array (Option Value)} {oc_value_of kV_value_of dc_value_of pm_value_of cd_value_of ct_value_of : Value}
    {T_value_of E_value_of : Addr} {oT_value_of : Value} {dT_value_of : Option Addr} {nT_value_of : Nat} {slT_value_of : Array (Option Value)}
    {f_fold_pair : Addr} {od_fold_pair an_fold_pair : Option Addr} {sl_fold_pair : Array (Option Value)} {oc_fold_pair kV_fold_pair dc_fold_pair pm_fold_pair cd_fold_pair ct_fold_pair : Value}
    {f_fold_expression : Addr} {od_fold_expression an_fold_expression : Option Addr} {sl_fold_expression : Array (Option Value)} {oc_fold_expression kV_fold_expression dc_fold_expression pm_fold_expression cd_fold_expression ct_fold_expression : Value}
    {f_law_combine : Addr} {od_law_combine an_law_combine : Option Addr} {sl_law_combine : Array (Option Value)} {oc_law_combine kV_law_combine dc_law_combine pm_law_combine cd_law_combine ct_law_combine : Value}
    {f_law_expression : Addr} {od_law_expression an_law_expression : Option Addr} {sl_law_expression : Array (Option Value)} {oc_law_expression kV_law_expression dc_law_expression pm_law_expression cd_law_expression ct_law_expression : Value}
    {f_law_fold_pair : Addr} {od_law_fold_pair an_law_fold_pair : Option Addr} {sl_law_fold_pair : Array (Option Value)} {oc_law_fold_pair kV_law_fold_pair dc_law_fold_pair pm_law_fold_pair cd_law_fold_pair ct_law_fold_pair : Value}
    {f_law_fold : Addr} {od_law_fold an_law_fold : Option Addr} {sl_law_fold : Array (Option Value)} {oc_law_fold kV_law_fold dc_law_fold pm_law_fold cd_law_fold ct_law_fold : Value}
    {f_law_value : Addr} {od_law_value an_law_value : Option Addr} {sl_law_value : Array (Option Value)} {oc_law_value kV_law_value dc_law_value pm_law_value cd_law_value ct_law_value : Value}
    {f_law : Addr} {od_law an_law : Option Addr} {sl_law : Array (Option Value)} {oc_law kV_law dc_law pm_law cd_law ct_law : Value}
    {t_GREATEST : Tok}
    {T_SIGNS : Addr} {d_SIGNS : Option Addr} {nn_SIGNS : Nat} {sl_SIGNS : Array (Option Value)} {t_SIGNS0 t_SIGNS1 t_SIGNS2 t_SIGNS3 t_SIGNS4 t_SIGNS5 t_SIGNS6 : Tok}
    {T_ZERO : Addr} {d_ZERO : Option Addr} {nn_ZERO : Nat} {sl_ZERO : Array (Option Value)} {t_ZERO0 t_ZERO1 : Tok}
    {T_ONE : Addr} {d_ONE : Option Addr} {nn_ONE : Nat} {sl_ONE : Array (Option Value)} {t_ONE0 t_ONE1 : Tok}
    (a_law_pool : PySem.W.nsIn K mainGlobals "_law_pool" = some (some (.ref f_law_pool))) (l_law_pool : K.lookup f_law_pool = some ⟨oc_law_pool, od_law_pool, .func (PySem.W.fnOf "_law_pool" "_law_pool" (fnArgs s_law_pool) (fnBody s_law_pool) (fnScope s_law_pool) .none kV_law_pool dc_law_pool pm_law_pool an_law_pool cd_law_pool ct_law_pool), sl_law_pool⟩) (c_law_pool : PySem.W.codeIn K cd_law_pool "_law_pool" = true) (k_law_pool : PySem.W.keepIn K (.ref f_law_pool) = true)
    (a_law_draw : PySem.W.nsIn K mainGlobals "_law_draw" = some (some (.ref f_law_draw))) (l_law_draw : K.lookup f_law_draw = some ⟨oc_law_draw, od_law_draw, .func (PySem.W.fnOf "_law_draw" "_law_draw" (fnArgs s_law_draw) (fnBody s_law_draw) (fnScope s_law_draw) .none kV_law_draw dc_law_draw pm_law_draw an_law_draw cd_law_draw ct_law_draw), sl_law_draw⟩) (c_law_draw : PySem.W.codeIn K cd_law_draw "_law_draw" = true) (k_law_draw : PySem.W.keepIn K (.ref f_law_draw) = true)
    (a_law_spend : PySem.W.nsIn K mainGlobals "_law_spend" = some (some (.ref f_law_spend))) (l_law_spend : K.lookup f_law_spend = some ⟨oc_law_spend, od_law_spend, .func (PySem.W.fnOf "_law_spend" "_law_spend" (fnArgs s_law_spend) (fnBody s_law_spend) (fnScope s_law_spend) .none kV_law_spend dc_law_spend pm_law_spend an_law_spend cd_law_spend ct_law_spend), sl_law_spend⟩) (c_law_spend : PySem.W.codeIn K cd_law_spend "_law_spend" = true) (k_law_spend : PySem.W.keepIn K (.ref f_law_spend) = true)
    (a_law_few : PySem.W.nsIn K mainGlobals "_law_few" = some (some (.ref f_law_few))) (l_law_few : K.lookup f_law_few = some ⟨oc_law_few, od_law_few, .func (PySem.W.fnOf "_law_few" "_law_few" (fnArgs s_law_few) (fnBody s_law_few) (fnScope s_law_few) .none kV_law_few dc_law_few pm_law_few an_law_few cd_law_few ct_law_few), sl_law_few⟩) (c_law_few : PySem.W.codeIn K cd_law_few "_law_few" = true) (k_law_few : PySem.W.keepIn K (.ref f_law_few) = true)
    (a_law_number : PySem.W.nsIn K mainGlobals "_law_number" = some (some (.ref f_law_number))) (l_law_number : K.lookup f_law_number = some ⟨oc_law_number, od_law_number, .func (PySem.W.fnOf "_law_number" "_law_number" (fnArgs s_law_number) (fnBody s_law_number) (fnScope s_law_number) .none kV_law_number dc_law_number pm_law_number an_law_number cd_law_number ct_law_number), sl_law_number⟩) (c_law_number : PySem.W.codeIn K cd_law_number "_law_number" = true) (k_law_number : PySem.W.keepIn K (.ref f_law_number) = true)
    (a_law_same : PySem.W.nsIn K mainGlobals "_law_same" = some (some (.ref f_law_same))) (l_law_same : K.lookup f_law_same = some ⟨oc_law_same, od_law_same, .func (PySem.W.fnOf "_law_same" "_law_same" (fnArgs s_law_same) (fnBody s_law_same) (fnScope s_law_same) .none kV_law_same dc_law_same pm_law_same an_law_same cd_law_same ct_law_same), sl_law_same⟩) (c_law_same : PySem.W.codeIn K cd_law_same "_law_same" = true) (k_law_same : PySem.W.keepIn K (.ref f_law_same) = true)
    (a_law_keys : PySem.W.nsIn K mainGlobals "_law_keys" = some (some (.ref f_law_keys))) (l_law_keys : K.lookup f_law_keys = some ⟨oc_law_keys, od_law_keys, .func (PySem.W.fnOf "_law_keys" "_law_keys" (fnArgs s_law_keys) (fnBody s_law_keys) (fnScope s_law_keys) .none kV_law_keys dc_law_keys pm_law_keys an_law_keys cd_law_keys ct_law_keys), sl_law_keys⟩) (c_law_keys : PySem.W.codeIn K cd_law_keys "_law_keys" = true) (k_law_keys : PySem.W.keepIn K (.ref f_law_keys) = true)
    (a_law_name : PySem.W.nsIn K mainGlobals "_law_name" = some (some (.ref f_law_name))) (l_law_name : K.lookup f_law_name = some ⟨oc_law_name, od_law_name, .func (PySem.W.fnOf "_law_name" "_law_name" (fnArgs s_law_name) (fnBody s_law_name) (fnScope s_law_name) .none kV_law_name dc_law_name pm_law_name an_law_name cd_law_name ct_law_name), sl_law_name⟩) (c_law_name : PySem.W.codeIn K cd_law_name "_law_name" = true) (k_law_name : PySem.W.keepIn K (.ref f_law_name) = true)
    (a_law_names : PySem.W.nsIn K mainGlobals "_law_names" = some (some (.ref f_law_names))) (l_law_names : K.lookup f_law_names = some ⟨oc_law_names, od_law_names, .func (PySem.W.fnOf "_law_names" "_law_names" (fnArgs s_law_names) (fnBody s_law_names) (fnScope s_law_names) .none kV_law_names dc_law_names pm_law_names an_law_names cd_law_names ct_law_names), sl_law_names⟩) (c_law_names : PySem.W.codeIn K cd_law_names "_law_names" = true) (k_law_names : PySem.W.keepIn K (.ref f_law_names) = true)
    (a_combine : PySem.W.nsIn K mainGlobals "combine" = some (some (.ref f_combine))) (l_combine : K.lookup f_combine = some ⟨oc_combine, od_combine, .func (PySem.W.fnOf "combine" "combine" (fnArgs s_combine) (fnBody s_combine) (fnScope s_combine) .none kV_combine dc_combine pm_combine an_combine cd_combine ct_combine), sl_combine⟩) (c_combine : PySem.W.codeIn K cd_combine "combine" = true) (k_combine : PySem.W.keepIn K (.ref f_combine) = true)
    (a_value_of : PySem.W.nsIn K mainGlobals "value_of" = some (some (.ref f_value_of))) (l_value_of : K.lookup f_value_of = some ⟨oc_value_of, od_value_of, .func (PySem.W.fnOf "value_of" "value_of" (fnArgs s_value_of) (fnBody s_value_of) (fnScope s_value_of) (.ref T_value_of) kV_value_of dc_value_of pm_value_of an_value_of cd_value_of ct_value_of), sl_value_of⟩) (c_value_of : PySem.W.codeIn K cd_value_of "value_of" = true) (k_value_of : PySem.W.keepIn K (.ref f_value_of) = true)
    (lT_value_of : K.lookup T_value_of = some ⟨oT_value_of, dT_value_of, .seq #[.ref E_value_of] nT_value_of, slT_value_of⟩)
    (a_fold_pair : PySem.W.nsIn K mainGlobals "fold_pair" = some (some (.ref f_fold_pair))) (l_fold_pair : K.lookup f_fold_pair = some ⟨oc_fold_pair, od_fold_pair, .func (PySem.W.fnOf "fold_pair" "fold_pair" (fnArgs s_fold_pair) (fnBody s_fold_pair) (fnScope s_fold_pair) .none kV_fold_pair dc_fold_pair pm_fold_pair an_fold_pair cd_fold_pair ct_fold_pair), sl_fold_pair⟩) (c_fold_pair : PySem.W.codeIn K cd_fold_pair "fold_pair" = true) (k_fold_pair : PySem.W.keepIn K (.ref f_fold_pair) = true)
    (a_fold_expression : PySem.W.nsIn K mainGlobals "fold_expression" = some (some (.ref f_fold_expression))) (l_fold_expression : K.lookup f_fold_expression = some ⟨oc_fold_expression, od_fold_expression, .func (PySem.W.fnOf "fold_expression" "fold_expression" (fnArgs s_fold_expression) (fnBody s_fold_expression) (fnScope s_fold_expression) .none kV_fold_expression dc_fold_expression pm_fold_expression an_fold_expression cd_fold_expression ct_fold_expression), sl_fold_expression⟩) (c_fold_expression : PySem.W.codeIn K cd_fold_expression "fold_expression" = true) (k_fold_expression : PySem.W.keepIn K (.ref f_fold_expression) = true)
    (a_law_combine : PySem.W.nsIn K mainGlobals "_law_combine" = some (some (.ref f_law_combine))) (l_law_combine : K.lookup f_law_combine = some ⟨oc_law_combine, od_law_combine, .func (PySem.W.fnOf "_law_combine" "_law_combine" (fnArgs s_law_combine) (fnBody s_law_combine) (fnScope s_law_combine) .none kV_law_combine dc_law_combine pm_law_combine an_law_combine cd_law_combine ct_law_combine), sl_law_combine⟩) (c_law_combine : PySem.W.codeIn K cd_law_combine "_law_combine" = true) (k_law_combine : PySem.W.keepIn K (.ref f_law_combine) = true)
    (a_law_expression : PySem.W.nsIn K mainGlobals "_law_expression" = some (some (.ref f_law_expression))) (l_law_expression : K.lookup f_law_expression = some ⟨oc_law_expression, od_law_expression, .func (PySem.W.fnOf "_law_expression" "_law_expression" (fnArgs s_law_expression) (fnBody s_law_expression) (fnScope s_law_expression) .none kV_law_expression dc_law_expression pm_law_expression an_law_expression cd_law_expression ct_law_expression), sl_law_expression⟩) (c_law_expression : PySem.W.codeIn K cd_law_expression "_law_expression" = true) (k_law_expression : PySem.W.keepIn K (.ref f_law_expression) = true)
    (a_law_fold_pair : PySem.W.nsIn K mainGlobals "_law_fold_pair" = some (some (.ref f_law_fold_pair))) (l_law_fold_pair : K.lookup f_law_fold_pair = some ⟨oc_law_fold_pair, od_law_fold_pair, .func (PySem.W.fnOf "_law_fold_pair" "_law_fold_pair" (fnArgs s_law_fold_pair) (fnBody s_law_fold_pair) (fnScope s_law_fold_pair) .none kV_law_fold_pair dc_law_fold_pair pm_law_fold_pair an_law_fold_pair cd_law_fold_pair ct_law_fold_pair), sl_law_fold_pair⟩) (c_law_fold_pair : PySem.W.codeIn K cd_law_fold_pair "_law_fold_pair" = true) (k_law_fold_pair : PySem.W.keepIn K (.ref f_law_fold_pair) = true)
    (a_law_fold : PySem.W.nsIn K mainGlobals "_law_fold" = some (some (.ref f_law_fold))) (l_law_fold : K.lookup f_law_fold = some ⟨oc_law_fold, od_law_fold, .func (PySem.W.fnOf "_law_fold" "_law_fold" (fnArgs s_law_fold) (fnBody s_law_fold) (fnScope s_law_fold) .none kV_law_fold dc_law_fold pm_law_fold an_law_fold cd_law_fold ct_law_fold), sl_law_fold⟩) (c_law_fold : PySem.W.codeIn K cd_law_fold "_law_fold" = true) (k_law_fold : PySem.W.keepIn K (.ref f_law_fold) = true)
    (a_law_value : PySem.W.nsIn K mainGlobals "_law_value" = some (some (.ref f_law_value))) (l_law_value : K.lookup f_law_value = some ⟨oc_law_value, od_law_value, .func (PySem.W.fnOf "_law_value" "_law_value" (fnArgs s_law_value) (fnBody s_law_value) (fnScope s_law_value) .none kV_law_value dc_law_value pm_law_value an_law_value cd_law_value ct_law_value), sl_law_value⟩) (c_law_value : PySem.W.codeIn K cd_law_value "_law_value" = true) (k_law_value : PySem.W.keepIn K (.ref f_law_value) = true)
    (a_law : PySem.W.nsIn K mainGlobals "law" = some (some (.ref f_law))) (l_law : K.lookup f_law = some ⟨oc_law, od_law, .func (PySem.W.fnOf "law" "law" (fnArgs s_law) (fnBody s_law) (fnScope s_law) .none kV_law dc_law pm_law an_law cd_law ct_law), sl_law⟩) (c_law : PySem.W.codeIn K cd_law "law" = true) (k_law : PySem.W.keepIn K (.ref f_law) = true)
    (z_GREATEST : PySem.W.nsIn K mainGlobals "GREATEST" = some (some (.int 65535 t_GREATEST)))
    (z_SIGNS : PySem.W.nsIn K mainGlobals "SIGNS" = some (some (.ref T_SIGNS)))
    (lT_SIGNS : K.lookup T_SIGNS = some ⟨.type "tuple", d_SIGNS, .seq #[.str "+" t_SIGNS0, .str "-" t_SIGNS1, .str "*" t_SIGNS2, .str "/" t_SIGNS3, .str "mod" t_SIGNS4, .str "<" t_SIGNS5, .str "=" t_SIGNS6] nn_SIGNS, sl_SIGNS⟩)
    (z_ZERO : PySem.W.nsIn K mainGlobals "ZERO" = some (some (.ref T_ZERO)))
    (lT_ZERO : K.lookup T_ZERO = some ⟨.type "tuple", d_ZERO, .seq #[.str "number" t_ZERO0, .int (0) t_ZERO1] nn_ZERO, sl_ZERO⟩)
    (z_ONE : PySem.W.nsIn K mainGlobals "ONE" = some (some (.ref T_ONE)))
    (lT_ONE : K.lookup T_ONE = some ⟨.type "tuple", d_ONE, .seq #[.str "number" t_ONE0, .int (1) t_ONE1] nn_ONE, sl_ONE⟩)
    (z_bool : PySem.W.nsIn K mainGlobals "bool" = some none)
    (z_int : PySem.W.nsIn K mainGlobals "int" = some none)
    (z_isinstance : PySem.W.nsIn K mainGlobals "isinstance" = some none)
    (z_len : PySem.W.nsIn K mainGlobals "len" = some none)
    (z_list : PySem.W.nsIn K mainGlobals "list" = some none)
    (z_max : PySem.W.nsIn K mainGlobals "max" = some none)
    (z_min : PySem.W.nsIn K mainGlobals "min" = some none)
    (z_range : PySem.W.nsIn K mainGlobals "range" = some none)
    (z_str : PySem.W.nsIn K mainGlobals "str" = some none)
    (z_tuple : PySem.W.nsIn K mainGlobals "tuple" = some none)
    : ∃ fd : FuncData, (∀ (s : Shared) (v : Value), BindsTo s fd ⟨[v], []⟩ [("script", v)]) ∧ ∀ base : Heap, K.In base → base.Ns mainGlobals mg → FnOk l.prog w K mg base C8.CX0 16 fa fd ["script"] (sp_law K) := by
  have e := hfa.symm.trans (PySem.W.mg_of X G a_law)
  cases e
  have T : Txt K mg T_SIGNS T_ZERO T_ONE := ⟨PySem.W.mg_none_of X G z_bool, PySem.W.mg_none_of X G z_int, PySem.W.mg_none_of X G z_isinstance, PySem.W.mg_none_of X G z_len, PySem.W.mg_none_of X G z_list, PySem.W.mg_none_of X G z_max, PySem.W.mg_none_of X G z_min, PySem.W.mg_none_of X G z_range, PySem.W.mg_none_of X G z_str, PySem.W.mg_none_of X G z_tuple, ⟨_, PySem.W.mg_of X G z_GREATEST, ⟨_, rfl⟩⟩, ⟨_, PySem.W.mg_of X G z_SIGNS, rfl⟩, fun H => .inr ⟨_, _, _, lT_SIGNS, rfl, rfl, by show 7 ≤ sizeLine; decide, .cons ⟨_, rfl⟩ (.cons ⟨_, rfl⟩ (.cons ⟨_, rfl⟩ (.cons ⟨_, rfl⟩ (.cons ⟨_, rfl⟩ (.cons ⟨_, rfl⟩ (.cons ⟨_, rfl⟩ (.nil)))))))⟩, ⟨_, PySem.W.mg_of X G z_ZERO, rfl⟩, ⟨_, _, _, lT_ZERO, rfl, rfl, by show 2 ≤ sizeLine; decide, .cons ⟨_, rfl⟩ (.cons ⟨_, rfl⟩ (.nil))⟩, ⟨_, PySem.W.mg_of X G z_ONE, rfl⟩, ⟨_, _, _, lT_ONE, rfl, rfl, by show 2 ≤ sizeLine; decide, .cons ⟨_, rfl⟩ (.cons ⟨_, rfl⟩ (.nil))⟩, True.intro⟩
  have D_law_pool : C8.Def K mg "_law_pool" s_law_pool _ _ := ⟨⟨⟨_, _, _, _, _, _, _, _, _, _, rfl, l_law_pool, c_law_pool⟩⟩, PySem.W.mg_of X G a_law_pool, k_law_pool⟩
  have b_law_pool : Binds K _ ["script", "budget"] [] := C8.Fun.binds D_law_pool.fn rfl fun _ _ _ _ _ _ us hl => match us, hl with | [_, _], _ => rfl
  have D_law_draw : C8.Def K mg "_law_draw" s_law_draw _ _ := ⟨⟨⟨_, _, _, _, _, _, _, _, _, _, rfl, l_law_draw, c_law_draw⟩⟩, PySem.W.mg_of X G a_law_draw, k_law_draw⟩
  have b_law_draw : Binds K _ ["pool", "size"] [] := C8.Fun.binds D_law_draw.fn rfl fun _ _ _ _ _ _ us hl => match us, hl with | [_, _], _ => rfl
  have D_law_spend : C8.Def K mg "_law_spend" s_law_spend _ _ := ⟨⟨⟨_, _, _, _, _, _, _, _, _, _, rfl, l_law_spend, c_law_spend⟩⟩, PySem.W.mg_of X G a_law_spend, k_law_spend⟩
  have b_law_spend : Binds K _ ["pool"] [] := C8.Fun.binds D_law_spend.fn rfl fun _ _ _ _ _ _ us hl => match us, hl with | [_], _ => rfl
  have D_law_few : C8.Def K mg "_law_few" s_law_few _ _ := ⟨⟨⟨_, _, _, _, _, _, _, _, _, _, rfl, l_law_few, c_law_few⟩⟩, PySem.W.mg_of X G a_law_few, k_law_few⟩
  have b_law_few : Binds K _ ["pool", "most"] [] := C8.Fun.binds D_law_few.fn rfl fun _ _ _ _ _ _ us hl => match us, hl with | [_, _], _ => rfl
  have D_law_number : C8.Def K mg "_law_number" s_law_number _ _ := ⟨⟨⟨_, _, _, _, _, _, _, _, _, _, rfl, l_law_number, c_law_number⟩⟩, PySem.W.mg_of X G a_law_number, k_law_number⟩
  have b_law_number : Binds K _ ["pool"] [] := C8.Fun.binds D_law_number.fn rfl fun _ _ _ _ _ _ us hl => match us, hl with | [_], _ => rfl
  have D_law_same : C8.Def K mg "_law_same" s_law_same _ _ := ⟨⟨⟨_, _, _, _, _, _, _, _, _, _, rfl, l_law_same, c_law_same⟩⟩, PySem.W.mg_of X G a_law_same, k_law_same⟩
  have b_law_same : Binds K _ ["actual", "due"] [] := C8.Fun.binds D_law_same.fn rfl fun _ _ _ _ _ _ us hl => match us, hl with | [_, _], _ => rfl
  have D_law_keys : C8.Def K mg "_law_keys" s_law_keys _ _ := ⟨⟨⟨_, _, _, _, _, _, _, _, _, _, rfl, l_law_keys, c_law_keys⟩⟩, PySem.W.mg_of X G a_law_keys, k_law_keys⟩
  have b_law_keys : Binds K _ [] [] := C8.Fun.binds D_law_keys.fn rfl fun _ _ _ _ _ _ us hl => match us, hl with | [], _ => rfl
  have D_law_name : C8.Def K mg "_law_name" s_law_name _ _ := ⟨⟨⟨_, _, _, _, _, _, _, _, _, _, rfl, l_law_name, c_law_name⟩⟩, PySem.W.mg_of X G a_law_name, k_law_name⟩
  have b_law_name : Binds K _ ["pool", "taken"] [] := C8.Fun.binds D_law_name.fn rfl fun _ _ _ _ _ _ us hl => match us, hl with | [_, _], _ => rfl
  have D_law_names : C8.Def K mg "_law_names" s_law_names _ _ := ⟨⟨⟨_, _, _, _, _, _, _, _, _, _, rfl, l_law_names, c_law_names⟩⟩, PySem.W.mg_of X G a_law_names, k_law_names⟩
  have b_law_names : Binds K _ ["pool", "most"] [] := C8.Fun.binds D_law_names.fn rfl fun _ _ _ _ _ _ us hl => match us, hl with | [_, _], _ => rfl
  have D_combine : C8.Def K mg "combine" s_combine _ _ := ⟨⟨⟨_, _, _, _, _, _, _, _, _, _, rfl, l_combine, c_combine⟩⟩, PySem.W.mg_of X G a_combine, k_combine⟩
  have b_combine : Binds K _ ["sign", "left", "right"] [] := C8.Fun.binds D_combine.fn rfl fun _ _ _ _ _ _ us hl => match us, hl with | [_, _, _], _ => rfl
  have D_value_of : C8.Def K mg "value_of" s_value_of _ _ := ⟨⟨⟨_, _, _, _, _, _, _, _, _, _, rfl, l_value_of, c_value_of⟩⟩, PySem.W.mg_of X G a_value_of, k_value_of⟩
  have FD_value_of : FunD K "value_of" "value_of" (fnArgs s_value_of) (fnBody s_value_of) (fnScope s_value_of) [.ref E_value_of] [] f_value_of _ := ⟨⟨_, _, _, _, _, _, _, _, _, _, rfl, l_value_of, c_value_of, .inr ⟨by simp, _, _, [_], _, rfl, lT_value_of, rfl, .cons rfl .nil⟩, .inl rfl⟩, k_value_of⟩
  obtain ⟨ds2_value_of, v2_value_of, b2_value_of⟩ := FD_value_of.binds1 (ps := ["expression", "table", "on", "seen"]) 4 1 (by simp) rfl (fun _ _ _ _ _ _ _ us its hu hi => match us, hu, its, hi with | [_, _, _, _], _, [_], _ => ⟨_, rfl, rfl⟩)
  have D_fold_pair : C8.Def K mg "fold_pair" s_fold_pair _ _ := ⟨⟨⟨_, _, _, _, _, _, _, _, _, _, rfl, l_fold_pair, c_fold_pair⟩⟩, PySem.W.mg_of X G a_fold_pair, k_fold_pair⟩
  have b_fold_pair : Binds K _ ["sign", "left", "right"] [] := C8.Fun.binds D_fold_pair.fn rfl fun _ _ _ _ _ _ us hl => match us, hl with | [_, _, _], _ => rfl
  have D_fold_expression : C8.Def K mg "fold_expression" s_fold_expression _ _ := ⟨⟨⟨_, _, _, _, _, _, _, _, _, _, rfl, l_fold_expression, c_fold_expression⟩⟩, PySem.W.mg_of X G a_fold_expression, k_fold_expression⟩
  have b_fold_expression : Binds K _ ["expression", "on"] [] := C8.Fun.binds D_fold_expression.fn rfl fun _ _ _ _ _ _ us hl => match us, hl with | [_, _], _ => rfl
  have D_law_combine : C8.Def K mg "_law_combine" s_law_combine _ _ := ⟨⟨⟨_, _, _, _, _, _, _, _, _, _, rfl, l_law_combine, c_law_combine⟩⟩, PySem.W.mg_of X G a_law_combine, k_law_combine⟩
  have b_law_combine : Binds K _ ["sign", "a", "b"] [] := C8.Fun.binds D_law_combine.fn rfl fun _ _ _ _ _ _ us hl => match us, hl with | [_, _, _], _ => rfl
  have D_law_expression : C8.Def K mg "_law_expression" s_law_expression _ _ := ⟨⟨⟨_, _, _, _, _, _, _, _, _, _, rfl, l_law_expression, c_law_expression⟩⟩, PySem.W.mg_of X G a_law_expression, k_law_expression⟩
  have b_law_expression : Binds K _ ["pool", "names", "picks", "deep"] [] := C8.Fun.binds D_law_expression.fn rfl fun _ _ _ _ _ _ us hl => match us, hl with | [_, _, _, _], _ => rfl
  have D_law_fold_pair : C8.Def K mg "_law_fold_pair" s_law_fold_pair _ _ := ⟨⟨⟨_, _, _, _, _, _, _, _, _, _, rfl, l_law_fold_pair, c_law_fold_pair⟩⟩, PySem.W.mg_of X G a_law_fold_pair, k_law_fold_pair⟩
  have b_law_fold_pair : Binds K _ ["sign", "a", "b"] [] := C8.Fun.binds D_law_fold_pair.fn rfl fun _ _ _ _ _ _ us hl => match us, hl with | [_, _, _], _ => rfl
  have D_law_fold : C8.Def K mg "_law_fold" s_law_fold _ _ := ⟨⟨⟨_, _, _, _, _, _, _, _, _, _, rfl, l_law_fold, c_law_fold⟩⟩, PySem.W.mg_of X G a_law_fold, k_law_fold⟩
  have b_law_fold : Binds K _ ["due", "on"] [] := C8.Fun.binds D_law_fold.fn rfl fun _ _ _ _ _ _ us hl => match us, hl with | [_, _], _ => rfl
  have D_law_value : C8.Def K mg "_law_value" s_law_value _ _ := ⟨⟨⟨_, _, _, _, _, _, _, _, _, _, rfl, l_law_value, c_law_value⟩⟩, PySem.W.mg_of X G a_law_value, k_law_value⟩
  have b_law_value : Binds K _ ["due", "table", "on", "seen"] [] := C8.Fun.binds D_law_value.fn rfl fun _ _ _ _ _ _ us hl => match us, hl with | [_, _, _, _], _ => rfl
  have F_law : C8.Fun K "law" "law" s_law _ _ := ⟨⟨_, _, _, _, _, _, _, _, _, _, rfl, l_law, c_law⟩⟩
  refine ⟨PySem.W.fnOf "law" "law" (fnArgs s_law) (fnBody s_law) (fnScope s_law) .none kV_law dc_law pm_law an_law cd_law ct_law, fun s v => .of_eq rfl, fun base _ _ => ?_⟩
  have c_law_pool := ok_law_pool (P := l.prog) (w := w) (base := base) D_law_pool b_law_pool T
  have c_law_draw := ok_law_draw (P := l.prog) (w := w) (base := base) D_law_draw b_law_draw T
  have c_law_few := ok_law_few D_law_few b_law_few T c_law_draw
  have c_law_number := ok_law_number D_law_number b_law_number T c_law_draw
  have c_law_spend := ok_law_spend (P := l.prog) (w := w) (base := base) D_law_spend b_law_spend T (k := 0)
  have c_law_keys := ok_law_keys (P := l.prog) (w := w) (base := base) D_law_keys b_law_keys T
  have c_law_name := ok_law_name D_law_name b_law_name T c_law_draw c_law_few c_law_keys
  have c_law_names := ok_law_names D_law_names b_law_names T c_law_few c_law_name
  have c_law_same := same_all (P := l.prog) (w := w) (base := base) D_law_same b_law_same T 13
  have c_combine := ok_combine (P := l.prog) (w := w) (base := base) D_combine b_combine T (k := 0)
  have c_value_of := value_all D_value_of v2_value_of b2_value_of T c_combine 12
  have c_fold_pair := ok_fold_pair D_fold_pair b_fold_pair T c_combine
  have c_fold_expression := fold_all D_fold_expression b_fold_expression T c_fold_pair 12
  have c_law_combine := ok_law_combine (P := l.prog) (w := w) (base := base) D_law_combine b_law_combine T (k := 0)
  have c_law_value := lvalue_all D_law_value b_law_value T c_law_combine 12
  have c_law_fold_pair := ok_law_fold_pair D_law_fold_pair b_law_fold_pair T c_law_combine
  have c_law_fold := lfold_all D_law_fold b_law_fold T c_law_fold_pair 12
  have c_law_expression := expr_all D_law_expression b_law_expression T c_law_draw c_law_spend c_law_number 10
  exact ok_law F_law T c_law_pool c_law_draw c_law_number c_law_names c_law_expression c_law_same c_law_fold c_fold_expression c_law_value c_value_of
theorem walk {l : PySem.W.OpenLaw} {q : Program} {loose : List Str} {XP : (Str → Option Value) → Heap → Prop} {YP : World → Heap → Prop} {d : DefRec} {K : Params → PySem.W.Frag} (hn : l.most = some 63) (hdf : d.params.defaults = [])
    (hY : ∀ (w : World) (h : Heap), YP w h → (K w.params).In h)
    (F : ∀ (w : World) (mg : Str → Option Value) (fa : Addr) (h : Heap), (K w.params).In h → h.Ns mainGlobals mg → mg d.name = some (.ref fa) →
      ∃ fd : FuncData, (∀ (s : Shared) (u : Value), BindsTo s fd ⟨[u], []⟩ [("script", u)]) ∧ ∀ base : Heap, (K w.params).In base → base.Ns mainGlobals mg → FnOk l.prog w (K w.params) mg base C8.CX0 16 fa fd ["script"] (sp_law (K w.params))) :
    PySem.W.WalkO q loose XP YP l.row.toRowW d [] (fun f vs => PySem.call f vs) :=
  L2.walk_ofB (n := 63) (k := 16) (x := "script") (CX := fun _ => C8.CX0) (sp := fun w => sp_law (K w.params)) hn (by decide) hdf ⟨rfl, by decide, by decide⟩ hY F (fun _ _ a ns hl hb _ hS => ⟨a, ns, rfl, hS, fun _ => rfl⟩) fun _ _ _ _ _ z => z
end My
open PySem PySem.W PyProof.Rows
set_option maxRecDepth 100000 in
set_option maxHeartbeats 0 in
theorem PySem.Challenge.cw_bothgain_k23_folded_expressions_holds : PySem.Challenge.rw_bothgain_k23_folded_expressions.Holds := by
  w_on; o_law; k_head; (case hw => w_witness2)
  k_fill
  refine My.walk (l := PySem.Challenge.rw_bothgain_k23_folded_expressions) rfl rfl (fun w h Y => PySem.W.kIn_of Y) ?F
  case F =>
    intro w mg fa h KX G hmg
    refine' My.all_mk KX G hmg ?a_law_pool ?l_law_pool ?c_law_pool ?k_law_pool ?a_law_draw ?l_law_draw ?c_law_draw ?k_law_draw ?a_law_spend ?l_law_spend ?c_law_spend ?k_law_spend ?a_law_few ?l_law_few ?c_law_few ?k_law_few ?a_law_number ?l_law_number ?c_law_number ?k_law_number ?a_law_same ?l_law_same ?c_law_same ?k_law_same ?a_law_keys ?l_law_keys ?c_law_keys ?k_law_keys ?a_law_name ?l_law_name ?c_law_name ?k_law_name ?a_law_names ?l_law_names ?c_law_names ?k_law_names ?a_combine ?l_combine ?c_combine ?k_combine ?a_value_of ?l_value_of ?c_value_of ?k_value_of ?lT_value_of ?a_fold_pair ?l_fold_pair ?c_fold_pair ?k_fold_pair ?a_fold_expression ?l_fold_expression ?c_fold_expression ?k_fold_expression ?a_law_combine ?l_law_combine ?c_law_combine ?k_law_combine ?a_law_expression ?l_law_expression ?c_law_expression ?k_law_expression ?a_law_fold_pair ?l_law_fold_pair ?c_law_fold_pair ?k_law_fold_pair ?a_law_fold ?l_law_fold ?c_law_fold ?k_law_fold ?a_law_value ?l_law_value ?c_law_value ?k_law_value ?a_law ?l_law ?c_law ?k_law ?z_GREATEST ?z_SIGNS ?lT_SIGNS ?z_ZERO ?lT_ZERO ?z_ONE ?lT_ONE ?z_bool ?z_int ?z_isinstance ?z_len ?z_list ?z_max ?z_min ?z_range ?z_str ?z_tuple
    (case a_law_pool => k_is)
    (case l_law_pool => k_is)
    (case c_law_pool => k_is)
    (case k_law_pool => k_is)
    (case a_law_draw => k_is)
    (case l_law_draw => k_is)
    (case c_law_draw => k_is)
    (case k_law_draw => k_is)
    (case a_law_spend => k_is)
    (case l_law_spend => k_is)
    (case c_law_spend => k_is)
    (case k_law_spend => k_is)
    (case a_law_few => k_is)
    (case l_law_few => k_is)
    (case c_law_few => k_is)
    (case k_law_few => k_is)
    (case a_law_number => k_is)
    (case l_law_number => k_is)
    (case c_law_number => k_is)
    (case k_law_number => k_is)
    (case a_law_same => k_is)
    (case l_law_same => k_is)
    (case c_law_same => k_is)
    (case k_law_same => k_is)
    (case a_law_keys => k_is)
    (case l_law_keys => k_is)
    (case c_law_keys => k_is)
    (case k_law_keys => k_is)
    (case a_law_name => k_is)
    (case l_law_name => k_is)
    (case c_law_name => k_is)
    (case k_law_name => k_is)
    (case a_law_names => k_is)
    (case l_law_names => k_is)
    (case c_law_names => k_is)
    (case k_law_names => k_is)
    (case a_combine => k_is)
    (case l_combine => k_is)
    (case c_combine => k_is)
    (case k_combine => k_is)
    (case a_value_of => k_is)
    (case l_value_of => k_is)
    (case c_value_of => k_is)
    (case k_value_of => k_is)
    (case lT_value_of => k_is)
    (case a_fold_pair => k_is)
    (case l_fold_pair => k_is)
    (case c_fold_pair => k_is)
    (case k_fold_pair => k_is)
    (case a_fold_expression => k_is)
    (case l_fold_expression => k_is)
    (case c_fold_expression => k_is)
    (case k_fold_expression => k_is)
    (case a_law_combine => k_is)
    (case l_law_combine => k_is)
    (case c_law_combine => k_is)
    (case k_law_combine => k_is)
    (case a_law_expression => k_is)
    (case l_law_expression => k_is)
    (case c_law_expression => k_is)
    (case k_law_expression => k_is)
    (case a_law_fold_pair => k_is)
    (case l_law_fold_pair => k_is)
    (case c_law_fold_pair => k_is)
    (case k_law_fold_pair => k_is)
    (case a_law_fold => k_is)
    (case l_law_fold => k_is)
    (case c_law_fold => k_is)
    (case k_law_fold => k_is)
    (case a_law_value => k_is)
    (case l_law_value => k_is)
    (case c_law_value => k_is)
    (case k_law_value => k_is)
    (case a_law => k_is)
    (case l_law => k_is)
    (case c_law => k_is)
    (case k_law => k_is)
    (case z_GREATEST => k_is)
    (case z_SIGNS => k_is)
    (case lT_SIGNS => k_is)
    (case z_ZERO => k_is)
    (case lT_ZERO => k_is)
    (case z_ONE => k_is)
    (case lT_ONE => k_is)
    (case z_bool => k_is)
    (case z_int => k_is)
    (case z_isinstance => k_is)
    (case z_len => k_is)
    (case z_list => k_is)
    (case z_max => k_is)
    (case z_min => k_is)
    (case z_range => k_is)
    (case z_str => k_is)
    (case z_tuple => k_is)

