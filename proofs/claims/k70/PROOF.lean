
import PyProof.Rows.All
import Wide.All
import OpenK.AllK
import Wide.FinOn
import HandS.ForMost
import HandS.Codes
import HandS.IsInst
import HandS.EndBits
import HandS.Walk
import HandS.DeepEq
import HandS.Gcd
import HandS.Wide
import HandS.Defaults
import HandS.OwnEq
import HandS.Dict
import HandS.WordsDict
import HandS.Star
import HandS.Strs
import HandS.RaiseMore
import HandS.More
import PySem.Challenge.RW_bothgain_k70_code_of_an_expression
set_option Elab.async false
set_option linter.all false
set_option maxRecDepth 100000
set_option maxHeartbeats 4000000

namespace My
open PySem L2 C8 SX
/-! own base: tests, heaps -/
theorem bo_len : bootBuiltins "len" = some (.builtin "len") := by decide +kernel
theorem bo_isinstance : bootBuiltins "isinstance" = some (.builtin "isinstance") := by decide +kernel
theorem bo_min : bootBuiltins "min" = some (.builtin "min") := by decide +kernel
theorem bo_max : bootBuiltins "max" = some (.builtin "max") := by decide +kernel
theorem bo_abs : bootBuiltins "abs" = some (.builtin "abs") := by decide +kernel
theorem bo_int : bootBuiltins "int" = some (.type "int") := by decide +kernel
theorem bo_str : bootBuiltins "str" = some (.type "str") := by decide +kernel
theorem bo_bool : bootBuiltins "bool" = some (.type "bool") := by decide +kernel
theorem bo_list : bootBuiltins "list" = some (.type "list") := by decide +kernel
theorem bo_ord : bootBuiltins "ord" = some (.builtin "ord") := by decide +kernel
theorem bo_chr : bootBuiltins "chr" = some (.builtin "chr") := by decide +kernel
theorem bo_sum : bootBuiltins "sum" = some (.builtin "sum") := by decide +kernel
theorem bo_all : bootBuiltins "all" = some (.builtin "all") := by decide +kernel
theorem bo_any : bootBuiltins "any" = some (.builtin "any") := by decide +kernel
theorem bo_sorted : bootBuiltins "sorted" = some (.builtin "sorted") := by decide +kernel
theorem bo_dict : bootBuiltins "dict" = some (.type "dict") := by decide +kernel
theorem bo_tuple : bootBuiltins "tuple" = some (.type "tuple") := by decide +kernel
theorem iteD {p A B : Prop} [Decidable p] (h1 : p → A) (h2 : ¬ p → B) : if decide p = true then A else B := by
  by_cases h : p
  · rw [decide_eq_true h]; exact iteT (h1 h)
  · rw [decide_eq_false h]; exact iteF (h2 h)
theorem iteN {p A B : Prop} [Decidable p] (h1 : ¬ p → A) (h2 : p → B) : if (!decide p) = true then A else B := by
  by_cases h : p
  · rw [decide_eq_true h]; exact iteF (h2 h)
  · rw [decide_eq_false h]; exact iteT (h1 h)
theorem iteDT {p A B : Prop} [Decidable p] (h : p) (k : A) : if decide p = true then A else B := iteD (fun _ => k) fun z => absurd h z
theorem iteDF {p A B : Prop} [Decidable p] (h : ¬ p) (k : B) : if decide p = true then A else B := iteD (fun z => absurd z h) fun _ => k
theorem iteNT {p A B : Prop} [Decidable p] (h : ¬ p) (k : A) : if (!decide p) = true then A else B := iteN (fun _ => k) fun z => absurd z h
theorem iteNF {p A B : Prop} [Decidable p] (h : p) (k : B) : if (!decide p) = true then A else B := iteN (fun z => absurd h z) fun _ => k
theorem iteB {b : Bool} {A B : Prop} (h1 : b = true → A) (h2 : b = false → B) : if b = true then A else B := by
  cases b with
  | true => exact iteT (h1 rfl)
  | false => exact iteF (h2 rfl)
/-- in a comprehension without a test -/
theorem yes_then {σ : St} {H : Hp} {F G : Hp → Prop} (h : F H) : tYes σ H (fun b H3 => if b = true then F H3 else G H3) := h
/-- all that was tracked stands, but at W -/
def Keep (W : List Addr) (H H' : Hp) : Prop := ∀ b o, H b = some o → b ∉ W → H' b = some o
theorem Keep.refl (W : List Addr) (H : Hp) : Keep W H H := fun _ _ h _ => h
theorem Keep.trans {W : List Addr} {H H1 H2 : Hp} (a : Keep W H H1) (b : Keep W H1 H2) : Keep W H H2 := fun c o h w => b c o (a c o h w) w
theorem Keep.mono {W W' : List Addr} {H H1 : Hp} (a : Keep W H H1) (h : ∀ b, b ∈ W → b ∈ W') : Keep W' H H1 := fun c o q w => a c o q fun z => w (h c z)
theorem Keep.new {W : List Addr} {H : Hp} {p : Addr} {o : HO} (h : H p = none) : Keep W H (upd H p o) := fun b u q _ => by
  rw [upd_ne (ne_of_none q h)]; exact q
theorem Keep.at_ {W : List Addr} {H : Hp} {p : Addr} {o : HO} (h : p ∈ W) : Keep W H (upd H p o) := fun b u q w => by
  rw [upd_ne (fun z => w (by rw [z]; exact h))]; exact q
theorem Keep.then_new {W : List Addr} {H H1 : Hp} {p : Addr} {o : HO} (a : Keep W H H1) (h : H1 p = none) : Keep W H (upd H1 p o) := a.trans (Keep.new h)
theorem Keep.then_at {W : List Addr} {H H1 : Hp} {p : Addr} {o : HO} (a : Keep W H H1) (h : p ∈ W) : Keep W H (upd H1 p o) := a.trans (Keep.at_ h)
/-- what was new since H is not among the kept -/
theorem Keep.then_own {W : List Addr} {H H1 : Hp} {p : Addr} {o : HO} (a : Keep W H H1) (h : H p = none) : Keep W H (upd H1 p o) := fun b u q w => by
  rw [upd_ne (ne_of_none q h)]; exact a b u q w
theorem Keep.free {H H' : Hp} (e : Keep [] H H') {l : Addr} (h : H' l = none) : H l = none := by
  cases q : H l with
  | none => rfl
  | some o => rw [e l o q (by simp)] at h; cases h
theorem Keep.free1 {H H' : Hp} {p : Addr} {o : HO} (e : Keep [p] H H') (hp : H' p = some o) {l : Addr} (h : H' l = none) : H l = none := by
  cases q : H l with
  | none => rfl
  | some u =>
    by_cases z : l = p
    · subst z; rw [hp] at h; cases h
    · rw [e l u q (by simpa using z)] at h; cases h
theorem Keep.seqL {W : List Addr} {K : PySem.W.Frag} {H H' : Hp} {a : Addr} {xs : List V} (e : Keep W H H') (h : SqL K H a xs) (w : a ∉ W) : SqL K H' a xs := by
  rcases h with (h | ⟨o, h⟩) | h
  · exact .inl (.inl (e _ _ h w))
  · exact .inl (.inr ⟨o, e _ _ h w⟩)
  · exact .inr h
theorem Keep.seqT {W : List Addr} {K : PySem.W.Frag} {H H' : Hp} {a : Addr} {xs : List V} (e : Keep W H H') (h : SqT K H a xs) (w : a ∉ W) : SqT K H' a xs := by
  rcases h with (h | ⟨o, h⟩) | h
  · exact .inl (.inl (e _ _ h w))
  · exact .inl (.inr ⟨o, e _ _ h w⟩)
  · exact .inr h
theorem Keep.same {H H' : Hp} (e : Keep [] H H') : Same H H' := fun b o h => e b o h (by simp)
theorem ints_get {ns : List Int} {i : Nat} {v : V} (h : (ns.map V.int)[i]? = some v) : ∃ z, ns[i]? = some z ∧ v = V.int z := by
  rw [List.getElem?_map] at h
  cases e : ns[i]? with
  | none => rw [e] at h; cases h
  | some z => rw [e] at h; exact ⟨z, rfl, (Option.some.inj h).symm⟩
theorem strs_get {ns : List Str} {i : Nat} {v : V} (h : (ns.map V.str)[i]? = some v) : ∃ z, ns[i]? = some z ∧ v = V.str z := by
  rw [List.getElem?_map] at h
  cases e : ns[i]? with
  | none => rw [e] at h; cases h
  | some z => rw [e] at h; exact ⟨z, rfl, (Option.some.inj h).symm⟩
theorem smallM {n : Nat} (h : n ≤ 1000000) : n ≤ sizeLine := Nat.le_trans h (by decide)
theorem smallL {n : Nat} (h : n ≤ 1000000) : n < sizeLine := Nat.lt_of_le_of_lt h (by decide)
/-- a promise that asks the impossible: any def at all keeps it -/
def spNo : Sp := fun _ _ _ _ => False
/-! the same rules with the written part named (within a comprehension) -/
section
variable {X : Cx} {K : PySem.W.Frag}
theorem pe_fldK {e : Expr} {f : Str} {pos : Pos} {ta : TE} (he : PE X e ta) (hb : attributeBase e f X.env (eval e X.env) = eval e X.env) (hK : X.K = K := by rfl) : PE X (.Attribute e f pos) (tFld K ta f) := hK ▸ pe_fld he hb
theorem ix_listK (hK : X.K = K := by rfl) : IxR X (rIxL K) := hK ▸ ix_list
theorem ix_tupK (hK : X.K = K := by rfl) : IxR X (rIxT K) := hK ▸ ix_tup
theorem sl_listK (hK : X.K = K := by rfl) : SlR X (rSlL K) := hK ▸ sl_list
theorem sl_tupK (hK : X.K = K := by rfl) : SlR X (rSlT K) := hK ▸ sl_tup
theorem call_len_seqK (hK : X.K = K := by rfl) : CallR X (.builtin "len") (fun xs H Q => ∃ p ys, xs = [.ref p] ∧ (SqL K H p ys ∨ SqT K H p ys) ∧ Q (.int ys.length) H) := hK ▸ call_len_seq
theorem call_list_ofK (hK : X.K = K := by rfl) : CallR X (.type "list") (fun xs H Q => ∃ p ys, xs = [.ref p] ∧ (SqL K H p ys ∨ SqT K H p ys) ∧ ∀ l, H l = none → Q (.ref l) (upd H l (.lst ys))) := hK ▸ call_list_of
theorem call_isiK2 (hK : X.K = K := by rfl) : CallR X (.builtin "isinstance") (rIsi K) := hK ▸ call_isi
end
/-- behind the making of an instance -/
theorem keep_made {H H2 : Hp} {x dx : Addr} {o : HO} (hx : H x = none) (hd : H dx = none) (k : Keep [x] (upd (upd H dx (.own x)) x o) H2) : Keep [] H H2 := fun b u e _ =>
  k b u (by rw [upd_ne (ne_of_none e hx), upd_ne (ne_of_none e hd)]; exact e) (by simpa using ne_of_none e hx)
theorem kitSelf {K : PySem.W.Frag} {C : Addr} : PySem.W.kitOne K (.ref C) (.ref C) = some true := by
  unfold PySem.W.kitOne
  simp
/-- a call without arguments -/
theorem pe_c0 {X : Cx} {x : Str} {p pos : Pos} {k j : Nat} {sp : Sp} {dvs : List V} (c : C8.Cal X.prog X.w X.K X.mg X.base k x sp dvs) (hr : Room j X.A) (hk : k ≤ j) (hg : Gl X x) (hdb : (x == ("__debug__" : Str)) = false := by decide) :
    PE X (.Call (.Name x p) [] [] pos) (tCall sp dvs C8.E0 tNil) := by
  obtain ⟨f, fd, ps, ds, F, hm, kp, b, d⟩ := c.ex
  exact pe_call0 F (hr.mono hk) hg hm kp b d C8.pass0 hdb

/-! the text by places -/
def top (i : Nat) : Stmt := PySem.Challenge.pw_bothgain_k70_code_of_an_expression.main.body.getD i (.Pass ⟨0, 0, 0, 0⟩)
abbrev s_law_pool : Stmt := top 8
theorem sc_law_pool : FnScope ["script", "budget"] ["script", "budget"] (fnScope s_law_pool) := fnScope_by (by decide +kernel)
abbrev s_law_draw : Stmt := top 9
theorem sc_law_draw : FnScope ["pool", "size", "cell", "value"] ["pool", "size"] (fnScope s_law_draw) := fnScope_by (by decide +kernel)
abbrev s_law_spend : Stmt := top 10
theorem sc_law_spend : FnScope ["pool"] ["pool"] (fnScope s_law_spend) := fnScope_by (by decide +kernel)
abbrev s_law_few : Stmt := top 11
theorem sc_law_few : FnScope ["pool", "most", "few"] ["pool", "most"] (fnScope s_law_few) := fnScope_by (by decide +kernel)
abbrev s_law_number : Stmt := top 12
theorem sc_law_number : FnScope ["pool"] ["pool"] (fnScope s_law_number) := fnScope_by (by decide +kernel)
abbrev s_law_same : Stmt := top 13
theorem sc_law_same : FnScope ["actual", "due", "k"] ["actual", "due"] (fnScope s_law_same) := fnScope_by (by decide +kernel)
abbrev s_law_keys : Stmt := top 14
theorem sc_law_keys : FnScope ["text"] [] (fnScope s_law_keys) := fnScope_by (by decide +kernel)
abbrev s_law_name : Stmt := top 15
theorem sc_law_name : FnScope ["pool", "taken", "signs", "name", "k"] ["pool", "taken"] (fnScope s_law_name) := fnScope_by (by decide +kernel)
abbrev s_law_names : Stmt := top 16
theorem sc_law_names : FnScope ["pool", "most", "names", "k"] ["pool", "most"] (fnScope s_law_names) := fnScope_by (by decide +kernel)
abbrev s_combine : Stmt := top 3
theorem sc_combine : FnScope ["sign", "left", "right"] ["sign", "left", "right"] (fnScope s_combine) := fnScope_by (by decide +kernel)
abbrev s_value_of : Stmt := top 4
theorem sc_value_of : FnScope ["expression", "table", "on", "seen", "kind", "at", "chosen", "left", "right"] ["expression", "table", "on", "seen"] (fnScope s_value_of) := fnScope_by (by decide +kernel)
abbrev s_expression_code : Stmt := top 6
theorem sc_expression_code : FnScope ["expression", "slots", "on", "kind", "chosen", "left", "right"] ["expression", "slots", "on"] (fnScope s_expression_code) := fnScope_by (by decide +kernel)
abbrev s_law_combine : Stmt := top 18
theorem sc_law_combine : FnScope ["sign", "a", "b", "whole"] ["sign", "a", "b"] (fnScope s_law_combine) := fnScope_by (by decide +kernel)
abbrev s_law_expression : Stmt := top 17
theorem sc_law_expression : FnScope ["pool", "names", "picks", "deep", "kind", "pick", "left", "sign"] ["pool", "names", "picks", "deep"] (fnScope s_law_expression) := fnScope_by (by decide +kernel)
abbrev s_law_run : Stmt := top 19
theorem sc_law_run : FnScope ["code", "cells", "seen", "stack", "pair", "takes", "at", "right"] ["code", "cells", "seen"] (fnScope s_law_run) := fnScope_by (by decide +kernel)
abbrev s_law_code : Stmt := top 20
theorem sc_law_code : FnScope ["due", "slots", "on", "sign"] ["due", "slots", "on"] (fnScope s_law_code) := fnScope_by (by decide +kernel)
abbrev s_law : Stmt := top 21
theorem sc_law : FnScope ["script", "pool", "names", "picks", "table", "name", "on", "many", "seen", "plain", "code", "stack", "k"] ["script"] (fnScope s_law) := fnScope_by (by decide +kernel)
/-- what the walk asks of the module -/
structure Txt (K : PySem.W.Frag) (mg : Str → Option Value) (T_SIGNS : Addr) : Prop where
  n_bool : mg "bool" = none
  n_dict : mg "dict" = none
  n_int : mg "int" = none
  n_isinstance : mg "isinstance" = none
  n_len : mg "len" = none
  n_list : mg "list" = none
  n_max : mg "max" = none
  n_min : mg "min" = none
  n_range : mg "range" = none
  n_str : mg "str" = none
  n_tuple : mg "tuple" = none
  v_GREATEST : ∃ u, mg "GREATEST" = some u ∧ RelV (.int 65535) u
  v_SIGNS : ∃ u, mg "SIGNS" = some u ∧ RelV (.ref T_SIGNS) u
  q_SIGNS : ∀ H : Hp, SqT K H T_SIGNS ((["+", "-", "*", "/", "mod", "<", "="] : List Str).map V.str)
  d_SIGNS : ∃ o, K.lookup T_SIGNS = some o ∧ o.cls = .type "tuple" ∧ o.dict = none
  ok : True
/-! the law's draws -/
def Pool (H : Hp) (p q : Addr) (ns : List Int) : Prop := ∃ (i1 i2 i3 i4 i5 : Int), H p = some (.lst [.ref q, .int i1, .int i2, .int i3, .int i4, .int i5]) ∧ H q = some (.lst (ns.map V.int)) ∧ q ≠ p ∧ 0 ≤ i1
theorem Pool.some {H : Hp} {p q : Addr} {ns : List Int} (h : Pool H p q ns) : ∃ o, H p = Option.some o := by
  obtain ⟨i1, i2, i3, i4, i5, h, _⟩ := h
  exact ⟨_, h⟩
theorem Pool.some2 {H : Hp} {p q : Addr} {ns : List Int} (h : Pool H p q ns) : ∃ o, H q = Option.some o := by
  obtain ⟨i1, i2, i3, i4, i5, _, h, _⟩ := h
  exact ⟨_, h⟩
theorem Pool.keep {H H' : Hp} {p q : Addr} {ns : List Int} {W : List Addr} (h : Pool H p q ns) (k : Keep W H H') (w : ∀ b, b ∈ W → H b = none) : Pool H' p q ns := by
  obtain ⟨i1, i2, i3, i4, i5, h1, h2, h3, h4⟩ := h
  have no : ∀ b o, H b = Option.some o → b ∉ W := fun b o e z => by rw [w b z] at e; cases e
  exact ⟨i1, i2, i3, i4, i5, k _ _ h1 (no _ _ h1), k _ _ h2 (no _ _ h2), h3, h4⟩
theorem Pool.keep0 {H H' : Hp} {p q : Addr} {ns : List Int} (h : Pool H p q ns) (k : Keep [] H H') : Pool H' p q ns := h.keep k fun _ z => by cases z
theorem Pool.new {H : Hp} {p q a : Addr} {ns : List Int} {o : HO} (h : Pool H p q ns) (n : H a = none) : Pool (upd H a o) p q ns := h.keep0 (Keep.new n)
theorem Pool.own {H : Hp} {p q a : Addr} {ns : List Int} {o : HO} (h : Pool H p q ns) (h1 : a ≠ p) (h2 : a ≠ q) : Pool (upd H a o) p q ns := by
  obtain ⟨i1, i2, i3, i4, i5, g1, g2, g3, g4⟩ := h
  exact ⟨i1, i2, i3, i4, i5, by rw [upd_ne h1.symm]; exact g1, by rw [upd_ne h2.symm]; exact g2, g3, g4⟩
theorem Pool.free {H H' : Hp} {p q l : Addr} {ns : List Int} (P : Pool H' p q ns) (e : Keep [p] H H') (h : H' l = none) : H l = none := by
  obtain ⟨o, ho⟩ := P.some
  exact e.free1 ho h
theorem Pool.nep {H : Hp} {p q l : Addr} {ns : List Int} (P : Pool H p q ns) (h : H l = none) : l ≠ p := by
  obtain ⟨o, ho⟩ := P.some
  exact (ne_of_none ho h).symm
theorem Pool.neq {H : Hp} {p q l : Addr} {ns : List Int} (P : Pool H p q ns) (h : H l = none) : l ≠ q := by
  obtain ⟨o, ho⟩ := P.some2
  exact (ne_of_none ho h).symm
def sp_law_pool (K : PySem.W.Frag) : Sp := fun vs H Q _ => ∃ (a : Addr) (ns : List Int) (b : Int), vs = [.ref a, .int b] ∧ SqL K H a (ns.map V.int) ∧
  ∀ p q H', H p = none → Pool H' p q ns → Keep [] H H' → Q (.ref p) H'
def sp_law_draw : Sp := fun vs H Q _ => ∃ (p q : Addr) (ns : List Int) (size : Int), vs = [.ref p, .int size] ∧ 0 < size ∧ size < 1073741824 ∧ Pool H p q ns ∧
  ∀ r H', 0 ≤ r → r < size → Pool H' p q ns → Keep [p] H H' → Q (.int r) H'
section
variable {P : Program} {w : World} {K : PySem.W.Frag} {mg : Str → Option Value} {base : Heap} {T_SIGNS : Addr}
theorem ok_law_pool {f : Addr} {fd : FuncData} (D : C8.Def K mg "_law_pool" s_law_pool f fd) (b : Binds K fd ["script", "budget"] []) (T : Txt K mg T_SIGNS) : C8.Cal P w K mg base 1 "_law_pool" (sp_law_pool K) [] := by
  refine cal0 D b .nil sc_law_pool (fun vs H Q E h => ?_) (fun cdv A outer s H vs Q E hr h => ?_)
  · obtain ⟨a, ns, b, rfl, _⟩ := h
    rfl
  · obtain ⟨a, ns, b, rfl, hS, k⟩ := h
    refine ⟨_, (pss_one (ps_ret (pe_lst (pa_cons (pe_callTy call_list_of (by rfl) T.n_list bo_list (pa_cons (pv 0) pa_nil)) (pa_cons pe_int (pa_cons pe_int (pa_cons pe_int (pa_cons pe_int (pa_cons (pv 1) pa_nil))))))))), ?_⟩
    refine ⟨_, rfl, _, _, rfl, .inl hS, fun l hl => ⟨_, rfl, (by show 6 ≤ sizeLine; decide), fun p hp => ?_⟩⟩
    have hlp : l ≠ p := ne_of_none (H := upd H l (.lst (ns.map V.int))) upd_same hp
    have hp0 : H p = none := (Keep.new (W := []) hl).free hp
    refine k p l _ hp0 ⟨_, _, _, _, _, upd_same, (by rw [upd_ne hlp]; exact upd_same), hlp, Int.le_refl 0⟩ ((Keep.new hl).then_new hp)
theorem ok_law_draw {f : Addr} {fd : FuncData} (D : C8.Def K mg "_law_draw" s_law_draw f fd) (b : Binds K fd ["pool", "size"] []) (T : Txt K mg T_SIGNS) : C8.Cal P w K mg base 1 "_law_draw" sp_law_draw [] := by
  refine cal0 D b .nil sc_law_draw (fun vs H Q E h => ?_) (fun cdv A outer s H vs Q E hr h => ?_)
  · obtain ⟨p, q, ns, size, rfl, _⟩ := h
    rfl
  · obtain ⟨p, q, ns, size, rfl, hs0, hs1, ⟨i1, i2, i3, i4, i5, h1, h2, hqp, hi1⟩, k⟩ := h
    have hbig : (2147483647 : Int) > 0 := by decide
    refine ⟨_, (pss_cut (ps_if (PW.pt (pw_and (pt_cmpR op_le (pe_ix ix_list (pv 0) pe_int (fun _ _ => rfl)) pe_int (nomark _)) (pw_and (pt_cmpR op_le (pe_ix ix_list (pv 0) pe_int (fun _ _ => rfl)) pe_int (nomark _)) (pw_and1 (pt_cmpR op_lt (pe_ix ix_list (pv 0) pe_int (fun _ _ => rfl)) (pe_callB call_len_seq (by rfl) T.n_len bo_len (pa_cons (pe_ix ix_list (pv 0) pe_int (fun _ _ => rfl)) pa_nil)) (nomark _))))))
  (pss_cons (ps_set (i := 2) sc_law_draw.nd rfl (by first | exact Or.inl rfl | exact Or.inr rfl) (pe_ix ix_list (pe_ix ix_list (pv 0) pe_int (fun _ _ => rfl)) (pe_ix ix_list (pv 0) pe_int (fun _ _ => rfl)) (fun _ _ => rfl)))
  (pss_cons (ps_asg (pe_op op_add (pe_ix ix_list (pv 0) pe_int (fun _ _ => rfl)) pe_int) (pg_sub (pv 0) pe_int set_list))
  (pss_cons (ps_asg (pe_op op_mod (pe_callTy call_int1 (by rfl) T.n_int bo_int (pa_cons (pe_op op_add (pe_op op_mul (pe_ix ix_list (pv 0) pe_int (fun _ _ => rfl)) pe_int) (pv 2)) pa_nil)) pe_int) (pg_sub (pv 0) pe_int set_list))
  (pss_cons (ps_asg pe_int (pg_sub (pv 0) pe_int set_list))
  (pss_one (ps_if (pt_cmpR op_ge (pv 2) (pe_op op_pow pe_int pe_int) (nomark _))
    (pss_one (ps_asg (pv 2) (pg_sub (pv 0) pe_int set_list)))
    pss_nil))))))
  pss_nil)
(pss_cons (ps_if (pt_cmpR op_gt (pe_ix ix_list (pv 0) pe_int (fun _ _ => rfl)) pe_int (nomark _))
  (pss_cons (ps_set (i := 3) sc_law_draw.nd rfl (by first | exact Or.inl rfl | exact Or.inr rfl) (pe_op op_mod (pe_callTy call_int1 (by rfl) T.n_int bo_int (pa_cons (pe_ix ix_list (pv 0) pe_int (fun _ _ => rfl)) pa_nil)) (pv 1)))
  (pss_cons (ps_asg (pe_op op_fdiv (pe_ix ix_list (pv 0) pe_int (fun _ _ => rfl)) (pv 1)) (pg_sub (pv 0) pe_int set_list))
  (pss_cons (ps_asg pe_int (pg_sub (pv 0) pe_int set_list))
  (pss_one (ps_ret (pv 3))))))
  pss_nil)
(pss_cons (ps_asg (pe_op op_sub (pe_ix ix_list (pv 0) pe_int (fun _ _ => rfl)) pe_int) (pg_sub (pv 0) pe_int set_list))
(pss_cons (ps_asg (pe_op op_mod (pe_callTy call_int1 (by rfl) T.n_int bo_int (pa_cons (pe_op op_add (pe_op op_mul (pe_ix ix_list (pv 0) pe_int (fun _ _ => rfl)) pe_int) pe_int) pa_nil)) pe_int) (pg_sub (pv 0) pe_int set_list))
(pss_one (ps_ret (pe_op op_mod (pe_op op_mod (pe_callTy call_int1 (by rfl) T.n_int bo_int (pa_cons (pe_op op_add (pe_op op_mul (pe_ix ix_list (pv 0) pe_int (fun _ _ => rfl)) pe_int) pe_int) pa_nil)) pe_int) (pv 1)))))))), ?_⟩
    -- the state between the statements
    refine ⟨fun σ H' => ∃ (c : Option V) (j1 j2 j3 j4 j5 : Int), σ = [some (.ref p), some (.int size), c, none] ∧ H' p = some (.lst [.ref q, .int j1, .int j2, .int j3, .int j4, .int j5]) ∧ Keep [p] H H' ∧ 0 ≤ j1, ?_, ?_⟩
    · have stay : ∃ (c : Option V) (j1 j2 j3 j4 j5 : Int), ([some (.ref p), some (.int size), none, none] : List (Option V)) = [some (.ref p), some (.int size), c, none] ∧ H p = some (.lst [.ref q, .int j1, .int j2, .int j3, .int j4, .int j5]) ∧ Keep [p] H H ∧ 0 ≤ j1 :=
        ⟨_, i1, i2, i3, i4, i5, rfl, h1, Keep.refl _ _, hi1⟩
      refine ⟨_, rfl, _, _, _, _, rfl, rfl, SqL.of h1, rfl, _, _, rfl, rfl, _, rfl, iteD (fun _ => ?_) (fun _ => stay)⟩
      refine ⟨_, rfl, _, _, _, _, rfl, rfl, SqL.of h1, rfl, _, _, rfl, rfl, _, rfl, iteD (fun _ => ?_) (fun _ => stay)⟩
      refine ⟨_, rfl, _, _, _, _, rfl, rfl, SqL.of h1, rfl, _, rfl, _, _, _, _, rfl, rfl, SqL.of h1, rfl, _, _, rfl, .inl (SqL.of h2), _, _, rfl, rfl, _, rfl, iteD (fun hlt => ?_) (fun _ => stay)⟩
      obtain ⟨j, rfl⟩ : ∃ j : Nat, i1 = (j : Int) := ⟨i1.toNat, by omega⟩
      rw [List.length_map] at hlt
      have hj : j < ns.length := by omega
      have hc : (ns.map V.int)[j]? = some (.int ns[j]) := by rw [List.getElem?_map, List.getElem?_eq_getElem hj]; rfl
      refine ⟨_, rfl, _, _, _, _, rfl, rfl, SqL.of h1, rfl, _, rfl, _, _, _, _, rfl, rfl, SqL.of h1, rfl, _, _, _, _, rfl, rfl, SqL.of h2, atI_nat hc, ?_⟩
      refine ⟨_, rfl, _, _, _, _, rfl, rfl, SqL.of h1, rfl, _, _, rfl, rfl, _, rfl, _, _, _, _, rfl, rfl, h1, rfl, ?_⟩
      refine ⟨_, rfl, _, _, _, _, rfl, rfl, SqL.of upd_same, rfl, _, _, rfl, rfl, .inr ⟨by decide, by decide⟩, _, rfl, _, _, rfl, rfl, .inl ⟨_, rfl, _, _, rfl, rfl, hbig, _, rfl, _, _, _, _, rfl, rfl, upd_same, rfl, ?_⟩⟩
      refine ⟨_, rfl, _, _, _, _, rfl, rfl, upd_same, rfl, ?_⟩
      have kk : Keep [p] H (upd (upd (upd H p (.lst (List.set [.ref q, .int (j : Int), .int i2, .int i3, .int i4, .int i5] 1 (.int ((j : Int) + 1))))) p
        (.lst (List.set (List.set [.ref q, .int (j : Int), .int i2, .int i3, .int i4, .int i5] 1 (.int ((j : Int) + 1))) 3 (.int ((i3 * 31 + ns[j]) % 2147483647))))) p
        (.lst (List.set (List.set (List.set [.ref q, .int (j : Int), .int i2, .int i3, .int i4, .int i5] 1 (.int ((j : Int) + 1))) 3 (.int ((i3 * 31 + ns[j]) % 2147483647))) 4 (.int 7)))) :=
        ((Keep.at_ (List.mem_singleton.mpr rfl)).then_at (List.mem_singleton.mpr rfl)).then_at (List.mem_singleton.mpr rfl)
      refine ⟨_, rfl, _, _, rfl, rfl, ⟨by decide, by decide, by decide⟩, _, _, rfl, rfl, _, rfl, iteD (fun _ => ?_) (fun _ => ?_)⟩
      · refine ⟨_, rfl, _, rfl, _, _, _, _, rfl, rfl, upd_same, rfl, ?_⟩
        exact ⟨_, _, _, _, _, _, rfl, upd_same, kk.then_at (List.mem_singleton.mpr rfl), by omega⟩
      · exact ⟨_, _, _, _, _, _, rfl, upd_same, kk, by omega⟩
    · rintro σ' H' ⟨c, j1, j2, j3, j4, j5, rfl, g1, kk, hj1⟩
      have g2 : H' q = some (.lst (ns.map V.int)) := kk q _ h2 (by simpa using hqp)
      refine ⟨_, rfl, _, _, _, _, rfl, rfl, SqL.of g1, rfl, _, _, rfl, rfl, _, rfl, iteD (fun _ => ?_) (fun _ => ?_)⟩
      · refine ⟨_, rfl, _, _, _, _, rfl, rfl, SqL.of g1, rfl, .inl ⟨_, rfl, _, rfl, _, _, rfl, rfl, hs0, ?_⟩⟩
        refine ⟨_, rfl, _, _, _, _, rfl, rfl, SqL.of g1, rfl, _, rfl, _, _, rfl, rfl, ⟨hs0, hs1⟩, _, rfl, _, _, _, _, rfl, rfl, g1, rfl, ?_⟩
        refine ⟨_, rfl, _, _, _, _, rfl, rfl, upd_same, rfl, ?_⟩
        refine ⟨_, rfl, ?_⟩
        refine k _ _ (Int.emod_nonneg _ (by omega)) (Int.emod_lt_of_pos _ hs0) ⟨_, _, _, _, _, upd_same, ?_, hqp, hj1⟩ ((kk.then_at (List.mem_singleton.mpr rfl)).then_at (List.mem_singleton.mpr rfl))
        rw [upd_ne hqp, upd_ne hqp]; exact g2
      · refine ⟨_, rfl, _, _, _, _, rfl, rfl, SqL.of g1, rfl, _, _, rfl, rfl, _, rfl, _, _, _, _, rfl, rfl, g1, rfl, ?_⟩
        refine ⟨_, rfl, _, _, _, _, rfl, rfl, SqL.of upd_same, rfl, _, _, rfl, rfl, .inr ⟨by decide, by decide⟩, _, _, rfl, rfl, .inl ⟨_, rfl, _, _, rfl, rfl, hbig, _, rfl, _, _, _, _, rfl, rfl, upd_same, rfl, ?_⟩⟩
        refine ⟨_, rfl, _, _, _, _, rfl, rfl, SqL.of upd_same, rfl, _, _, rfl, rfl, .inr ⟨by decide, by decide⟩, _, _, rfl, rfl, .inl ⟨_, rfl, _, _, rfl, rfl, hbig, _, rfl, _, _, rfl, rfl, hs0, ?_⟩⟩
        refine k _ _ (Int.emod_nonneg _ (by omega)) (Int.emod_lt_of_pos _ hs0) ⟨_, _, _, _, _, upd_same, ?_, hqp, hj1⟩ ((kk.then_at (List.mem_singleton.mpr rfl)).then_at (List.mem_singleton.mpr rfl))
        rw [upd_ne hqp, upd_ne hqp]; exact g2
end

/-! the law's small draws -/
def sp_law_few : Sp := fun vs H Q _ => ∃ (p q : Addr) (ns : List Int) (most : Int), vs = [.ref p, .int most] ∧ 0 ≤ most ∧ most < 1000000 ∧ Pool H p q ns ∧
  ∀ r H', 0 ≤ r → r ≤ most → Pool H' p q ns → Keep [p] H H' → Q (.int r) H'
section
variable {P : Program} {w : World} {K : PySem.W.Frag} {mg : Str → Option Value} {base : Heap} {T_SIGNS : Addr}
theorem ok_law_few {f : Addr} {fd : FuncData} (D : C8.Def K mg "_law_few" s_law_few f fd) (b : Binds K fd ["pool", "most"] []) (T : Txt K mg T_SIGNS) (c_law_draw : C8.Cal P w K mg base 1 "_law_draw" sp_law_draw []) : C8.Cal P w K mg base 2 "_law_few" sp_law_few [] := by
  refine cal0 D b .nil sc_law_few (fun vs H Q E h => ?_) (fun cdv A outer s H vs Q E hr h => ?_)
  · obtain ⟨p, q, ns, m, rfl, _⟩ := h
    rfl
  · obtain ⟨p, q, ns, m, rfl, m0, m1, hP, k⟩ := h
    refine ⟨_, (pss_cons (ps_set (i := 2) sc_law_few.nd rfl (by first | exact Or.inl rfl | exact Or.inr rfl) (pe_c c_law_draw hr (by first | exact Nat.le_refl _ | decide) rfl (pa_cons (pv 0) (pa_cons pe_int pa_nil))))
(pss_cons (ps_if (pt_cmpR op_eq (pv 2) pe_int (nomark _))
  (pss_one (ps_ret (pe_c c_law_draw hr (by first | exact Nat.le_refl _ | decide) rfl (pa_cons (pv 0) (pa_cons (pe_op op_add (pv 1) pe_int) pa_nil)))))
  pss_nil)
(pss_one (ps_ret (pe_callB (call_min2 rfl) (by rfl) T.n_min bo_min (pa_cons (pv 2) (pa_cons (pv 1) pa_nil))))))), ?_⟩
    refine ⟨_, rfl, p, q, ns, 4, rfl, by decide, by decide, hP, fun r H1 r0 r1 P1 K1 => ?_⟩
    refine ⟨_, rfl, rfl, _, rfl, iteD (fun _ => ?_) (fun _ => ?_)⟩
    · refine ⟨_, rfl, _, rfl, _, _, rfl, rfl, p, q, ns, _, rfl, by omega, by omega, P1, fun r2 H2 z0 z1 P2 K2 => ?_⟩
      exact k _ _ z0 (by omega) P2 (K1.trans K2)
    · refine ⟨_, rfl, _, rfl, _, _, rfl, k _ _ ?_ ?_ P1 K1⟩
      · split <;> omega
      · split <;> omega
end

/-- tuples stand -/
def TK (H H' : Hp) : Prop := ∀ b xs, H b = some (.tup xs) → H' b = some (.tup xs)
theorem TK.refl (H : Hp) : TK H H := fun _ _ h => h
theorem TK.trans {H H1 H2 : Hp} (a : TK H H1) (b : TK H1 H2) : TK H H2 := fun c xs h => b c xs (a c xs h)
theorem TK.new {H : Hp} {p : Addr} {o : HO} (h : H p = none) : TK H (upd H p o) := fun b xs q => by rw [upd_ne (ne_of_none q h)]; exact q
theorem TK.lst {H : Hp} {p : Addr} {o : HO} {ys : List V} (h : H p = some (.lst ys)) : TK H (upd H p o) := fun b xs q => by
  rw [upd_ne (ne_of q h (by intro z; cases z))]; exact q
theorem Keep.tk {H H' : Hp} (k : Keep [] H H') : TK H H' := fun b xs q => k b _ q (by simp)
theorem Keep.tk1 {H H' : Hp} {p : Addr} {ys : List V} (k : Keep [p] H H') (h : H p = some (.lst ys)) : TK H H' := fun b xs q => k b _ q (by
  have := ne_of q h (by intro z; cases z)
  simpa using this)

/-! tuples that stand, in the walk's heap or in the module's -/
def KT (K : PySem.W.Frag) (a : Addr) (xs : List V) : Prop := ∃ (o : Obj) (its : Array Value) (n : Nat), K.lookup a = some o ∧ o.cls = .type "tuple" ∧ o.data = .seq its n ∧ its.size ≤ sizeLine ∧ Vals xs its.toList
def At (K : PySem.W.Frag) (H : Hp) (a : Addr) (xs : List V) : Prop := H a = some (.tup xs) ∨ KT K a xs
theorem At.sq {K : PySem.W.Frag} {H : Hp} {a : Addr} {xs : List V} (h : At K H a xs) : SqT K H a xs := by
  rcases h with h | h
  · exact SqT.of h
  · exact .inr h
theorem At.ty {K : PySem.W.Frag} {H : Hp} {a : Addr} {xs : List V} (h : At K H a xs) : TyX K H (.ref a) (.type "tuple") := by
  rcases h with h | ⟨o, its, n, h, c, _⟩
  · exact .base (.tup h)
  · exact .kTuple h c
theorem At.tk {K : PySem.W.Frag} {H H' : Hp} {a : Addr} {xs : List V} (k : TK H H') (h : At K H a xs) : At K H' a xs := by
  rcases h with h | h
  · exact .inl (k _ _ h)
  · exact .inr h
/-! the law's look whether two values are the same: only the answer True is told -/
def SameV (K : PySem.W.Frag) : Nat → Hp → V → V → Prop
  | 0, _, _, _ => False
  | n + 1, H, a, d => (a = d ∧ ((∃ x, d = .str x) ∨ (∃ i, d = .int i) ∨ (∃ b, d = .bl b) ∨ d = .non)) ∨
    ∃ p q xs ys, a = .ref p ∧ d = .ref q ∧ ((H p = some (.lst xs) ∧ H q = some (.lst ys)) ∨ (At K H p xs ∧ At K H q ys)) ∧ xs.length = ys.length ∧ xs.length ≤ sizeLine ∧
      ∀ (i : Nat) x y, xs[i]? = some x → ys[i]? = some y → SameV K n H x y
def sp_law_same (K : PySem.W.Frag) (n : Nat) : Sp := fun vs H Q _ => ∃ a d, vs = [a, d] ∧ SameV K n H a d ∧ Q (.bl true) H
theorem sameV_atom {K : PySem.W.Frag} {n : Nat} {H : Hp} {d : V} (h : (∃ x, d = .str x) ∨ (∃ i, d = .int i) ∨ (∃ b, d = .bl b) ∨ d = .non) : SameV K (n + 1) H d d := .inl ⟨rfl, h⟩
section
variable {K : PySem.W.Frag}
theorem kLT : PySem.W.kitOne K (.type "list") (.type "tuple") = some false := kit_ty (by decide +kernel)
theorem kLL : PySem.W.kitOne K (.type "list") (.type "list") = some true := kit_ty (by decide +kernel)
theorem kTT : PySem.W.kitOne K (.type "tuple") (.type "tuple") = some true := kit_ty (by decide +kernel)
theorem kTL : PySem.W.kitOne K (.type "tuple") (.type "list") = some false := kit_ty (by decide +kernel)
theorem kST : PySem.W.kitOne K (.type "str") (.type "tuple") = some false := kit_ty (by decide +kernel)
theorem kSL : PySem.W.kitOne K (.type "str") (.type "list") = some false := kit_ty (by decide +kernel)
theorem kSB : PySem.W.kitOne K (.type "str") (.type "bool") = some false := kit_ty (by decide +kernel)
theorem kSI : PySem.W.kitOne K (.type "str") (.type "int") = some false := kit_ty (by decide +kernel)
theorem kSS : PySem.W.kitOne K (.type "str") (.type "str") = some true := kit_ty (by decide +kernel)
theorem kIT : PySem.W.kitOne K (.type "int") (.type "tuple") = some false := kit_ty (by decide +kernel)
theorem kIL : PySem.W.kitOne K (.type "int") (.type "list") = some false := kit_ty (by decide +kernel)
theorem kIB : PySem.W.kitOne K (.type "int") (.type "bool") = some false := kit_ty (by decide +kernel)
theorem kII : PySem.W.kitOne K (.type "int") (.type "int") = some true := kit_ty (by decide +kernel)
theorem kBT : PySem.W.kitOne K (.type "bool") (.type "tuple") = some false := kit_ty (by decide +kernel)
theorem kBL : PySem.W.kitOne K (.type "bool") (.type "list") = some false := kit_ty (by decide +kernel)
theorem kBB : PySem.W.kitOne K (.type "bool") (.type "bool") = some true := kit_ty (by decide +kernel)
theorem kBI : PySem.W.kitOne K (.type "bool") (.type "int") = some true := kit_ty (by decide +kernel)
theorem kNT : PySem.W.kitOne K (.type "NoneType") (.type "tuple") = some false := kit_ty (by decide +kernel)
theorem kNL : PySem.W.kitOne K (.type "NoneType") (.type "list") = some false := kit_ty (by decide +kernel)
theorem kNB : PySem.W.kitOne K (.type "NoneType") (.type "bool") = some false := kit_ty (by decide +kernel)
theorem kNI : PySem.W.kitOne K (.type "NoneType") (.type "int") = some false := kit_ty (by decide +kernel)
end

section
variable {P : Program} {w : World} {K : PySem.W.Frag} {mg : Str → Option Value} {base : Heap} {T_SIGNS : Addr}
theorem ok_law_same0 {f : Addr} {fd : FuncData} (D : C8.Def K mg "_law_same" s_law_same f fd) (b : Binds K fd ["actual", "due"] []) : C8.Cal P w K mg base 0 "_law_same" (sp_law_same K 0) [] :=
  ⟨f, fd, ["actual", "due"], [], ⟨fun vs H Q E h => (by obtain ⟨a, d, rfl, _⟩ := h; rfl), fun A outer s H args us vs Q E _ _ _ _ h => (by obtain ⟨a, d, _, z, _⟩ := h; exact z.elim)⟩, D.mgf, D.kp, b, .nil⟩
theorem ok_law_same {f : Addr} {fd : FuncData} (D : C8.Def K mg "_law_same" s_law_same f fd) (b : Binds K fd ["actual", "due"] []) (T : Txt K mg T_SIGNS) {n k : Nat} (c_law_same : C8.Cal P w K mg base k "_law_same" (sp_law_same K n) []) :
    C8.Cal P w K mg base (k + 1) "_law_same" (sp_law_same K (n + 1)) [] := by
  refine cal0 D b .nil sc_law_same (fun vs H Q E h => ?_) (fun cdv A outer s H vs Q E hr h => ?_)
  · obtain ⟨a, d, rfl, _⟩ := h
    rfl
  · obtain ⟨a, d, rfl, hs, k⟩ := h
    have hu := hu_of hr
    refine ⟨_, (pss_cons (ps_if (PW.pt (pw_or (pt_val (pe_callB call_isi (by rfl) T.n_isinstance bo_isinstance (pa_cons (pv 1) (pa_cons (pe_bltn (v := .ty "tuple") (by rfl) T.n_tuple bo_tuple rfl) pa_nil)))) (pw_or1 (pt_val (pe_callB call_isi (by rfl) T.n_isinstance bo_isinstance (pa_cons (pv 1) (pa_cons (pe_bltn (v := .ty "list") (by rfl) T.n_list bo_list rfl) pa_nil)))))))
  (pss_cons (ps_if (PW.pt (pw_or (pt_cmpR op_ne (pe_callB call_isi (by rfl) T.n_isinstance bo_isinstance (pa_cons (pv 1) (pa_cons (pe_bltn (v := .ty "tuple") (by rfl) T.n_tuple bo_tuple rfl) pa_nil))) (pe_callB call_isi (by rfl) T.n_isinstance bo_isinstance (pa_cons (pv 0) (pa_cons (pe_bltn (v := .ty "tuple") (by rfl) T.n_tuple bo_tuple rfl) pa_nil))) (nomark _)) (pw_or1 (pt_cmpR op_ne (pe_callB call_isi (by rfl) T.n_isinstance bo_isinstance (pa_cons (pv 1) (pa_cons (pe_bltn (v := .ty "list") (by rfl) T.n_list bo_list rfl) pa_nil))) (pe_callB call_isi (by rfl) T.n_isinstance bo_isinstance (pa_cons (pv 0) (pa_cons (pe_bltn (v := .ty "list") (by rfl) T.n_list bo_list rfl) pa_nil))) (nomark _)))))
    (pss_one (ps_ret pe_bl))
    pss_nil)
  (pss_cons (ps_if (pt_cmpR op_ne (pe_callB call_len_seq (by rfl) T.n_len bo_len (pa_cons (pv 0) pa_nil)) (pe_callB call_len_seq (by rfl) T.n_len bo_len (pa_cons (pv 1) pa_nil)) (nomark _))
    (pss_one (ps_ret pe_bl))
    pss_nil)
  (pss_cons (ps_for PassesOwn.never rfl (pi_range1 (by rfl) T.n_range (pa_cons (pe_callB call_len_seq (by rfl) T.n_len bo_len (pa_cons (pv 1) pa_nil)) pa_nil)) (pg_name (i := 2) sc_law_same.nd rfl (by first | exact Or.inl rfl | exact Or.inr rfl))
    (pss_one (ps_if (pt_not (pt_val (pe_c c_law_same hr (by first | exact Nat.le_refl _ | decide) rfl (pa_cons (pe_ix ix_seq (pv 0) (pv 2) (fun _ _ => rfl)) (pa_cons (pe_ix ix_seq (pv 1) (pv 2) (fun _ _ => rfl)) pa_nil)))))
      (pss_one (ps_ret pe_bl))
      pss_nil)))
  (pss_one (ps_ret pe_bl)))))
  pss_nil)
(pss_cons (ps_if (PW.pt (pw_or (pt_cmpR op_isN (pv 1) pe_non (nomark _)) (pw_or1 (pt_val (pe_callB call_isi (by rfl) T.n_isinstance bo_isinstance (pa_cons (pv 1) (pa_cons (pe_bltn (v := .ty "bool") (by rfl) T.n_bool bo_bool rfl) pa_nil)))))))
  (pss_one (ps_ret (pe_and (pe_cmpR op_eq (pe_cmpR op_isN (pv 0) pe_non (nomark _)) (pe_cmpR op_isN (pv 1) pe_non (nomark _)) (nomark _)) (pe_and (pe_or (pe_cmpR op_isN (pv 1) pe_non (nomark _)) (pe_one (pe_callB call_isi (by rfl) T.n_isinstance bo_isinstance (pa_cons (pv 0) (pa_cons (pe_bltn (v := .ty "bool") (by rfl) T.n_bool bo_bool rfl) pa_nil))))) (pe_one (pe_cmpR op_eq (pv 0) (pv 1) (nomark _)))))))
  pss_nil)
(pss_cons (ps_if (pt_val (pe_callB call_isi (by rfl) T.n_isinstance bo_isinstance (pa_cons (pv 1) (pa_cons (pe_bltn (v := .ty "int") (by rfl) T.n_int bo_int rfl) pa_nil))))
  (pss_one (ps_ret (pe_and (pe_callB call_isi (by rfl) T.n_isinstance bo_isinstance (pa_cons (pv 0) (pa_cons (pe_bltn (v := .ty "int") (by rfl) T.n_int bo_int rfl) pa_nil))) (pe_and (pe_not (pe_callB call_isi (by rfl) T.n_isinstance bo_isinstance (pa_cons (pv 0) (pa_cons (pe_bltn (v := .ty "bool") (by rfl) T.n_bool bo_bool rfl) pa_nil)))) (pe_one (pe_cmpR op_eq (pv 0) (pv 1) (nomark _)))))))
  pss_nil)
(pss_one (ps_ret (pe_and (pe_callB call_isi (by rfl) T.n_isinstance bo_isinstance (pa_cons (pv 0) (pa_cons (pe_bltn (v := .ty "str") (by rfl) T.n_str bo_str rfl) pa_nil))) (pe_one (pe_cmpR op_eq (pv 0) (pv 1) (nomark _))))))))), ?_⟩
    -- the part behind the lengths, for lists and for tuples
    rcases hs with ⟨rfl, ⟨x, rfl⟩ | ⟨x, rfl⟩ | ⟨x, rfl⟩ | rfl⟩ | ⟨p, q, xs, ys, rfl, rfl, hh, hl, hz, hall⟩
    · refine ⟨_, rfl, _, _, _, _, _, rfl, .ty _, .base (.str x), kST, _, rfl, iteF ⟨_, rfl, _, _, _, _, _, rfl, .ty _, .base (.str x), kSL, _, rfl, iteF ?_⟩⟩
      refine ⟨_, rfl, rfl, _, rfl, iteDF (by simp) ⟨_, rfl, _, _, _, _, _, rfl, .ty _, .base (.str x), kSB, _, rfl, iteF ?_⟩⟩
      refine ⟨_, rfl, _, _, _, _, _, rfl, .ty _, .base (.str x), kSI, _, rfl, iteF ?_⟩
      refine ⟨_, rfl, _, _, _, _, _, rfl, .ty _, .base (.str x), kSS, _, rfl, iteT ⟨_, rfl, _, rfl, rfl, ?_⟩⟩
      rw [decide_eq_true rfl]; exact k
    · refine ⟨_, rfl, _, _, _, _, _, rfl, .ty _, .base (.int x), kIT, _, rfl, iteF ⟨_, rfl, _, _, _, _, _, rfl, .ty _, .base (.int x), kIL, _, rfl, iteF ?_⟩⟩
      refine ⟨_, rfl, rfl, _, rfl, iteDF (by simp) ⟨_, rfl, _, _, _, _, _, rfl, .ty _, .base (.int x), kIB, _, rfl, iteF ?_⟩⟩
      refine ⟨_, rfl, _, _, _, _, _, rfl, .ty _, .base (.int x), kII, _, rfl, iteT ?_⟩
      refine ⟨_, rfl, _, _, _, _, _, rfl, .ty _, .base (.int x), kII, _, rfl, iteT ⟨_, rfl, _, _, _, _, _, rfl, .ty _, .base (.int x), kIB, _, rfl, _, rfl, iteT ⟨_, rfl, _, rfl, rfl, ?_⟩⟩⟩
      rw [decide_eq_true rfl]; exact k
    · refine ⟨_, rfl, _, _, _, _, _, rfl, .ty _, .base (.bl x), kBT, _, rfl, iteF ⟨_, rfl, _, _, _, _, _, rfl, .ty _, .base (.bl x), kBL, _, rfl, iteF ?_⟩⟩
      refine ⟨_, rfl, rfl, _, rfl, iteDF (by simp) ⟨_, rfl, _, _, _, _, _, rfl, .ty _, .base (.bl x), kBB, _, rfl, iteT ?_⟩⟩
      refine ⟨_, rfl, rfl, _, rfl, rfl, rfl, _, rfl, iteDT (by simp) ?_⟩
      refine ⟨_, rfl, rfl, _, rfl, iteDF (by simp) ?_⟩
      refine ⟨_, rfl, _, _, _, _, _, rfl, .ty _, .base (.bl x), kBB, ?_⟩
      refine ⟨_, rfl, iteT ⟨_, rfl, _, rfl, rfl, ?_⟩⟩
      rw [decide_eq_true rfl]; exact k
    · refine ⟨_, rfl, _, _, _, _, _, rfl, .ty _, .base .non, kNT, _, rfl, iteF ⟨_, rfl, _, _, _, _, _, rfl, .ty _, .base .non, kNL, _, rfl, iteF ?_⟩⟩
      refine ⟨_, rfl, rfl, _, rfl, iteDT (by simp) ?_⟩
      refine ⟨_, rfl, rfl, _, rfl, rfl, rfl, _, rfl, iteDT (by simp) ?_⟩
      refine ⟨_, rfl, rfl, _, rfl, iteDT (by simp) ?_⟩
      refine ⟨_, rfl, iteT ⟨_, rfl, _, rfl, rfl, ?_⟩⟩
      rw [decide_eq_true rfl]; exact k
    · obtain ⟨t, b1, b2, ty1, ty2, k1, k2, hb, sq⟩ : ∃ (t : Value) (b1 b2 : Bool), TyX K H (.ref p) t ∧ TyX K H (.ref q) t ∧ PySem.W.kitOne K t (.type "tuple") = some b1 ∧ PySem.W.kitOne K t (.type "list") = some b2 ∧ (b1 = true ∨ b2 = true) ∧
          ((SqL K H p xs ∧ SqL K H q ys) ∨ (SqT K H p xs ∧ SqT K H q ys)) := by
        rcases hh with ⟨h1, h2⟩ | ⟨h1, h2⟩
        · exact ⟨_, _, _, .base (.lst h1), .base (.lst h2), kLT, kLL, .inr rfl, .inl ⟨SqL.of h1, SqL.of h2⟩⟩
        · exact ⟨_, _, _, h1.ty, h2.ty, kTT, kTL, .inl rfl, .inr ⟨h1.sq, h2.sq⟩⟩
      have sqp : SqL K H p xs ∨ SqT K H p xs := sq.elim (fun z => .inl z.1) fun z => .inr z.1
      have sqq : SqL K H q ys ∨ SqT K H q ys := sq.elim (fun z => .inl z.2) fun z => .inr z.2
      have bz : (ys.length : Int) < 2 ^ 62 := by
        have e : sizeLine = 16777216 := sizeLine_eq
        have : ys.length ≤ 16777216 := by omega
        omega
      -- the part behind the first test
      have rest : ∀ {D : Ends} {t1 : TS}, t1 D [some (.ref p), some (.ref q), none] H → t1 D [some (.ref p), some (.ref q), none] H := fun z => z
      refine ⟨_, rfl, _, _, _, _, _, rfl, .ty _, ty2, k1, _, rfl, iteB (fun e1 => ?_) (fun e1 => ⟨_, rfl, _, _, _, _, _, rfl, .ty _, ty2, k2, _, rfl, iteB (fun e2 => ?_) (fun e2 => ?_)⟩)⟩
      rotate_left 2
      · rcases hb with z | z
        · rw [e1] at z; cases z
        · rw [e2] at z; cases z
      all_goals
        refine ⟨_, rfl, _, _, _, _, _, rfl, .ty _, ty2, k1, _, rfl, _, _, _, _, _, rfl, .ty _, ty1, k1, rfl, _, rfl, iteNF (by simp) ?_⟩
        refine ⟨_, rfl, _, _, _, _, _, rfl, .ty _, ty2, k2, _, rfl, _, _, _, _, _, rfl, .ty _, ty1, k2, rfl, _, rfl, iteNF (by simp) ?_⟩
        refine ⟨_, rfl, _, _, rfl, sqp, _, rfl, _, _, rfl, sqq, rfl, _, rfl, iteNF (by rw [hl]) ?_⟩
        refine ⟨_, rfl, _, _, rfl, sqq, _, rfl, by omega, bz, for_range (lo := 0) (n := ys.length) (fun i σ H' => ∃ kv, σ = [some (.ref p), some (.ref q), kv] ∧ H' = H) ⟨none, rfl, rfl⟩ ?_ ?_⟩
        · rintro i σ H' hi ⟨kv, rfl, rfl⟩
          have hx : xs[i]? = some (xs[i]'(by omega)) := List.getElem?_eq_getElem _
          have hy : ys[i]? = some ys[i] := List.getElem?_eq_getElem _
          have e0 : (0 : Int) + (i : Int) = (i : Int) := by omega
          rw [e0]
          rcases sq with ⟨s1, s2⟩ | ⟨s1, s2⟩
          · refine ⟨_, rfl, _, rfl, .inl ⟨_, _, _, _, rfl, rfl, s1, atI_nat hx, _, rfl, _, rfl, .inl ⟨_, _, _, _, rfl, rfl, s2, atI_nat hy, ?_⟩⟩⟩
            exact ⟨_, _, rfl, hall i _ _ hx hy, _, rfl, iteF ⟨_, rfl, rfl⟩⟩
          · refine ⟨_, rfl, _, rfl, .inr (.inl ⟨_, _, _, _, rfl, rfl, s1, atI_nat hx, _, rfl, _, rfl, .inr (.inl ⟨_, _, _, _, rfl, rfl, s2, atI_nat hy, ?_⟩)⟩)⟩
            exact ⟨_, _, rfl, hall i _ _ hx hy, _, rfl, iteF ⟨_, rfl, rfl⟩⟩
        · rintro σ H' ⟨kv, rfl, rfl⟩
          exact k
end

/-! expressions: data, values, folding -/
inductive Ex where
  | num (n : Int)
  | var (x : Str)
  | long
  | view (e : Ex)
  | pick (x : Str) (l r : Ex)
  | op (s : Str) (l r : Ex)
def dEx : Ex → PyData
  | .num n => .tuple [.str "number", .int n]
  | .var x => .tuple [.str "variable", .str x]
  | .long => .tuple [.str "long"]
  | .view e => .tuple [.str "view", dEx e]
  | .pick x l r => .tuple [.str "pick", .str x, dEx l, dEx r]
  | .op s l r => .tuple [.str s, dEx l, dEx r]
def Ex.dep : Ex → Nat
  | .num _ => 1
  | .var _ => 1
  | .long => 1
  | .view e => e.dep + 1
  | .pick _ l r => max l.dep r.dep + 1
  | .op _ l r => max l.dep r.dep + 1
theorem Ex.dep_pos : ∀ e : Ex, 1 ≤ e.dep
  | .num _ => Nat.le_refl _
  | .var _ => Nat.le_refl _
  | .long => Nat.le_refl _
  | .view e => by unfold Ex.dep; omega
  | .pick _ l r => by unfold Ex.dep; omega
  | .op _ l r => by unfold Ex.dep; omega
def sgL : List Str := ["+", "-", "*", "/", "mod", "<", "="]
def strOK (x : Str) : Bool := x.cps.all (· < 0x110000)
def Ex.Ok (ns ps : List Str) : Ex → Prop
  | .num n => 0 ≤ n ∧ n < 65536
  | .var x => x ∈ ns
  | .long => True
  | .view e => e.Ok ns ps
  | .pick x l r => x ∈ ps ∧ l.Ok ns ps ∧ r.Ok ns ps
  | .op s l r => s ∈ sgL ∧ l.Ok ns ps ∧ r.Ok ns ps
inductive EV (K : PySem.W.Frag) (H : Hp) : V → Ex → Prop
  | num {a : Addr} {n : Int} : At K H a [.str "number", .int n] → EV K H (.ref a) (.num n)
  | var {a : Addr} {x : Str} : At K H a [.str "variable", .str x] → EV K H (.ref a) (.var x)
  | long {a : Addr} : At K H a [.str "long"] → EV K H (.ref a) .long
  | view {a : Addr} {v : V} {e : Ex} : At K H a [.str "view", v] → EV K H v e → EV K H (.ref a) (.view e)
  | pick {a : Addr} {x : Str} {v u : V} {l r : Ex} : At K H a [.str "pick", .str x, v, u] → EV K H v l → EV K H u r → EV K H (.ref a) (.pick x l r)
  | op {a : Addr} {s : Str} {v u : V} {l r : Ex} : At K H a [.str s, v, u] → EV K H v l → EV K H u r → EV K H (.ref a) (.op s l r)
theorem EV.tk {K : PySem.W.Frag} {H H' : Hp} (k : TK H H') {v : V} {e : Ex} (h : EV K H v e) : EV K H' v e := by
  induction h with
  | num h => exact .num (h.tk k)
  | var h => exact .var (h.tk k)
  | long h => exact .long (h.tk k)
  | view h _ i => exact .view (h.tk k) i
  | pick h _ _ i j => exact .pick (h.tk k) i j
  | op h _ _ i j => exact .op (h.tk k) i j
theorem EV.dp {K : PySem.W.Frag} {H : Hp} {v : V} {e : Ex} (h : EV K H v e) : Dp K H v (dEx e) := by
  induction h with
  | num h => exact .tup h.sq (.cons (.str _) (.cons (.int _) .nil))
  | var h => exact .tup h.sq (.cons (.str _) (.cons (.str _) .nil))
  | long h => exact .tup h.sq (.cons (.str _) .nil)
  | view h _ i => exact .tup h.sq (.cons (.str _) (.cons i .nil))
  | pick h _ _ i j => exact .tup h.sq (.cons (.str _) (.cons (.str _) (.cons i (.cons j .nil))))
  | op h _ _ i j => exact .tup h.sq (.cons (.str _) (.cons i (.cons j .nil)))
theorem paired_get {F : V → V → Prop} {xs ys : List V} (h : Paired F xs ys) : xs.length = ys.length ∧ ∀ (i : Nat) x y, xs[i]? = some x → ys[i]? = some y → F x y := by
  induction h with
  | nil => exact ⟨rfl, fun i x y h => by simp at h⟩
  | cons h _ ih =>
    refine ⟨by rw [List.length_cons, List.length_cons, ih.1], fun i x y hx hy => ?_⟩
    cases i with
    | zero => simp at hx hy; subst hx hy; exact h
    | succ i => exact ih.2 i x y (by simpa using hx) (by simpa using hy)
theorem sameT {K : PySem.W.Frag} {H : Hp} {n : Nat} {p q : Addr} {xs ys : List V} (h1 : At K H p xs) (h2 : At K H q ys) (h : Paired (SameV K n H) xs ys) (hl : xs.length ≤ 1000000) : SameV K (n + 1) H (.ref p) (.ref q) :=
  .inr ⟨p, q, _, _, rfl, rfl, .inr ⟨h1, h2⟩, (paired_get h).1, smallM hl, (paired_get h).2⟩
theorem same_ev {K : PySem.W.Frag} {H : Hp} {v : V} {e : Ex} (h : EV K H v e) : ∀ {u : V} {n : Nat}, EV K H u e → e.dep ≤ n → SameV K (n + 1) H v u := by
  have st : ∀ {n : Nat} (x : Str), SameV K (n + 1) H (.str x) (.str x) := fun x => .inl ⟨rfl, .inl ⟨x, rfl⟩⟩
  have it : ∀ {n : Nat} (x : Int), SameV K (n + 1) H (.int x) (.int x) := fun x => .inl ⟨rfl, .inr (.inl ⟨x, rfl⟩)⟩
  induction h with
  | num h =>
    intro u n g d
    obtain ⟨n, rfl⟩ : ∃ m, n = m + 1 := ⟨n - 1, by have : (1 : Nat) ≤ n := d; omega⟩
    cases g with
    | num g => exact sameT h g (.cons (st _) (.cons (it _) .nil)) (by simp)
  | var h =>
    intro u n g d
    obtain ⟨n, rfl⟩ : ∃ m, n = m + 1 := ⟨n - 1, by have : (1 : Nat) ≤ n := d; omega⟩
    cases g with
    | var g => exact sameT h g (.cons (st _) (.cons (st _) .nil)) (by simp)
  | long h =>
    intro u n g d
    obtain ⟨n, rfl⟩ : ∃ m, n = m + 1 := ⟨n - 1, by have : (1 : Nat) ≤ n := d; omega⟩
    cases g with
    | long g => exact sameT h g (.cons (st _) .nil) (by simp)
  | view h _ i =>
    intro u n g d
    unfold Ex.dep at d
    obtain ⟨n, rfl⟩ : ∃ m, n = m + 1 := ⟨n - 1, by omega⟩
    cases g with
    | view g g1 => exact sameT h g (.cons (st _) (.cons (i g1 (by omega)) .nil)) (by simp)
  | pick h _ _ i j =>
    intro u n g d
    unfold Ex.dep at d
    obtain ⟨n, rfl⟩ : ∃ m, n = m + 1 := ⟨n - 1, by omega⟩
    cases g with
    | pick g g1 g2 => exact sameT h g (.cons (st _) (.cons (st _) (.cons (i g1 (by omega)) (.cons (j g2 (by omega)) .nil)))) (by simp)
  | op h _ _ i j =>
    intro u n g d
    unfold Ex.dep at d
    obtain ⟨n, rfl⟩ : ∃ m, n = m + 1 := ⟨n - 1, by omega⟩
    cases g with
    | op g g1 g2 => exact sameT h g (.cons (st _) (.cons (i g1 (by omega)) (.cons (j g2 (by omega)) .nil))) (by simp)
def EQ (a b : Ex) : Bool := PyData.eqv (dEx a) (dEx b)
def dL : Ex → List PyData
  | .num n => [.str "number", .int n]
  | .var x => [.str "variable", .str x]
  | .long => [.str "long"]
  | .view e => [.str "view", dEx e]
  | .pick x l r => [.str "pick", .str x, dEx l, dEx r]
  | .op s l r => [.str s, dEx l, dEx r]
theorem dEx_eq (e : Ex) : dEx e = .tuple (dL e) := by cases e <;> rfl
theorem eqvA_cons (x y : PyData) (xs ys : List PyData) : PyData.eqvAll (x :: xs) (y :: ys) = (PyData.eqv x y && PyData.eqvAll xs ys) := by rw [PyData.eqvAll]
theorem eqvA_len : ∀ xs ys : List PyData, PyData.eqvAll xs ys = true → xs.length = ys.length
  | [], [], _ => rfl
  | [], _ :: _, h => by simp [PyData.eqvAll] at h
  | _ :: _, [], h => by simp [PyData.eqvAll] at h
  | x :: xs, y :: ys, h => by
    rw [eqvA_cons, Bool.and_eq_true] at h
    rw [List.length_cons, List.length_cons, eqvA_len xs ys h.2]
theorem eqv_tup (xs ys : List PyData) : PyData.eqv (.tuple xs) (.tuple ys) = PyData.eqvAll xs ys := by rw [PyData.eqv]
theorem eqv_ti (xs : List PyData) (n : Int) : PyData.eqv (.tuple xs) (.int n) = false := by simp [PyData.eqv]
theorem eqv_it (xs : List PyData) (n : Int) : PyData.eqv (.int n) (.tuple xs) = false := by simp [PyData.eqv]
theorem eqv_ts (xs : List PyData) (n : Str) : PyData.eqv (.tuple xs) (.str n) = false := by simp [PyData.eqv]
theorem eqv_st (xs : List PyData) (n : Str) : PyData.eqv (.str n) (.tuple xs) = false := by simp [PyData.eqv]
theorem eqv_is (m : Int) (n : Str) : PyData.eqv (.int m) (.str n) = false := by simp [PyData.eqv]
theorem eqv_si (m : Int) (n : Str) : PyData.eqv (.str n) (.int m) = false := by simp [PyData.eqv]
theorem eqv_ii {m n : Int} (h : PyData.eqv (.int m) (.int n) = true) : m = n := by simpa [PyData.eqv] using h
theorem eqv_ss {m n : Str} (h : PyData.eqv (.str m) (.str n) = true) : m = n := by simpa [PyData.eqv] using h
theorem eq_sound : ∀ a b : Ex, EQ a b = true → a = b := by
  intro a
  have hEQ : ∀ x y : Ex, EQ x y = PyData.eqvAll (dL x) (dL y) := fun x y => by unfold EQ; rw [dEx_eq, dEx_eq, eqv_tup]
  induction a with
  | num n =>
    intro b h
    rw [hEQ] at h
    have hl := eqvA_len _ _ h
    cases b with
    | num m => simp only [dL, eqvA_cons, Bool.and_eq_true] at h; rw [eqv_ii h.2.1]
    | var m => simp only [dL, eqvA_cons, Bool.and_eq_true, eqv_is] at h; exact absurd h.2.1 (by simp)
    | view m => simp only [dL, eqvA_cons, Bool.and_eq_true] at h; rw [dEx_eq, eqv_it] at h; exact absurd h.2.1 (by simp)
    | _ => simp [dL] at hl
  | var n =>
    intro b h
    rw [hEQ] at h
    have hl := eqvA_len _ _ h
    cases b with
    | num m => simp only [dL, eqvA_cons, Bool.and_eq_true, eqv_si] at h; exact absurd h.2.1 (by simp)
    | var m => simp only [dL, eqvA_cons, Bool.and_eq_true] at h; rw [eqv_ss h.2.1]
    | view m => simp only [dL, eqvA_cons, Bool.and_eq_true] at h; rw [dEx_eq, eqv_st] at h; exact absurd h.2.1 (by simp)
    | _ => simp [dL] at hl
  | long =>
    intro b h
    rw [hEQ] at h
    have hl := eqvA_len _ _ h
    cases b with
    | long => rfl
    | _ => simp [dL] at hl
  | view e i =>
    intro b h
    rw [hEQ] at h
    have hl := eqvA_len _ _ h
    cases b with
    | num m => simp only [dL, eqvA_cons, Bool.and_eq_true] at h; rw [dEx_eq, eqv_ti] at h; exact absurd h.2.1 (by simp)
    | var m => simp only [dL, eqvA_cons, Bool.and_eq_true] at h; rw [dEx_eq, eqv_ts] at h; exact absurd h.2.1 (by simp)
    | view m => simp only [dL, eqvA_cons, Bool.and_eq_true] at h; rw [i m h.2.1]
    | _ => simp [dL] at hl
  | pick x l r i j =>
    intro b h
    rw [hEQ] at h
    have hl := eqvA_len _ _ h
    cases b with
    | pick y l' r' => simp only [dL, eqvA_cons, Bool.and_eq_true] at h; rw [eqv_ss h.2.1, i l' h.2.2.1, j r' h.2.2.2.1]
    | _ => simp [dL] at hl
  | op x l r i j =>
    intro b h
    rw [hEQ] at h
    have hl := eqvA_len _ _ h
    cases b with
    | op y l' r' => simp only [dL, eqvA_cons, Bool.and_eq_true] at h; rw [eqv_ss h.1, i l' h.2.1, j r' h.2.2.1]
    | _ => simp [dL] at hl
theorem sg_ok : ∀ s ∈ sgL, PyData.strOk s = true := by decide +kernel
theorem kw_ok : PyData.strOk "number" = true ∧ PyData.strOk "variable" = true ∧ PyData.strOk "long" = true ∧ PyData.strOk "view" = true ∧ PyData.strOk "pick" = true := by decide +kernel
theorem canLay_ex {ns ps : List Str} (hn : ∀ x ∈ ns, PyData.strOk x = true) (hp : ∀ x ∈ ps, PyData.strOk x = true) : ∀ e : Ex, e.Ok ns ps → (dEx e).canLay0 = true
  | .num _, _ => by simp only [dEx, PyData.canLay0, PyData.canLayAll0, Bool.and_true, kw_ok.1]
  | .var x, h => by simp only [dEx, PyData.canLay0, PyData.canLayAll0, Bool.and_true, hn x h, kw_ok.2.1]
  | .long, _ => by simp only [dEx, PyData.canLay0, PyData.canLayAll0, Bool.and_true, kw_ok.2.2.1]
  | .view e, h => by
    simp only [dEx, PyData.canLay0, PyData.canLayAll0, Bool.and_true, canLay_ex hn hp e h, kw_ok.2.2.2.1]
  | .pick x l r, ⟨h1, h2, h3⟩ => by
    simp only [dEx, PyData.canLay0, PyData.canLayAll0, Bool.and_true, canLay_ex hn hp l h2, canLay_ex hn hp r h3, hp x h1, kw_ok.2.2.2.2]
  | .op s l r, ⟨h1, h2, h3⟩ => by
    simp only [dEx, PyData.canLay0, PyData.canLayAll0, Bool.and_true, canLay_ex hn hp l h2, canLay_ex hn hp r h3, sg_ok s h1]
theorem depth_ex : ∀ e : Ex, (dEx e).depth ≤ e.dep + 1
  | .num _ => by simp [dEx, PyData.depth, PyData.depthAll, Ex.dep]
  | .var x => by simp [dEx, PyData.depth, PyData.depthAll, Ex.dep]
  | .long => by simp [dEx, PyData.depth, PyData.depthAll, Ex.dep]
  | .view e => by have := depth_ex e; simp only [dEx, PyData.depth, PyData.depthAll, Ex.dep]; omega
  | .pick x l r => by have := depth_ex l; have := depth_ex r; simp only [dEx, PyData.depth, PyData.depthAll, Ex.dep]; omega
  | .op s l r => by have := depth_ex l; have := depth_ex r; simp only [dEx, PyData.depth, PyData.depthAll, Ex.dep]; omega
def NamesOk (ns : List Str) : Prop := ∀ x ∈ ns, PyData.strOk x = true
theorem shaped_ex {ns ps : List Str} (hn : NamesOk ns) (hp : NamesOk ps) {e : Ex} (h : e.Ok ns ps) (hd : e.dep ≤ 60) : SeqAt.shaped (dEx e) = true := by
  unfold SeqAt.shaped
  rw [Bool.and_eq_true]
  exact ⟨canLay_ex hn hp e h, decide_eq_true (by have := depth_ex e; omega)⟩
def comb (s : Str) (a b : Int) : Int :=
  if s = "+" then (a + b) % 65536 else if s = "-" then (if a - b > 0 then a - b else 0) else if s = "*" then a * b % 65536 else if s = "/" then (if b > 0 then a / b else 0)
  else if s = "mod" then (if b > 0 then a % b else 0) else if s = "<" then (if a < b then 1 else 0) else (if a = b then 1 else 0)
theorem comb_add (a b : Int) : comb "+" a b = (a + b) % 65536 := by unfold comb; rw [if_pos rfl]
theorem comb_sub (a b : Int) : comb "-" a b = if a - b > 0 then a - b else 0 := by unfold comb; rw [if_neg (by decide +kernel), if_pos rfl]
theorem comb_mul (a b : Int) : comb "*" a b = a * b % 65536 := by unfold comb; rw [if_neg (by decide +kernel), if_neg (by decide +kernel), if_pos rfl]
theorem comb_div (a b : Int) : comb "/" a b = if b > 0 then a / b else 0 := by unfold comb; rw [if_neg (by decide +kernel), if_neg (by decide +kernel), if_neg (by decide +kernel), if_pos rfl]
theorem comb_mod (a b : Int) : comb "mod" a b = if b > 0 then a % b else 0 := by unfold comb; rw [if_neg (by decide +kernel), if_neg (by decide +kernel), if_neg (by decide +kernel), if_neg (by decide +kernel), if_pos rfl]
theorem comb_lt (a b : Int) : comb "<" a b = if a < b then 1 else 0 := by unfold comb; rw [if_neg (by decide +kernel), if_neg (by decide +kernel), if_neg (by decide +kernel), if_neg (by decide +kernel), if_neg (by decide +kernel), if_pos rfl]
theorem comb_eq (a b : Int) : comb "=" a b = if a = b then 1 else 0 := by unfold comb; rw [if_neg (by decide +kernel), if_neg (by decide +kernel), if_neg (by decide +kernel), if_neg (by decide +kernel), if_neg (by decide +kernel), if_neg (by decide +kernel)]
theorem sg_cases {s : Str} (h : s ∈ sgL) : s = "+" ∨ s = "-" ∨ s = "*" ∨ s = "/" ∨ s = "mod" ∨ s = "<" ∨ s = "=" := by
  simpa [sgL] using h
theorem comb_range {s : Str} {a b : Int} (h : s ∈ sgL) (a0 : 0 ≤ a) (a1 : a < 65536) (b0 : 0 ≤ b) (b1 : b < 65536) : 0 ≤ comb s a b ∧ comb s a b < 65536 := by
  rcases sg_cases h with rfl | rfl | rfl | rfl | rfl | rfl | rfl
  · rw [comb_add]; omega
  · rw [comb_sub]; split <;> omega
  · rw [comb_mul]; exact ⟨Int.emod_nonneg _ (by decide), Int.emod_lt_of_pos _ (by decide)⟩
  · rw [comb_div]
    split
    · exact ⟨Int.ediv_nonneg a0 b0, Int.lt_of_le_of_lt (Int.ediv_le_self _ a0) a1⟩
    · omega
  · rw [comb_mod]
    split
    · rename_i hb
      have := Int.emod_lt_of_pos a hb
      exact ⟨Int.emod_nonneg _ (by omega), by omega⟩
    · omega
  · rw [comb_lt]; split <;> omega
  · rw [comb_eq]; split <;> omega
def val (tb : Str → Int) (on : Str → Bool) (seen : List Int) : Ex → Int
  | .num n => n
  | .var x => tb x
  | .long => if (65535 : Int) < seen.length then 65535 else seen.length
  | .view e => if val tb on seen e < seen.length then seen.getD (val tb on seen e).toNat 0 else 0
  | .pick x l r => if on x = true then val tb on seen l else val tb on seen r
  | .op s l r => comb s (val tb on seen l) (val tb on seen r)
def TbOk (ns : List Str) (tb : Str → Int) : Prop := ∀ x ∈ ns, 0 ≤ tb x ∧ tb x < 65536
def SeenOk (seen : List Int) : Prop := ∀ x ∈ seen, 0 ≤ x ∧ x < 65536
theorem val_range {ns ps : List Str} {tb : Str → Int} {on : Str → Bool} {seen : List Int} (ht : TbOk ns tb) (hs : SeenOk seen) : ∀ e : Ex, e.Ok ns ps → 0 ≤ val tb on seen e ∧ val tb on seen e < 65536
  | .num n, h => h
  | .var x, h => ht x h
  | .long, _ => by unfold val; split <;> omega
  | .view e, h => by
    unfold val
    split
    · rename_i q
      have := val_range (on := on) ht hs e h
      have hl : (val tb on seen e).toNat < seen.length := by omega
      rw [List.getD_eq_getElem?_getD, List.getElem?_eq_getElem hl]
      exact hs _ (List.getElem_mem hl)
    · omega
  | .pick x l r, ⟨_, h2, h3⟩ => by
    unfold val
    split
    · exact val_range ht hs l h2
    · exact val_range ht hs r h3
  | .op s l r, ⟨h1, h2, h3⟩ => by
    unfold val
    have a := val_range (on := on) ht hs l h2
    have b := val_range (on := on) ht hs r h3
    exact comb_range h1 a.1 a.2 b.1 b.2
/-! the heap's parts for a value -/
def DcB (H : Hp) (a : Addr) (ps : List Str) (on : Str → Bool) : Prop := ∃ kvs : List (Key × V), H a = some (.dK kvs) ∧ ∀ x ∈ ps, valV kvs (.inr x) = some (.bl (on x))
def DcI (H : Hp) (a : Addr) (ns : List Str) (tb : Str → Int) : Prop := ∃ kvs : List (Key × V), H a = some (.dK kvs) ∧ ∀ x ∈ ns, valV kvs (.inr x) = some (.int (tb x))
theorem DcB.get {H : Hp} {a : Addr} {ps : List Str} {on : Str → Bool} (h : DcB H a ps on) {x : Str} (hx : x ∈ ps) : DGet H a (.str x) (some (.bl (on x))) := by
  obtain ⟨kvs, e, q⟩ := h
  rw [← q x hx]
  exact DGet.k (k := .inr x) e
theorem DcI.get {H : Hp} {a : Addr} {ps : List Str} {on : Str → Int} (h : DcI H a ps on) {x : Str} (hx : x ∈ ps) : DGet H a (.str x) (some (.int (on x))) := by
  obtain ⟨kvs, e, q⟩ := h
  rw [← q x hx]
  exact DGet.k (k := .inr x) e

theorem nes {x y : Str} (h : x ≠ y) : ¬ V.str x = V.str y := fun z => h (V.str.inj z)
theorem sg_not : ∀ s ∈ sgL, s ≠ "number" ∧ s ≠ "variable" ∧ s ≠ "long" ∧ s ≠ "view" ∧ s ≠ "pick" := by decide +kernel
def sp_combine : Sp := fun vs H Q _ => ∃ s a b, vs = [.str s, .int a, .int b] ∧ s ∈ sgL ∧ 0 ≤ a ∧ a < 65536 ∧ 0 ≤ b ∧ b < 65536 ∧ Q (.int (comb s a b)) H
structure VEnv (K : PySem.W.Frag) (H : Hp) (td od sa : Addr) (ns ps : List Str) (tb : Str → Int) (on : Str → Bool) (seen : List Int) : Prop where
  t : DcI H td ns tb
  o : DcB H od ps on
  s : SqT K H sa (seen.map V.int)
  tok : TbOk ns tb
  sok : SeenOk seen
  len : seen.length ≤ 1000000
def sp_value (K : PySem.W.Frag) (n : Nat) : Sp := fun vs H Q _ => ∃ v td od sa e ns ps tb on seen, vs = [v, .ref td, .ref od, .ref sa] ∧ EV K H v e ∧ e.Ok ns ps ∧ e.dep ≤ n ∧ VEnv K H td od sa ns ps tb on seen ∧ Q (.int (val tb on seen e)) H
theorem ev_range {K : PySem.W.Frag} {H : Hp} {v : V} {e : Ex} {ns ps : List Str} {tb : Str → Int} {on : Str → Bool} {seen : List Int} (ht : TbOk ns tb) (hs : SeenOk seen) (_ : EV K H v e) (h : e.Ok ns ps) : 0 ≤ val tb on seen e ∧ val tb on seen e < 65536 := val_range ht hs e h
theorem seen_at {seen : List Int} {z : Int} (h0 : 0 ≤ z) (h : z < seen.length) : atI (seen.map V.int) z = some (.int (seen.getD z.toNat 0)) := by
  obtain ⟨m, rfl⟩ : ∃ m : Nat, z = (m : Int) := ⟨z.toNat, by omega⟩
  have hm : m < seen.length := by omega
  refine atI_nat ?_
  rw [List.getElem?_map, List.getD_eq_getElem?_getD, Int.toNat_natCast, List.getElem?_eq_getElem hm]; rfl
section
variable {P : Program} {w : World} {K : PySem.W.Frag} {mg : Str → Option Value} {base : Heap} {T_SIGNS : Addr}
theorem ok_combine {f : Addr} {fd : FuncData} (D : C8.Def K mg "combine" s_combine f fd) (b : Binds K fd ["sign", "left", "right"] []) (T : Txt K mg T_SIGNS) {k : Nat} : C8.Cal P w K mg base (k + 1) "combine" sp_combine [] := by
  refine cal0 D b .nil sc_combine (fun vs H Q E h => ?_) (fun cdv A outer s H vs Q E hr h => ?_)
  · obtain ⟨s, a, b, rfl, _⟩ := h
    rfl
  · obtain ⟨s, x, y, rfl, hs, x0, x1, y0, y1, k⟩ := h
    refine ⟨_, (pss_cons (ps_if (pt_cmpR op_eq (pv 0) pe_str (nomark _))
  (pss_one (ps_ret (pe_op op_mod (pe_op op_add (pv 1) (pv 2)) (pe_op op_add (pe_gc rfl T.v_GREATEST) pe_int))))
  pss_nil)
(pss_cons (ps_if (pt_cmpR op_eq (pv 0) pe_str (nomark _))
  (pss_one (ps_ret (pe_callB (call_max2 rfl) (by rfl) T.n_max bo_max (pa_cons pe_int (pa_cons (pe_op op_sub (pv 1) (pv 2)) pa_nil)))))
  pss_nil)
(pss_cons (ps_if (pt_cmpR op_eq (pv 0) pe_str (nomark _))
  (pss_one (ps_ret (pe_op op_mod (pe_op op_mul (pv 1) (pv 2)) (pe_op op_add (pe_gc rfl T.v_GREATEST) pe_int))))
  pss_nil)
(pss_cons (ps_if (pt_cmpR op_eq (pv 0) pe_str (nomark _))
  (pss_one (ps_ret (pe_ifExp (pt_cmpR op_gt (pv 2) pe_int (nomark _)) (pe_op op_fdiv (pv 1) (pv 2)) pe_int)))
  pss_nil)
(pss_cons (ps_if (pt_cmpR op_eq (pv 0) pe_str (nomark _))
  (pss_one (ps_ret (pe_ifExp (pt_cmpR op_gt (pv 2) pe_int (nomark _)) (pe_op op_mod (pv 1) (pv 2)) pe_int)))
  pss_nil)
(pss_cons (ps_if (pt_cmpR op_eq (pv 0) pe_str (nomark _))
  (pss_one (ps_ret (pe_callTy call_int1 (by rfl) T.n_int bo_int (pa_cons (pe_cmpR op_lt (pv 1) (pv 2) (nomark _)) pa_nil))))
  pss_nil)
(pss_one (ps_ret (pe_callTy call_int1 (by rfl) T.n_int bo_int (pa_cons (pe_cmpR op_eq (pv 1) (pv 2) (nomark _)) pa_nil)))))))))), ?_⟩
    refine ⟨_, rfl, rfl, _, rfl, iteD (fun e => ?_) (fun e1 => ?_)⟩
    · rw [V.str.inj e, comb_add] at k
      exact ⟨_, rfl, _, rfl, _, _, rfl, rfl, _, _, rfl, rfl, _, _, rfl, rfl, (by show (0 : Int) < _; decide), k⟩
    refine ⟨_, rfl, rfl, _, rfl, iteD (fun e => ?_) (fun e2 => ?_)⟩
    · rw [V.str.inj e, comb_sub] at k
      exact ⟨_, rfl, _, rfl, _, _, rfl, rfl, _, _, rfl, k⟩
    refine ⟨_, rfl, rfl, _, rfl, iteD (fun e => ?_) (fun e3 => ?_)⟩
    · rw [V.str.inj e, comb_mul] at k
      exact ⟨_, rfl, _, rfl, _, _, rfl, rfl, .inl ⟨by omega, by omega⟩, _, _, rfl, rfl, _, _, rfl, rfl, (by show (0 : Int) < _; decide), k⟩
    refine ⟨_, rfl, rfl, _, rfl, iteD (fun e => ?_) (fun e4 => ?_)⟩
    · rw [V.str.inj e, comb_div] at k
      refine ⟨_, rfl, _, _, rfl, rfl, _, rfl, iteD (fun h => ?_) (fun h => ?_)⟩
      · rw [if_pos h] at k
        exact ⟨_, rfl, _, rfl, _, _, rfl, rfl, ⟨h, by omega⟩, k⟩
      · rw [if_neg h] at k
        exact k
    refine ⟨_, rfl, rfl, _, rfl, iteD (fun e => ?_) (fun e5 => ?_)⟩
    · rw [V.str.inj e, comb_mod] at k
      refine ⟨_, rfl, _, _, rfl, rfl, _, rfl, iteD (fun h => ?_) (fun h => ?_)⟩
      · rw [if_pos h] at k
        exact ⟨_, rfl, _, rfl, _, _, rfl, rfl, h, k⟩
      · rw [if_neg h] at k
        exact k
    refine ⟨_, rfl, rfl, _, rfl, iteD (fun e => ?_) (fun e6 => ?_)⟩
    · rw [V.str.inj e, comb_lt] at k
      refine ⟨_, rfl, _, rfl, _, _, rfl, rfl, .inr ⟨_, rfl, ?_⟩⟩
      by_cases h : x < y
      · rw [if_pos h] at k; rw [decide_eq_true h]; exact k
      · rw [if_neg h] at k; rw [decide_eq_false h]; exact k
    · have hs7 : s = "=" := by
        rcases sg_cases hs with rfl | rfl | rfl | rfl | rfl | rfl | rfl
        · exact absurd rfl e1
        · exact absurd rfl e2
        · exact absurd rfl e3
        · exact absurd rfl e4
        · exact absurd rfl e5
        · exact absurd rfl e6
        · rfl
      rw [hs7, comb_eq] at k
      refine ⟨_, rfl, _, rfl, rfl, .inr ⟨_, rfl, ?_⟩⟩
      by_cases h : x = y
      · rw [if_pos h] at k; rw [decide_eq_true (congrArg V.int h)]; exact k
      · rw [if_neg h] at k; rw [decide_eq_false (fun z => h (V.int.inj z))]; exact k
theorem ok_value0 {f : Addr} {fd : FuncData} (D : C8.Def K mg "value_of" s_value_of f fd) {ds : List Value} (d : Vals [] ds) (b : Binds K fd ["expression", "table", "on", "seen"] ds) : C8.Cal P w K mg base 1 "value_of" (sp_value K 0) [] :=
  ⟨f, fd, ["expression", "table", "on", "seen"], ds, ⟨fun vs H Q E h => (by obtain ⟨v, td, od, sa, e, ns, ps, tb, on, seen, rfl, _⟩ := h; rfl), fun A outer s H args us vs Q E _ _ _ _ h => (by obtain ⟨v, td, od, sa, e, ns, ps, tb, on, seen, _, _, _, z, _⟩ := h; have := e.dep_pos; omega)⟩, D.mgf, D.kp, b, d⟩
theorem ok_value {f : Addr} {fd : FuncData} (D : C8.Def K mg "value_of" s_value_of f fd) {ds : List Value} (d : Vals [] ds) (b : Binds K fd ["expression", "table", "on", "seen"] ds) (T : Txt K mg T_SIGNS) {n k : Nat}
    (c_value_of : C8.Cal P w K mg base k "value_of" (sp_value K n) []) (c_combine : C8.Cal P w K mg base k "combine" sp_combine []) : C8.Cal P w K mg base (k + 1) "value_of" (sp_value K (n + 1)) [] := by
  refine cal0 D b d sc_value_of (fun vs H Q E h => ?_) (fun cdv A outer s H vs Q E hr h => ?_)
  · obtain ⟨v, td, od, sa, e, ns, ps, tb, on, seen, rfl, _⟩ := h
    rfl
  · obtain ⟨v, td, od, sa, e, ns, ps, tb, on, seen, rfl, he, hok, hd, V, k⟩ := h
    have hu := hu_of hr
    refine ⟨_, (pss_cons (ps_set (i := 4) sc_value_of.nd rfl (by first | exact Or.inl rfl | exact Or.inr rfl) (pe_ix ix_tup (pv 0) pe_int (fun _ _ => rfl)))
(pss_cons (ps_if (pt_cmpR op_eq (pv 4) pe_str (nomark _))
  (pss_one (ps_ret (pe_ix ix_tup (pv 0) pe_int (fun _ _ => rfl))))
  pss_nil)
(pss_cons (ps_if (pt_cmpR op_eq (pv 4) pe_str (nomark _))
  (pss_one (ps_ret (pe_dget hu (pv 1) (pe_ix ix_tup (pv 0) pe_int (fun _ _ => rfl)) (fun _ _ => rfl))))
  pss_nil)
(pss_cons (ps_if (pt_cmpR op_eq (pv 4) pe_str (nomark _))
  (pss_one (ps_ret (pe_callB (call_min2 rfl) (by rfl) T.n_min bo_min (pa_cons (pe_callB call_len_seq (by rfl) T.n_len bo_len (pa_cons (pv 3) pa_nil)) (pa_cons (pe_gc rfl T.v_GREATEST) pa_nil)))))
  pss_nil)
(pss_cons (ps_if (pt_cmpR op_eq (pv 4) pe_str (nomark _))
  (pss_cons (ps_set (i := 5) sc_value_of.nd rfl (by first | exact Or.inl rfl | exact Or.inr rfl) (pe_c c_value_of hr (by first | exact Nat.le_refl _ | decide) rfl (pa_cons (pe_ix ix_tup (pv 0) pe_int (fun _ _ => rfl)) (pa_cons (pv 1) (pa_cons (pv 2) (pa_cons (pv 3) pa_nil))))))
  (pss_one (ps_ret (pe_ifExp (pt_cmpR op_lt (pv 5) (pe_callB call_len_seq (by rfl) T.n_len bo_len (pa_cons (pv 3) pa_nil)) (nomark _)) (pe_ix ix_tup (pv 3) (pv 5) (fun _ _ => rfl)) pe_int))))
  pss_nil)
(pss_cons (ps_if (pt_cmpR op_eq (pv 4) pe_str (nomark _))
  (pss_cons (ps_set (i := 6) sc_value_of.nd rfl (by first | exact Or.inl rfl | exact Or.inr rfl) (pe_ifExp (pt_val (pe_dget hu (pv 2) (pe_ix ix_tup (pv 0) pe_int (fun _ _ => rfl)) (fun _ _ => rfl))) (pe_ix ix_tup (pv 0) pe_int (fun _ _ => rfl)) (pe_ix ix_tup (pv 0) pe_int (fun _ _ => rfl))))
  (pss_one (ps_ret (pe_c c_value_of hr (by first | exact Nat.le_refl _ | decide) rfl (pa_cons (pv 6) (pa_cons (pv 1) (pa_cons (pv 2) (pa_cons (pv 3) pa_nil))))))))
  pss_nil)
(pss_cons (ps_set (i := 7) sc_value_of.nd rfl (by first | exact Or.inl rfl | exact Or.inr rfl) (pe_c c_value_of hr (by first | exact Nat.le_refl _ | decide) rfl (pa_cons (pe_ix ix_tup (pv 0) pe_int (fun _ _ => rfl)) (pa_cons (pv 1) (pa_cons (pv 2) (pa_cons (pv 3) pa_nil))))))
(pss_cons (ps_set (i := 8) sc_value_of.nd rfl (by first | exact Or.inl rfl | exact Or.inr rfl) (pe_c c_value_of hr (by first | exact Nat.le_refl _ | decide) rfl (pa_cons (pe_ix ix_tup (pv 0) pe_int (fun _ _ => rfl)) (pa_cons (pv 1) (pa_cons (pv 2) (pa_cons (pv 3) pa_nil))))))
(pss_one (ps_ret (pe_c c_combine hr (by first | exact Nat.le_refl _ | decide) rfl (pa_cons (pv 4) (pa_cons (pv 7) (pa_cons (pv 8) pa_nil)))))))))))))), ?_⟩
    cases he with
    | num h =>
      refine ⟨_, rfl, _, _, _, _, rfl, rfl, h.sq, rfl, _, rfl, rfl, _, rfl, iteDT rfl ?_⟩
      exact ⟨_, rfl, _, _, _, _, rfl, rfl, h.sq, rfl, k⟩
    | var h =>
      refine ⟨_, rfl, _, _, _, _, rfl, rfl, h.sq, rfl, _, rfl, rfl, _, rfl, iteDF (nes (by decide +kernel)) ?_⟩
      refine ⟨_, rfl, rfl, _, rfl, iteDT rfl ?_⟩
      exact ⟨_, rfl, _, rfl, _, _, _, _, rfl, rfl, h.sq, rfl, _, _, rfl, V.t.get hok, k⟩
    | long h =>
      refine ⟨_, rfl, _, _, _, _, rfl, rfl, h.sq, rfl, _, rfl, rfl, _, rfl, iteDF (nes (by decide +kernel)) ?_⟩
      refine ⟨_, rfl, rfl, _, rfl, iteDF (nes (by decide +kernel)) ?_⟩
      refine ⟨_, rfl, rfl, _, rfl, iteDT rfl ?_⟩
      refine ⟨_, rfl, _, _, rfl, .inr V.s, _, _, rfl, ?_⟩
      rw [List.length_map]; exact k
    | view h h1 =>
      refine ⟨_, rfl, _, _, _, _, rfl, rfl, h.sq, rfl, _, rfl, rfl, _, rfl, iteDF (nes (by decide +kernel)) ?_⟩
      refine ⟨_, rfl, rfl, _, rfl, iteDF (nes (by decide +kernel)) ?_⟩
      refine ⟨_, rfl, rfl, _, rfl, iteDF (nes (by decide +kernel)) ?_⟩
      refine ⟨_, rfl, rfl, _, rfl, iteDT rfl ?_⟩
      have hr2 := ev_range (on := on) V.tok V.sok h1 hok
      refine ⟨_, rfl, _, _, _, _, rfl, rfl, h.sq, rfl, _, rfl, _, rfl, _, rfl, _, td, od, sa, _, ns, ps, tb, on, seen, rfl, h1, hok, (by unfold Ex.dep at hd; omega), V, ?_⟩
      refine ⟨_, rfl, _, rfl, _, _, rfl, .inr V.s, _, _, rfl, rfl, _, rfl, iteD (fun q => ?_) (fun q => ?_)⟩
      · rw [List.length_map] at q
        refine ⟨_, rfl, _, rfl, _, _, _, _, rfl, rfl, V.s, seen_at hr2.1 q, ?_⟩
        unfold val at k
        rw [if_pos q] at k
        exact k
      · rw [List.length_map] at q
        unfold val at k
        rw [if_neg q] at k
        exact k
    | pick h h1 h2 =>
      refine ⟨_, rfl, _, _, _, _, rfl, rfl, h.sq, rfl, _, rfl, rfl, _, rfl, iteDF (nes (by decide +kernel)) ?_⟩
      refine ⟨_, rfl, rfl, _, rfl, iteDF (nes (by decide +kernel)) ?_⟩
      refine ⟨_, rfl, rfl, _, rfl, iteDF (nes (by decide +kernel)) ?_⟩
      refine ⟨_, rfl, rfl, _, rfl, iteDF (nes (by decide +kernel)) ?_⟩
      refine ⟨_, rfl, rfl, _, rfl, iteDT rfl ?_⟩
      unfold val at k
      unfold Ex.dep at hd
      refine ⟨_, rfl, _, rfl, _, _, _, _, rfl, rfl, h.sq, rfl, _, _, rfl, V.o.get hok.1, _, rfl, iteB (fun q => ?_) (fun q => ?_)⟩
      · rw [if_pos q] at k
        refine ⟨_, rfl, _, _, _, _, rfl, rfl, h.sq, rfl, ?_⟩
        exact ⟨_, rfl, _, rfl, _, rfl, _, rfl, _, td, od, sa, _, ns, ps, tb, on, seen, rfl, h1, hok.2.1, (by omega), V, k⟩
      · rw [if_neg (by simp [q])] at k
        refine ⟨_, rfl, _, _, _, _, rfl, rfl, h.sq, rfl, ?_⟩
        exact ⟨_, rfl, _, rfl, _, rfl, _, rfl, _, td, od, sa, _, ns, ps, tb, on, seen, rfl, h2, hok.2.2, (by omega), V, k⟩
    | op h h1 h2 =>
      obtain ⟨n1, n2, n3, n4, n5⟩ := sg_not _ hok.1
      refine ⟨_, rfl, _, _, _, _, rfl, rfl, h.sq, rfl, _, rfl, rfl, _, rfl, iteDF (nes n1) ?_⟩
      refine ⟨_, rfl, rfl, _, rfl, iteDF (nes n2) ?_⟩
      refine ⟨_, rfl, rfl, _, rfl, iteDF (nes n3) ?_⟩
      refine ⟨_, rfl, rfl, _, rfl, iteDF (nes n4) ?_⟩
      refine ⟨_, rfl, rfl, _, rfl, iteDF (nes n5) ?_⟩
      unfold val at k
      unfold Ex.dep at hd
      have ha := val_range (on := on) V.tok V.sok _ hok.2.1
      have hb := val_range (on := on) V.tok V.sok _ hok.2.2
      refine ⟨_, rfl, _, _, _, _, rfl, rfl, h.sq, rfl, _, rfl, _, rfl, _, rfl, _, td, od, sa, _, ns, ps, tb, on, seen, rfl, h1, hok.2.1, (by omega), V, ?_⟩
      refine ⟨_, rfl, _, _, _, _, rfl, rfl, h.sq, rfl, _, rfl, _, rfl, _, rfl, _, td, od, sa, _, ns, ps, tb, on, seen, rfl, h2, hok.2.2, (by omega), V, ?_⟩
      exact ⟨_, rfl, _, rfl, _, rfl, _, _, _, rfl, hok.1, ha.1, ha.2, hb.1, hb.2, k⟩
end

/-! names that are drawn -/
def kwL : List Str := ["option", "on", "off", "var", "round", "end", "set", "if", "else", "when", "draw", "first", "second", "show", "both", "pay", "take", "pick", "mod", "player", "keep", "lot", "while", "answer", "view", "long"]
theorem keys_text : Txt.split (("option on off var round end set if else when draw first second show both pay take pick mod player keep lot" : Str) ++ (" while answer view long" : Str)) " " = kwL := by decide +kernel
def sp_law_keys : Sp := fun vs H Q _ => vs = [] ∧ ∀ l H', H l = none → H' l = some (.lst (kwL.map V.str)) → Keep [] H H' → Q (.ref l) H'
theorem strOk_tl (z : Str) : PyData.strOk z = (TL.tl z).all (fun c => decide (c < 0x110000)) := by
  unfold PyData.strOk TL.tl
  rw [Array.all_toList]
theorem strOk_app (a b : Str) : PyData.strOk (a ++ b) = (PyData.strOk a && PyData.strOk b) := by
  rw [strOk_tl, strOk_tl, strOk_tl, TL.tl_append, List.all_append]
theorem strOk_sign {sg : Str} (h : PyData.strOk sg = true) {i : Nat} {c : Nat} (hc : (TL.tl sg)[i]? = some c) : PyData.strOk ⟨#[c]⟩ = true := by
  rw [strOk_tl] at h
  have := List.all_eq_true.mp h c (List.mem_of_getElem? hc)
  rw [strOk_tl]
  show ([c].all _) = true
  simpa using this
theorem len_appN (a b : Str) : (a ++ b).length = a.length + b.length := by rw [TL.len_tl, TL.tl_append, List.length_append, ← TL.len_tl, ← TL.len_tl]
theorem inV_strs (z : Str) : ∀ ys : List Str, inV (.str z) (ys.map V.str) = decide (z ∈ ys)
  | [] => rfl
  | y :: r => by
    have ih := inV_strs z r
    unfold inV at ih ⊢
    rw [List.map_cons, List.any_cons, ih]
    show ((y == z) || decide (z ∈ r)) = decide (z ∈ y :: r)
    by_cases h : y = z
    · subst h; simp
    · have : (y == z) = false := by simpa using h
      rw [this, Bool.false_or]
      simp only [List.mem_cons]
      exact decide_eq_decide.mpr ⟨.inr, fun q => q.elim (fun q => absurd q.symm h) id⟩
theorem flat_strs (ys : List Str) : (ys.map V.str).all flatV = true := by
  rw [List.all_eq_true]
  intro x hx
  obtain ⟨y, _, rfl⟩ := List.mem_map.mp hx
  rfl
def vN (k : Nat) : Str := ("v" : Str) ++ Str.ofString (toString ((k : Nat) : Int))
theorem vN_ok : ∀ k, k < 20 → PyData.strOk (vN k) = true ∧ (vN k).length ≤ 10 := by decide +kernel
theorem vN_nodup : ((List.range 20).map vN).Nodup := by decide +kernel
theorem nodup_le {α : Type} [DecidableEq α] : ∀ (l t : List α), l.Nodup → (∀ x ∈ l, x ∈ t) → l.length ≤ t.length
  | [], t, _, _ => Nat.zero_le _
  | a :: r, t, h, hs => by
    have hn := List.nodup_cons.mp h
    have ha : a ∈ t := hs a (List.mem_cons_self ..)
    have := nodup_le r (t.erase a) hn.2 fun x hx => (List.mem_erase_of_ne (by intro q; subst q; exact hn.1 hx)).mpr (hs x (List.mem_cons_of_mem _ hx))
    rw [List.length_erase_of_mem ha] at this
    have hp : 0 < t.length := List.length_pos_of_mem ha
    rw [List.length_cons]; omega
theorem vN_free {ys : List Str} (h : ys.length < 20) (hall : ∀ j, j < 20 → vN j ∈ ys) : False := by
  have := nodup_le _ ys vN_nodup (fun x hx => by
    obtain ⟨j, hj, rfl⟩ := List.mem_map.mp hx
    exact hall j (List.mem_range.mp hj))
  rw [List.length_map, List.length_range] at this
  omega
def sp_law_spend : Sp := fun vs H Q _ => ∃ p q ns, vs = [.ref p] ∧ Pool H p q ns ∧ ∀ b H', Pool H' p q ns → Keep [p] H H' → Q (.bl b) H'
def sp_law_number : Sp := fun vs H Q _ => ∃ p q ns, vs = [.ref p] ∧ Pool H p q ns ∧ ∀ r H', 0 ≤ r → r < 65536 → Pool H' p q ns → Keep [p] H H' → Q (.int r) H'
def sp_law_name : Sp := fun vs H Q _ => ∃ (p q l : Addr) (ns : List Int) (ys : List Str), vs = [.ref p, .ref l] ∧ H l = some (.lst (ys.map V.str)) ∧ l ≠ p ∧ ys.length < 20 ∧ Pool H p q ns ∧
  ∀ z H', z ∉ ys → PyData.strOk z = true → z.length ≤ 20 → Pool H' p q ns → Keep [p] H H' → Q (.str z) H'
def sp_law_names : Sp := fun vs H Q _ => ∃ (p q : Addr) (ns : List Int) (m : Int), vs = [.ref p, .int m] ∧ 0 ≤ m ∧ m < 20 ∧ Pool H p q ns ∧
  ∀ l (ys : List Str) H', H l = none → H' l = some (.lst (ys.map V.str)) → ys.length ≤ m.toNat → ys.Nodup → NamesOk ys → (∀ y ∈ ys, y.length ≤ 20) → Pool H' p q ns → Keep [p] H H' → Q (.ref l) H'
section
variable {P : Program} {w : World} {K : PySem.W.Frag} {mg : Str → Option Value} {base : Heap} {T_SIGNS : Addr}
theorem ok_law_keys {f : Addr} {fd : FuncData} (D : C8.Def K mg "_law_keys" s_law_keys f fd) (b : Binds K fd [] []) (T : Txt K mg T_SIGNS) : C8.Cal P w K mg base 1 "_law_keys" sp_law_keys [] := by
  refine cal0 D b .nil sc_law_keys (fun vs H Q E h => ?_) (fun cdv A outer s H vs Q E hr h => ?_)
  · obtain ⟨rfl, _⟩ := h
    rfl
  · obtain ⟨rfl, k⟩ := h
    refine ⟨_, (pss_cons (ps_set (i := 0) sc_law_keys.nd rfl (by first | exact Or.inl rfl | exact Or.inr rfl) pe_str)
(pss_one (ps_ret (pe_split (pe_op op_add_str (pv 0) pe_str) pe_str)))), ?_⟩
    refine ⟨_, rfl, _, _, rfl, rfl, by decide +kernel, ⟨_, rfl⟩, _, _, rfl, rfl, by decide +kernel, by decide +kernel, fun p hp => k p _ hp ?_ (Keep.new hp)⟩
    rw [keys_text]; exact upd_same
theorem ok_law_spend {f : Addr} {fd : FuncData} (D : C8.Def K mg "_law_spend" s_law_spend f fd) (b : Binds K fd ["pool"] []) (T : Txt K mg T_SIGNS) {k : Nat} : C8.Cal P w K mg base (k + 1) "_law_spend" sp_law_spend [] := by
  refine cal0 D b .nil sc_law_spend (fun vs H Q E h => ?_) (fun cdv A outer s H vs Q E hr h => ?_)
  · obtain ⟨p, q, ns, rfl, _⟩ := h
    rfl
  · obtain ⟨p, q, ns, rfl, ⟨i1, i2, i3, i4, i5, h1, h2, h3, h4⟩, k⟩ := h
    refine ⟨_, (pss_cons (ps_asg (pe_op op_sub (pe_ix ix_list (pv 0) pe_int (fun _ _ => rfl)) pe_int) (pg_sub (pv 0) pe_int set_list))
(pss_one (ps_ret (pe_cmpR op_ge (pe_ix ix_list (pv 0) pe_int (fun _ _ => rfl)) pe_int (nomark _))))), ?_⟩
    refine ⟨_, rfl, _, _, _, _, rfl, rfl, SqL.of h1, rfl, _, _, rfl, rfl, _, rfl, _, _, _, _, rfl, rfl, h1, rfl, ?_⟩
    refine ⟨_, rfl, _, _, _, _, rfl, rfl, SqL.of upd_same, rfl, _, _, rfl, rfl, ?_⟩
    exact k _ _ ⟨_, _, _, _, _, upd_same, (by rw [upd_ne h3]; exact h2), h3, h4⟩ (Keep.at_ (List.mem_singleton.mpr rfl))
theorem ok_law_number {f : Addr} {fd : FuncData} (D : C8.Def K mg "_law_number" s_law_number f fd) (b : Binds K fd ["pool"] []) (T : Txt K mg T_SIGNS) {k : Nat} (c_law_draw : C8.Cal P w K mg base k "_law_draw" sp_law_draw []) : C8.Cal P w K mg base (k + 1) "_law_number" sp_law_number [] := by
  refine cal0 D b .nil sc_law_number (fun vs H Q E h => ?_) (fun cdv A outer s H vs Q E hr h => ?_)
  · obtain ⟨p, q, ns, rfl, _⟩ := h
    rfl
  · obtain ⟨p, q, ns, rfl, hP, k⟩ := h
    refine ⟨_, (pss_cons (ps_if (pt_cmpR op_eq (pe_c c_law_draw hr (by first | exact Nat.le_refl _ | decide) rfl (pa_cons (pv 0) (pa_cons pe_int pa_nil))) pe_int (nomark _))
  (pss_one (ps_ret (pe_c c_law_draw hr (by first | exact Nat.le_refl _ | decide) rfl (pa_cons (pv 0) (pa_cons pe_int pa_nil)))))
  pss_nil)
(pss_one (ps_ret (pe_c c_law_draw hr (by first | exact Nat.le_refl _ | decide) rfl (pa_cons (pv 0) (pa_cons pe_int pa_nil)))))), ?_⟩
    refine ⟨_, rfl, p, q, ns, 3, rfl, by decide, by decide, hP, fun r H1 r0 r1 P1 K1 => ?_⟩
    refine ⟨rfl, _, rfl, iteD (fun _ => ?_) (fun _ => ?_)⟩
    · exact ⟨_, rfl, p, q, ns, _, rfl, by decide, by decide, P1, fun r2 H2 z0 z1 P2 K2 => k _ _ z0 z1 P2 (K1.trans K2)⟩
    · exact ⟨_, rfl, p, q, ns, _, rfl, by decide, by decide, P1, fun r2 H2 z0 z1 P2 K2 => k _ _ z0 (by omega) P2 (K1.trans K2)⟩
theorem ok_law_name {f : Addr} {fd : FuncData} (D : C8.Def K mg "_law_name" s_law_name f fd) (b : Binds K fd ["pool", "taken"] []) (T : Txt K mg T_SIGNS) (c_law_draw : C8.Cal P w K mg base 1 "_law_draw" sp_law_draw []) (c_law_few : C8.Cal P w K mg base 2 "_law_few" sp_law_few [])
    (c_law_keys : C8.Cal P w K mg base 1 "_law_keys" sp_law_keys []) : C8.Cal P w K mg base 3 "_law_name" sp_law_name [] := by
  refine cal0 D b .nil sc_law_name (fun vs H Q E h => ?_) (fun cdv A outer s H vs Q E hr h => ?_)
  · obtain ⟨p, q, l, ns, ys, rfl, _⟩ := h
    rfl
  · obtain ⟨p, q, l, ns, ys, rfl, hl, nlp, hlen, hP, k⟩ := h
    refine ⟨_, (pss_cons (ps_set (i := 2) sc_law_name.nd rfl (by first | exact Or.inl rfl | exact Or.inr rfl) pe_str)
(pss_cons (ps_set (i := 3) sc_law_name.nd rfl (by first | exact Or.inl rfl | exact Or.inr rfl) (pe_ix ix_str (pv 2) (pe_c c_law_draw hr (by first | exact Nat.le_refl _ | decide) rfl (pa_cons (pv 0) (pa_cons pe_int pa_nil))) (fun _ _ => rfl)))
(pss_cons (ps_for PassesOwn.never rfl (pi_range1 (by rfl) T.n_range (pa_cons (pe_c c_law_few hr (by first | exact Nat.le_refl _ | decide) rfl (pa_cons (pv 0) (pa_cons pe_int pa_nil))) pa_nil)) (pg_name (i := 4) sc_law_name.nd rfl (by first | exact Or.inl rfl | exact Or.inr rfl))
  (pss_one (ps_set (i := 3) sc_law_name.nd rfl (by first | exact Or.inl rfl | exact Or.inr rfl) (pe_op op_add_str (pv 3) (pe_ix ix_str (pv 2) (pe_c c_law_draw hr (by first | exact Nat.le_refl _ | decide) rfl (pa_cons (pv 0) (pa_cons pe_int pa_nil))) (fun _ _ => rfl))))))
(pss_cut (ps_if (PW.pt (pw_or (pt_cmpR op_in_seq (pv 3) (pv 1) (by rfl)) (pw_or1 (pt_cmpR op_in_seq (pv 3) (pe_c0 c_law_keys hr (by first | exact Nat.le_refl _ | decide) rfl) (by rfl)))))
  (pss_one (ps_for PassesOwn.never rfl (pi_range1 (by rfl) T.n_range (pa_cons pe_int pa_nil)) (pg_name (i := 4) sc_law_name.nd rfl (by first | exact Or.inl rfl | exact Or.inr rfl))
    (pss_one (ps_if (pt_cmpR op_notIn_seq (pe_op op_add_str pe_str (pe_callTy call_str_int (by rfl) T.n_str bo_str (pa_cons (pv 4) pa_nil))) (pv 1) (by rfl))
      (pss_one (ps_set (i := 3) sc_law_name.nd rfl (by first | exact Or.inl rfl | exact Or.inr rfl) (pe_op op_add_str pe_str (pe_callTy call_str_int (by rfl) T.n_str bo_str (pa_cons (pv 4) pa_nil)))))
      pss_nil))))
  pss_nil)
(pss_one (ps_ret (pv 3))))))), ?_⟩
    obtain ⟨sg, hsgv, hsg, hso⟩ : ∃ sg : Str, sg = ("abcdefghijklmnopqrstuvwxyz0123456789" : Str) ∧ sg.length = 36 ∧ PyData.strOk sg = true := ⟨_, rfl, by decide +kernel, by decide +kernel⟩
    rw [← hsgv]
    have hsl : (TL.tl sg).length = 36 := by rw [← TL.len_tl]; exact hsg
    have l1 : ∀ c : Nat, (⟨#[c]⟩ : Str).length = 1 := fun _ => rfl
    refine ⟨_, rfl, _, rfl, p, q, ns, 26, rfl, by decide, by decide, hP, fun r H1 r0 r1 P1 K1 => ?_⟩
    obtain ⟨m, rfl⟩ : ∃ m : Nat, r = (m : Int) := ⟨r.toNat, by omega⟩
    have hm := List.getElem?_eq_getElem (show m < (TL.tl sg).length by omega)
    refine ⟨_, _, _, rfl, rfl, smallM (by omega), atI_nat hm, ?_⟩
    have ok0 := strOk_sign hso hm
    refine ⟨_, rfl, p, q, ns, 11, rfl, by decide, by decide, P1, fun f H2 f0 f1 P2 K2 => ?_⟩
    refine ⟨_, rfl, by omega, by omega, for_range (lo := 0) (n := f.toNat) (fun i σ H' => ∃ (z : Str) (o : Option V), σ = [some (.ref p), some (.ref l), some (.str sg), some (.str z), o] ∧ PyData.strOk z = true ∧ z.length = i + 1 ∧ Pool H' p q ns ∧ Keep [p] H H')
      ⟨_, none, rfl, ok0, l1 _, P2, K1.trans K2⟩ ?_ ?_⟩
    · rintro i σ H3 hi ⟨z, o, rfl, hz, hzl, P3, K3⟩
      refine ⟨_, rfl, _, rfl, _, rfl, p, q, ns, 36, rfl, by decide, by decide, P3, fun r H4 r0 r1 P4 K4 => ?_⟩
      obtain ⟨m, rfl⟩ : ∃ m : Nat, r = (m : Int) := ⟨r.toNat, by omega⟩
      have hm := List.getElem?_eq_getElem (show m < (TL.tl sg).length by omega)
      refine ⟨_, _, _, rfl, rfl, smallM (by omega), atI_nat hm, _, _, rfl, rfl, smallM (by rw [l1]; omega), ?_⟩
      exact ⟨_, _, rfl, by rw [strOk_app, hz, strOk_sign hso hm]; rfl, by rw [len_appN, l1, hzl], P4, K3.trans K4⟩
    · rintro σ H3 ⟨z, o, rfl, hz, hzl, P3, K3⟩
      have hl3 := K3 _ _ hl (by simpa using nlp)
      refine ⟨fun σ H' => ∃ (z : Str) (o : Option V), σ = [some (.ref p), some (.ref l), some (.str sg), some (.str z), o] ∧ z ∉ ys ∧ PyData.strOk z = true ∧ z.length ≤ 20 ∧ Pool H' p q ns ∧ Keep [p] H H', ?_, ?_⟩
      · have rest : ∀ (H4 : Hp), Pool H4 p q ns → Keep [p] H H4 → (fun (D : Ends) => True) = (fun (D : Ends) => True) := fun _ _ _ => rfl
        have inv : ∀ {H4 : Hp}, Pool H4 p q ns → Keep [p] H H4 → (fun (i : Nat) (σ : List (Option V)) (H' : Hp) => ∃ (z : Str) (o : Option V), σ = [some (.ref p), some (.ref l), some (.str sg), some (.str z), o] ∧ (z ∉ ys ∨ ∀ j, j < i → vN j ∈ ys) ∧ PyData.strOk z = true ∧ z.length ≤ 20 ∧ H' = H4) 0 [some (.ref p), some (.ref l), some (.str sg), some (.str z), o] H4 :=
          fun _ _ => ⟨_, _, rfl, .inr fun j hj => absurd hj (Nat.not_lt_zero _), hz, by omega, rfl⟩
        refine ⟨_, rfl, _, rfl, _, _, rfl, .inl (SqL.of hl3), rfl, flat_strs ys, _, rfl, iteB (fun e => ?_) (fun e => ?_)⟩
        · refine ⟨20, rfl, by decide, by decide, for_range (lo := 0) (n := 20) (fun (i : Nat) (σ : List (Option V)) (H' : Hp) => ∃ (z : Str) (o : Option V), σ = [some (.ref p), some (.ref l), some (.str sg), some (.str z), o] ∧ (z ∉ ys ∨ ∀ j, j < i → vN j ∈ ys) ∧ PyData.strOk z = true ∧ z.length ≤ 20 ∧ H' = H3) (inv P3 K3) ?_ ?_⟩
          · rintro i σ H' hi ⟨z, o, rfl, hzz, hz, hzl, rfl⟩
            have e0 : (0 : Int) + (i : Int) = (i : Int) := by omega
            rw [e0]
            have hv := vN_ok i hi
            have hlog : ((i : Nat) : Int).natAbs.log2 < 1920 := by
              rw [Int.natAbs_natCast]; exact PySem.Flt.log2_lt_of (by decide) (Nat.lt_trans (show i < 20 from hi) (by decide +kernel))
            have hvl : ("v" : Str).length + (Str.ofString (toString ((i : Nat) : Int))).length ≤ sizeLine := by
              have := hv.2; unfold vN at this; rw [len_appN] at this; exact smallM (by omega)
            refine ⟨_, rfl, _, rfl, hlog, _, _, rfl, rfl, hvl, _, rfl, _, _, rfl, .inl (SqL.of hl3), rfl, flat_strs ys, _, rfl, iteB (fun e => ?_) (fun e => ?_)⟩
            · have e' : (!inV (.str (vN i)) (ys.map V.str)) = true := e
              rw [inV_strs] at e'
              exact ⟨_, rfl, _, rfl, hlog, _, _, rfl, rfl, hvl, vN i, _, rfl, .inl (by simpa using e'), hv.1, by omega, rfl⟩
            · have e' : (!inV (.str (vN i)) (ys.map V.str)) = false := e
              rw [inV_strs] at e'
              refine ⟨z, _, rfl, ?_, hz, hzl, rfl⟩
              rcases hzz with hzz | hzz
              · exact .inl hzz
              · refine .inr fun j hj => ?_
                by_cases q : j = i
                · subst q; simpa using e'
                · exact hzz j (by omega)
          · rintro σ H' ⟨z, o, rfl, hzz, hz, hzl, rfl⟩
            exact ⟨z, o, rfl, hzz.elim id (fun g => (vN_free hlen g).elim), hz, hzl, P3, K3⟩
        · have e' : inV (.str z) (ys.map V.str) = false := e
          rw [inV_strs] at e'
          have hzy : z ∉ ys := by simpa using e'
          refine ⟨_, rfl, rfl, fun a H4 na ha K4 => ⟨_, _, rfl, .inl (SqL.of ha), rfl, flat_strs kwL, _, rfl, iteB (fun e => ?_) (fun e => ?_)⟩⟩
          · have P4 := P3.keep0 K4
            have K4' : Keep [p] H H4 := K3.trans (K4.mono (by simp))
            have hl4 := K4 _ _ hl3 (by simp)
            refine ⟨20, rfl, by decide, by decide, for_range (lo := 0) (n := 20) (fun (i : Nat) (σ : List (Option V)) (H' : Hp) => ∃ (z : Str) (o : Option V), σ = [some (.ref p), some (.ref l), some (.str sg), some (.str z), o] ∧ (z ∉ ys ∨ ∀ j, j < i → vN j ∈ ys) ∧ PyData.strOk z = true ∧ z.length ≤ 20 ∧ H' = H4) (inv P4 K4') ?_ ?_⟩
            · rintro i σ H' hi ⟨z, o, rfl, hzz, hz, hzl, rfl⟩
              have e0 : (0 : Int) + (i : Int) = (i : Int) := by omega
              rw [e0]
              have hv := vN_ok i hi
              have hlog : ((i : Nat) : Int).natAbs.log2 < 1920 := by
                rw [Int.natAbs_natCast]; exact PySem.Flt.log2_lt_of (by decide) (Nat.lt_trans (show i < 20 from hi) (by decide +kernel))
              have hvl : ("v" : Str).length + (Str.ofString (toString ((i : Nat) : Int))).length ≤ sizeLine := by
                have := hv.2; unfold vN at this; rw [len_appN] at this; exact smallM (by omega)
              refine ⟨_, rfl, _, rfl, hlog, _, _, rfl, rfl, hvl, _, rfl, _, _, rfl, .inl (SqL.of hl4), rfl, flat_strs ys, _, rfl, iteB (fun e => ?_) (fun e => ?_)⟩
              · have e' : (!inV (.str (vN i)) (ys.map V.str)) = true := e
                rw [inV_strs] at e'
                exact ⟨_, rfl, _, rfl, hlog, _, _, rfl, rfl, hvl, vN i, _, rfl, .inl (by simpa using e'), hv.1, by omega, rfl⟩
              · have e' : (!inV (.str (vN i)) (ys.map V.str)) = false := e
                rw [inV_strs] at e'
                refine ⟨z, _, rfl, ?_, hz, hzl, rfl⟩
                rcases hzz with hzz | hzz
                · exact .inl hzz
                · refine .inr fun j hj => ?_
                  by_cases q : j = i
                  · subst q; simpa using e'
                  · exact hzz j (by omega)
            · rintro σ H' ⟨z, o, rfl, hzz, hz, hzl, rfl⟩
              exact ⟨z, o, rfl, hzz.elim id (fun g => (vN_free hlen g).elim), hz, hzl, P4, K4'⟩
          · exact ⟨z, o, rfl, hzy, hz, by omega, P3.keep0 K4, K3.trans (K4.mono (by simp))⟩
      · rintro σ H4 ⟨z, o, rfl, hzy, hz, hzl, P4, K4⟩
        exact ⟨_, rfl, k _ _ hzy hz hzl P4 K4⟩
theorem ok_law_names {f : Addr} {fd : FuncData} (D : C8.Def K mg "_law_names" s_law_names f fd) (b : Binds K fd ["pool", "most"] []) (T : Txt K mg T_SIGNS) (c_law_few : C8.Cal P w K mg base 2 "_law_few" sp_law_few []) (c_law_name : C8.Cal P w K mg base 3 "_law_name" sp_law_name []) : C8.Cal P w K mg base 4 "_law_names" sp_law_names [] := by
  refine cal0 D b .nil sc_law_names (fun vs H Q E h => ?_) (fun cdv A outer s H vs Q E hr h => ?_)
  · obtain ⟨p, q, ns, m, rfl, _⟩ := h
    rfl
  · obtain ⟨p, q, ns, m, rfl, m0, m1, hP, k⟩ := h
    refine ⟨_, (pss_cons (ps_set (i := 2) sc_law_names.nd rfl (by first | exact Or.inl rfl | exact Or.inr rfl) (pe_lst pa_nil))
(pss_cons (ps_for PassesOwn.never rfl (pi_range1 (by rfl) T.n_range (pa_cons (pe_c c_law_few hr (by first | exact Nat.le_refl _ | decide) rfl (pa_cons (pv 0) (pa_cons (pv 1) pa_nil))) pa_nil)) (pg_name (i := 3) sc_law_names.nd rfl (by first | exact Or.inl rfl | exact Or.inr rfl))
  (pss_one (ps_expr (pe_bm PySem.F.plainAttrs_list PySem.F.slot_list_append PySem.F.type_list_append mt_append (pv 2) (pa_cons (pe_c c_law_name hr (by first | exact Nat.le_refl _ | decide) rfl (pa_cons (pv 0) (pa_cons (pv 2) pa_nil))) pa_nil)))))
(pss_one (ps_ret (pv 2))))), ?_⟩
    refine ⟨by show 0 ≤ sizeLine; decide, fun l hl => ?_⟩
    have P1 := hP.new (o := .lst []) hl
    have nlp := hP.nep hl
    have nlq := hP.neq hl
    refine ⟨_, rfl, _, rfl, p, q, ns, m, rfl, m0, by omega, P1, fun f H2 f0 f1 P2 K2 => ?_⟩
    refine ⟨_, rfl, by omega, by omega, for_range (lo := 0) (n := f.toNat) (fun i σ H' => ∃ (ys : List Str) (o : Option V), σ = [some (.ref p), some (.int m), some (.ref l), o] ∧ H' l = some (.lst (ys.map V.str)) ∧ ys.length = i ∧ ys.Nodup ∧ NamesOk ys ∧ (∀ y ∈ ys, y.length ≤ 20) ∧ Pool H' p q ns ∧ Keep [p] H H')
      ⟨[], none, rfl, K2 _ _ upd_same (by simpa using nlp), rfl, List.nodup_nil, (fun _ h => by cases h), (fun _ h => by cases h), P2, (Keep.new hl).trans K2⟩ ?_ ?_⟩
    · rintro i σ H3 hi ⟨ys, o, rfl, hy, hyl, hnd, hno, hle, P3, K3⟩
      refine ⟨_, rfl, .inl ⟨rfl, _, SqL.of hy⟩, _, rfl, _, rfl, p, q, l, ns, ys, rfl, hy, nlp, by omega, P3, fun z H4 hz1 hz2 hz3 P4 K4 => ?_⟩
      have hy4 := K4 _ _ hy (by simpa using nlp)
      refine ⟨_, _, _, rfl, rfl, hy4, (by rw [List.length_map]; exact smallL (by omega)), ?_⟩
      refine ⟨ys ++ [z], _, rfl, by rw [List.map_append]; exact upd_same, by rw [List.length_append, hyl]; rfl, ?_, ?_, ?_, P4.own nlp nlq, (K3.trans K4).then_own hl⟩
      · rw [List.nodup_append]
        refine ⟨hnd, by simp, fun a ha b hb => ?_⟩
        rw [List.mem_singleton] at hb
        subst hb
        exact fun q => hz1 (q ▸ ha)
      · intro y hy
        rcases List.mem_append.mp hy with h | h
        · exact hno y h
        · rw [List.mem_singleton.mp h]; exact hz2
      · intro y hy
        rcases List.mem_append.mp hy with h | h
        · exact hle y h
        · rw [List.mem_singleton.mp h]; exact hz3
    · rintro σ H3 ⟨ys, o, rfl, hy, hyl, hnd, hno, hle, P3, K3⟩
      exact ⟨_, rfl, k l ys _ hl hy (by omega) hnd hno hle P3 K3⟩
end

/-! codes of expressions, in plain words -/
inductive Ins where
  | push (n : Int)
  | load (x : Str)
  | long
  | view
  | sign (s : Str)
def idx : List Str → Str → Nat
  | [], _ => 0
  | y :: r, x => if y = x then 0 else idx r x + 1
theorem idx_get : ∀ {ys : List Str} {x : Str}, x ∈ ys → ys[idx ys x]? = some x ∧ ∀ m, m < idx ys x → ys[m]? ≠ some x
  | [], x, h => by cases h
  | y :: r, x, h => by
    unfold idx
    by_cases e : y = x
    · rw [if_pos e]
      exact ⟨by rw [e]; rfl, fun m hm => absurd hm (Nat.not_lt_zero _)⟩
    · rw [if_neg e]
      have hx : x ∈ r := by
        rcases List.mem_cons.mp h with q | q
        · exact absurd q.symm e
        · exact q
      have ih := idx_get hx
      refine ⟨by simpa using ih.1, fun m hm => ?_⟩
      cases m with
      | zero => simpa using e
      | succ m => simpa using ih.2 m (by omega)
theorem idx_lt {ys : List Str} {x : Str} (h : x ∈ ys) : idx ys x < ys.length := (List.getElem?_eq_some_iff.mp (idx_get h).1).1
def tagI : Ins → Str
  | .push _ => "push"
  | .load _ => "load"
  | .long => "long"
  | .view => "view"
  | .sign _ => "sign"
def numI (ns : List Str) : Ins → Int
  | .push n => n
  | .load x => (idx ns x : Nat)
  | .long => 0
  | .view => 0
  | .sign s => (idx sgL s : Nat)
def code (on : Str → Bool) : Ex → List Ins
  | .num n => [.push n]
  | .var x => [.load x]
  | .long => [.long]
  | .view e => code on e ++ [.view]
  | .pick x l r => if on x = true then code on l else code on r
  | .op s l r => code on l ++ code on r ++ [.sign s]
theorem code_len (on : Str → Bool) : ∀ e : Ex, (code on e).length + 1 ≤ 2 ^ e.dep
  | .num _ => by show 1 + 1 ≤ 2 ^ 1; decide
  | .var _ => by show 1 + 1 ≤ 2 ^ 1; decide
  | .long => by show 1 + 1 ≤ 2 ^ 1; decide
  | .view e => by
    have := code_len on e
    have h1 : 1 ≤ 2 ^ e.dep := Nat.one_le_two_pow
    show (code on e ++ [Ins.view]).length + 1 ≤ 2 ^ (e.dep + 1)
    rw [List.length_append, Nat.pow_succ]
    simp only [List.length_cons, List.length_nil]; omega
  | .pick x l r => by
    have a := code_len on l
    have b := code_len on r
    have hl : 2 ^ l.dep ≤ 2 ^ (max l.dep r.dep + 1) := Nat.pow_le_pow_right (by decide) (by omega)
    have hr : 2 ^ r.dep ≤ 2 ^ (max l.dep r.dep + 1) := Nat.pow_le_pow_right (by decide) (by omega)
    show (if on x = true then code on l else code on r).length + 1 ≤ 2 ^ (max l.dep r.dep + 1)
    split <;> omega
  | .op s l r => by
    have a := code_len on l
    have b := code_len on r
    have hl : 2 ^ l.dep ≤ 2 ^ max l.dep r.dep := Nat.pow_le_pow_right (by decide) (by omega)
    have hr : 2 ^ r.dep ≤ 2 ^ max l.dep r.dep := Nat.pow_le_pow_right (by decide) (by omega)
    show (code on l ++ code on r ++ [Ins.sign s]).length + 1 ≤ 2 ^ (max l.dep r.dep + 1)
    rw [List.length_append, List.length_append, Nat.pow_succ]
    simp only [List.length_cons, List.length_nil]; omega
theorem code_small (on : Str → Bool) {e : Ex} (h : e.dep ≤ 13) : (code on e).length ≤ 8192 := by
  have := code_len on e
  have h2 : 2 ^ e.dep ≤ 2 ^ 13 := Nat.pow_le_pow_right (by decide) h
  have h3 : (2 : Nat) ^ 13 = 8192 := by decide
  omega
def Ins.Ok (ns : List Str) : Ins → Prop
  | .push n => 0 ≤ n ∧ n < 65536
  | .load x => x ∈ ns
  | .long => True
  | .view => True
  | .sign s => s ∈ sgL
theorem code_ok {ns ps : List Str} (on : Str → Bool) : ∀ e : Ex, e.Ok ns ps → ∀ i ∈ code on e, i.Ok ns
  | .num n, h, i, hi => by rw [List.mem_singleton.mp hi]; exact h
  | .var n, h, i, hi => by rw [List.mem_singleton.mp hi]; exact h
  | .long, h, i, hi => by rw [List.mem_singleton.mp hi]; trivial
  | .view e, h, i, hi => by
    rcases List.mem_append.mp hi with q | q
    · exact code_ok on e h i q
    · rw [List.mem_singleton.mp q]; trivial
  | .pick x l r, ⟨_, h2, h3⟩, i, hi => by
    have hi' : i ∈ if on x = true then code on l else code on r := hi
    split at hi'
    · exact code_ok on l h2 i hi'
    · exact code_ok on r h3 i hi'
  | .op s l r, ⟨h1, h2, h3⟩, i, hi => by
    rcases List.mem_append.mp hi with q | q
    · rcases List.mem_append.mp q with q | q
      · exact code_ok on l h2 i q
      · exact code_ok on r h3 i q
    · rw [List.mem_singleton.mp q]; exact h1
def vw (seen : List Int) (a : Int) : Int := if a < seen.length then seen.getD a.toNat 0 else 0
/-- one step; the stack from the top -/
def step (tb : Str → Int) (seen : List Int) : Ins → List Int → Option (List Int)
  | .push n, R => some (n :: R)
  | .load x, R => some (tb x :: R)
  | .long, R => some ((seen.length : Int) :: R)
  | .view, a :: r => some (vw seen a :: r)
  | .view, [] => none
  | .sign s, b :: a :: r => some (comb s a b :: r)
  | .sign _, _ => none
def runI (tb : Str → Int) (seen : List Int) : List Ins → List Int → Option (List Int)
  | [], R => some R
  | i :: r, R => (step tb seen i R).bind (runI tb seen r)
theorem run_app (tb : Str → Int) (seen : List Int) : ∀ (a b : List Ins) (R : List Int), runI tb seen (a ++ b) R = (runI tb seen a R).bind (runI tb seen b)
  | [], b, R => rfl
  | i :: a, b, R => by
    show (step tb seen i R).bind (runI tb seen (a ++ b)) = ((step tb seen i R).bind (runI tb seen a)).bind _
    cases step tb seen i R with
    | none => rfl
    | some R' => exact run_app tb seen a b R'
theorem run_code {tb : Str → Int} {on : Str → Bool} {seen : List Int} (hs : seen.length ≤ 65535) : ∀ (e : Ex) (R : List Int), runI tb seen (code on e) R = some (val tb on seen e :: R)
  | .num _, R => rfl
  | .var _, R => rfl
  | .long, R => by
    show some ((seen.length : Int) :: R) = some ((if (65535 : Int) < seen.length then 65535 else (seen.length : Int)) :: R)
    rw [if_neg (by omega)]
  | .view e, R => by
    show runI tb seen (code on e ++ [.view]) R = _
    rw [run_app, run_code hs e R]; rfl
  | .pick x l r, R => by
    show runI tb seen (if on x = true then code on l else code on r) R = some ((if on x = true then val tb on seen l else val tb on seen r) :: R)
    split
    · exact run_code hs l R
    · exact run_code hs r R
  | .op s l r, R => by
    show runI tb seen (code on l ++ code on r ++ [.sign s]) R = _
    rw [run_app, run_app, run_code hs l R]
    show ((runI tb seen (code on r) (val tb on seen l :: R)).bind _) = _
    rw [run_code hs r _]; rfl
def InR (R : List Int) : Prop := ∀ x ∈ R, 0 ≤ x ∧ x < 65536
theorem step_range {ns : List Str} {tb : Str → Int} {seen : List Int} (ht : TbOk ns tb) (hs : SeenOk seen) (hl : seen.length ≤ 65535) {i : Ins} (hi : i.Ok ns) {R R' : List Int} (hR : InR R) (h : step tb seen i R = some R') : InR R' := by
  have tl : ∀ {a : Int} {r : List Int}, InR (a :: r) → InR r := fun h x hx => h x (List.mem_cons_of_mem _ hx)
  have cn : ∀ {a : Int} {r : List Int}, (0 ≤ a ∧ a < 65536) → InR r → InR (a :: r) := fun h h2 x hx => by
    rcases List.mem_cons.mp hx with q | q
    · rw [q]; exact h
    · exact h2 x q
  cases i with
  | push n => cases h; exact cn hi hR
  | load x => cases h; exact cn (ht x hi) hR
  | long => cases h; exact cn (by omega) hR
  | view =>
    cases R with
    | nil => cases h
    | cons a r =>
      cases h
      refine cn ?_ (tl hR)
      have ha := hR a (List.mem_cons_self ..)
      unfold vw
      split
      · have : a.toNat < seen.length := by omega
        rw [List.getD_eq_getElem?_getD, List.getElem?_eq_getElem this]
        exact hs _ (List.getElem_mem this)
      · omega
  | sign s =>
    match R, h with
    | b :: a :: r, h =>
      cases h
      have hb := hR b (List.mem_cons_self ..)
      have ha := tl hR a (List.mem_cons_self ..)
      exact cn (comb_range hi ha.1 ha.2 hb.1 hb.2) (tl (tl hR))
theorem run_take {tb : Str → Int} {seen : List Int} {c : List Ins} {R : List Int} (h : runI tb seen c [] = some R) {i : Nat} {x : Ins} (hx : c[i]? = some x) {Ri : List Int} (hi : runI tb seen (c.take i) [] = some Ri) : ∃ R', step tb seen x Ri = some R' ∧ runI tb seen (c.take (i + 1)) [] = some R' := by
  obtain ⟨hlt, he⟩ := List.getElem?_eq_some_iff.mp hx
  have e : c = c.take (i + 1) ++ c.drop (i + 1) := (List.take_append_drop _ _).symm
  have e2 : c.take (i + 1) = c.take i ++ [x] := by rw [List.take_succ_eq_append_getElem hlt, he]
  rw [e, e2, run_app, run_app, hi] at h
  cases q : step tb seen x Ri with
  | none =>
    have : (Option.some Ri).bind (runI tb seen [x]) = none := by
      show (step tb seen x Ri).bind _ = none
      rw [q]; rfl
    rw [this] at h; cases h
  | some R' =>
    refine ⟨R', rfl, ?_⟩
    rw [e2, run_app, hi]
    show (step tb seen x Ri).bind _ = _
    rw [q]; rfl
inductive CL (K : PySem.W.Frag) (H : Hp) (ns : List Str) : List V → List Ins → Prop
  | nil : CL K H ns [] []
  | cons {t : Addr} {i : Ins} {vs : List V} {c : List Ins} : At K H t [.str (tagI i), .int (numI ns i)] → CL K H ns vs c → CL K H ns (.ref t :: vs) (i :: c)
section
variable {K : PySem.W.Frag} {ns : List Str}
theorem CL.tk {H H' : Hp} (k : TK H H') {vs : List V} {c : List Ins} (h : CL K H ns vs c) : CL K H' ns vs c := by
  induction h with
  | nil => exact .nil
  | cons h _ ih => exact .cons (h.tk k) ih
theorem CL.app {H : Hp} {vs ws : List V} {c d : List Ins} (h : CL K H ns vs c) (g : CL K H ns ws d) : CL K H ns (vs ++ ws) (c ++ d) := by
  induction h with
  | nil => exact g
  | cons h _ ih => exact .cons h ih
theorem CL.len {H : Hp} {vs : List V} {c : List Ins} (h : CL K H ns vs c) : vs.length = c.length := by
  induction h with
  | nil => rfl
  | cons h _ ih => rw [List.length_cons, List.length_cons, ih]
theorem CL.get {H : Hp} {vs : List V} {c : List Ins} (h : CL K H ns vs c) : ∀ {i : Nat} {v : V}, vs[i]? = some v → ∃ t x, v = .ref t ∧ c[i]? = some x ∧ At K H t [.str (tagI x), .int (numI ns x)] := by
  induction h with
  | nil => intro i v h; simp at h
  | cons h _ ih =>
    intro i v hv
    cases i with
    | zero => simp at hv; subst hv; exact ⟨_, _, rfl, rfl, h⟩
    | succ i => simpa using ih (by simpa using hv)
theorem CL.same {H : Hp} {n : Nat} {vs : List V} {c : List Ins} (h : CL K H ns vs c) : ∀ {ws : List V}, CL K H ns ws c → Paired (SameV K (n + 2) H) vs ws := by
  induction h with
  | nil => intro ws g; cases g; exact .nil
  | cons h _ ih =>
    intro ws g
    cases g with
    | cons g g2 => exact .cons (sameT h g (.cons (.inl ⟨rfl, .inl ⟨_, rfl⟩⟩) (.cons (.inl ⟨rfl, .inr (.inl ⟨_, rfl⟩)⟩) .nil)) (by simp)) (ih g2)
end
theorem calUp {P : Program} {w : World} {K : PySem.W.Frag} {mg : Str → Option Value} {base : Heap} {j k : Nat} {x : Str} {sp : Sp} {dvs : List V} (c : C8.Cal P w K mg base j x sp dvs) (h : j ≤ k) : C8.Cal P w K mg base k x sp dvs := by
  obtain ⟨f, fd, ps, ds, F, hm, kp, b, d⟩ := c.ex
  exact ⟨f, fd, ps, ds, F.mono h, hm, kp, b, d⟩
theorem Pool.tk {H H' : Hp} {p q : Addr} {ns : List Int} (h : Pool H p q ns) (k : Keep [p] H H') : TK H H' := by
  obtain ⟨i1, i2, i3, i4, i5, h1, _⟩ := h
  exact k.tk1 h1
theorem DcB.keep {H H' : Hp} {a : Addr} {ps : List Str} {on : Str → Bool} (h : DcB H a ps on) (k : Keep [] H H') : DcB H' a ps on := by
  obtain ⟨kvs, e, q⟩ := h
  exact ⟨kvs, k _ _ e (by simp), q⟩

/-! tuples whose object is known: their methods -/
def TupD (H : Hp) (a : Addr) (xs : List V) : Prop := ∃ o : Obj, H a = some (.frz o (.tup xs)) ∧ o.cls = .type "tuple" ∧ o.dict = none
theorem TupD.sq {K : PySem.W.Frag} {H : Hp} {a : Addr} {xs : List V} (h : TupD H a xs) : SqT K H a xs := by
  obtain ⟨o, e, _⟩ := h
  exact .inl (.inr ⟨o, e⟩)
theorem TupD.keep {H H' : Hp} {W : List Addr} {a : Addr} {xs : List V} (h : TupD H a xs) (k : Keep W H H') (w : a ∉ W) : TupD H' a xs := by
  obtain ⟨o, e, c, d⟩ := h
  exact ⟨o, k _ _ e w, c, d⟩
section
open PySem.Spec PyProof.Rows
variable {X : Cx} {T id : String} {r : V → List V → Hp → VK → Prop} {o e : Expr} {es : List Expr} {to : TE} {t : TA} {name : Str} {apos cpos pos : Pos}
theorem tupD_is {pins : List (Addr × Obj)} {σ : L2.St} {H : Hp} {s : Shared} {a : Addr} {xs : List V} (I : Inv X pins σ H s) (h : TupD H a xs) :
    s.TypeIs (.ref a) "tuple" ∧ ∀ b, Value.ref a = .ref b → ∃ ob, s.heap.get? b = some ob ∧ ob.dict = none := by
  obtain ⟨o, e, c, d⟩ := h
  obtain ⟨g, _⟩ := I.hok _ _ e
  exact ⟨⟨o, g, c⟩, fun b q => by cases q; exact ⟨o, g, d⟩⟩
theorem pe_bmZ (pa : PlainAttrs "tuple") (slot : Slot "tuple" name id) (hty : typeOf (.builtin id) = pure (.type "method_descriptor")) (hm : MtR X id r) (ho : PE X o to) (ha : PA X (e :: es) t)
    (hbase : attributeBase o name X.env (eval o X.env) = eval o X.env := by rfl)
    (hfew : ((backTo cpos (starEach (e :: es) X.env)).all (fun x => !x.1) && (backToKw cpos (keywordEach [] X.env)).all (fun x => x.1.isSome)
      && decide ((e :: es).length + ([] : List Keyword).length + (if ([] : List Keyword).isEmpty then 0 else 1) < 30)) = true := by rfl)
    (hline : (apos.endLine == cpos.line) = true := by rfl) (hs : starEach (e :: es) X.env = (false, eval e X.env) :: starEach es X.env := by rfl) (hplain : (backTo cpos (starEach es X.env)).any (·.1) = false := by rfl) :
    PE X (.Call (.Attribute o name apos) (e :: es) [] cpos) (fun σ H Q => to σ H fun x H1 => ∃ a xs, x = .ref a ∧ TupD H1 a xs ∧ t σ H1 fun ys H2 => r x ys H2 Q) := by
  refine ⟨fun pins s σ H Q I h => ?_⟩
  refine wpAny_Call_method_late hbase hfew hline rfl (thn (ho.run pins s σ H _ I h) fun v s1 ⟨x, H1, I1, r1, a, xs, hx, ty, q1⟩ => ?_)
  subst hx
  obtain rfl : v = Value.ref a := r1
  obtain ⟨h1, h2⟩ := tupD_is I1 ty
  refine ⟨"tuple", id, pa, slot, hty, h1, h2, ?_⟩
  have hA := ha.run cpos pins s1 σ H1 _ I1 q1
  rw [hs] at hA ⊢
  refine Calls.callWith_builtin (by show (false || (backTo cpos (starEach es X.env)).any (·.1)) = false; rw [hplain] <;> rfl) (Calls.evalArgs_plain ?_)
  exact thn hA fun us s2 ⟨vs, H2, I2, r2, q2⟩ => hm pins s2 σ H2 (.ref a) vs (.ref a) us Q I2 rfl r2 q2
theorem pe_tupZ {x1} (h : PA X es t) : PE X (.Tuple es x1 pos) (fun σ H Q => t σ H fun xs H1 => xs.length ≤ sizeLine ∧ ∀ p o, H1 p = none → o.cls = .type "tuple" → o.dict = none → Q (.ref p) (upd H1 p (.frz o (.tup xs)))) := by
  refine ⟨fun pins s σ H Q I hq => ?_⟩
  refine wpAny_Tuple_spliced (thn (h.run pos pins s σ H _ I hq) fun us s1 ⟨xs, H1, I1, r, z, q⟩ => ⟨by rw [← r.length]; exact z, ?_⟩)
  have hf : H1 s1.heap.objs.size = none := I1.hok.fresh (Nat.le_refl _)
  refine ⟨.ref s1.heap.objs.size, upd H1 s1.heap.objs.size (.frz { cls := .type "tuple", data := .seq us.toArray } (.tup xs)), I1.laid (t' := s1.toks) (fun b u e => Heap.get?_push_of_some _ e) (Nat.le_refl _) ?_, rfl, q _ _ hf rfl rfl⟩
  exact ⟨Heap.get?_push_size _ rfl, z, us, r, ⟨_, Heap.get?_push_size _ rfl, rfl, _, rfl⟩⟩
theorem call_tuple_ofZ : CallR X (.type "tuple") (fun xs H Q => ∃ p ys, xs = [.ref p] ∧ SqL X.K H p ys ∧ ∀ l o, H l = none → o.cls = .type "tuple" → o.dict = none → Q (.ref l) (upd H l (.frz o (.tup ys)))) := by
  intro pins s σ H xs us Q I r h
  obtain ⟨p, ys, rfl, hq, q⟩ := h
  obtain ⟨u, rfl, rx⟩ := vals1 r
  cases rx
  obtain ⟨its, r', pl, hz⟩ := I.list hq
  have hlen := r'.length
  refine call_tuple_list pl.isList (fun h' kp => ?_) (by simp only [List.size_toArray] <;> omega)
  have I1 : Inv X pins σ H { s with heap := h' } := I.kept (t' := s.toks) kp
  have I2 : Inv X pins σ (upd H h'.objs.size (.frz { cls := .type "tuple", data := .seq its.toArray } (.tup ys))) { s with heap := h'.push { cls := .type "tuple", data := .seq its.toArray } } :=
    I1.laid (t' := s.toks) (fun b o e => Heap.get?_push_of_some _ e) (Nat.le_refl _) (show ObjOk X.prog X.w _ _ _ (.frz _ (.tup ys)) from ⟨Heap.get?_push_size _ rfl, hz, its, r', IsTup.new _ _⟩)
  exact ⟨.ref h'.objs.size, _, I2, rfl, q _ _ (I1.hok.fresh (Nat.le_refl _)) rfl rfl⟩
end

def sp_code (K : PySem.W.Frag) (n : Nat) : Sp := fun vs H Q _ => ∃ v sl od e ns ps on, vs = [v, .ref sl, .ref od] ∧ EV K H v e ∧ e.Ok ns ps ∧ e.dep ≤ n ∧ n ≤ 13 ∧ TupD H sl (ns.map V.str) ∧ DcB H od ps on ∧
  ∀ l xs H', H' l = some (.lst xs) → CL K H' ns xs (code on e) → Keep [] H H' → Q (.ref l) H'
def sp_lcode (K : PySem.W.Frag) (n : Nat) : Sp := fun vs H Q _ => ∃ v sl od e ns ps on, vs = [v, .ref sl, .ref od] ∧ EV K H v e ∧ e.Ok ns ps ∧ e.dep ≤ n ∧ n ≤ 13 ∧ H sl = some (.lst (ns.map V.str)) ∧ DcB H od ps on ∧
  ∀ l xs H', H' l = some (.lst xs) → CL K H' ns xs (code on e) → Keep [] H H' → Q (.ref l) H'
def sp_lcomb : Sp := fun vs H Q _ => ∃ s a b, vs = [.int ((idx sgL s : Nat) : Int), .int a, .int b] ∧ s ∈ sgL ∧ 0 ≤ a ∧ a < 65536 ∧ 0 ≤ b ∧ b < 65536 ∧ Q (.int (comb s a b)) H
theorem sg_cases2 {s : Str} (h : s ∈ sgL) : (s = "+" ∧ idx sgL s = 0) ∨ (s = "-" ∧ idx sgL s = 1) ∨ (s = "*" ∧ idx sgL s = 2) ∨ (s = "/" ∧ idx sgL s = 3) ∨ (s = "mod" ∧ idx sgL s = 4) ∨ (s = "<" ∧ idx sgL s = 5) ∨ (s = "=" ∧ idx sgL s = 6) := by
  rcases sg_cases h with rfl | rfl | rfl | rfl | rfl | rfl | rfl
  · exact .inl (by decide +kernel)
  · exact .inr (.inl (by decide +kernel))
  · exact .inr (.inr (.inl (by decide +kernel)))
  · exact .inr (.inr (.inr (.inl (by decide +kernel))))
  · exact .inr (.inr (.inr (.inr (.inl (by decide +kernel)))))
  · exact .inr (.inr (.inr (.inr (.inr (.inl (by decide +kernel))))))
  · exact .inr (.inr (.inr (.inr (.inr (.inr (by decide +kernel))))))
theorem at_one {K : PySem.W.Frag} {H : Hp} {t l : Addr} {xs ys : List V} (nt : H t = none) (nl : upd H t (.tup xs) l = none) : At K (upd (upd H t (.tup xs)) l (.lst ys)) t xs := by
  have h : t ≠ l := ne_of_none (H := upd H t (.tup xs)) upd_same nl
  exact .inl (by rw [upd_ne h]; exact upd_same)
theorem nei {a b : Int} (h : a ≠ b) : ¬ V.int a = V.int b := fun z => h (V.int.inj z)
theorem flat_sgs (ys : List Str) : (ys.map V.str).all flatV = true := flat_strs ys
theorem str_ne_eqV {ys : List Str} {z : Str} {j : Nat} (h : ∀ m, m < j → ys[m]? ≠ some z) : ∀ (m : Nat) (z' : V), m < j → (ys.map V.str)[m]? = some z' → eqV z' (.str z) = false := fun m z' hm hz => by
  obtain ⟨y, hy, rfl⟩ := strs_get hz
  have : y ≠ z := fun q => h m hm (by rw [hy, q])
  show (y == z) = false
  simpa using this
section
variable {P : Program} {w : World} {K : PySem.W.Frag} {mg : Str → Option Value} {base : Heap} {T_SIGNS : Addr}
theorem ok_law_combine {f : Addr} {fd : FuncData} (D : C8.Def K mg "_law_combine" s_law_combine f fd) (b : Binds K fd ["sign", "a", "b"] []) (T : Txt K mg T_SIGNS) {k : Nat} : C8.Cal P w K mg base (k + 1) "_law_combine" sp_lcomb [] := by
  refine cal0 D b .nil sc_law_combine (fun vs H Q E h => ?_) (fun cdv A outer s H vs Q E hr h => ?_)
  · obtain ⟨s, a, b, rfl, _⟩ := h
    rfl
  · obtain ⟨s, x, y, rfl, hs, x0, x1, y0, y1, k⟩ := h
    refine ⟨_, (pss_cons (ps_if (pt_cmpR op_eq (pv 0) pe_int (nomark _))
  (pss_one (ps_ret (pe_op op_sub (pe_op op_add (pv 1) (pv 2)) (pe_op op_mul pe_int (pe_callTy call_int1 (by rfl) T.n_int bo_int (pa_cons (pe_cmpR op_gt (pe_op op_add (pv 1) (pv 2)) pe_int (nomark _)) pa_nil))))))
  pss_nil)
(pss_cons (ps_if (pt_cmpR op_eq (pv 0) pe_int (nomark _))
  (pss_one (ps_ret (pe_op op_mul (pe_op op_sub (pv 1) (pv 2)) (pe_callTy call_int1 (by rfl) T.n_int bo_int (pa_cons (pe_cmpR op_gt (pv 1) (pv 2) (nomark _)) pa_nil)))))
  pss_nil)
(pss_cons (ps_if (pt_cmpR op_eq (pv 0) pe_int (nomark _))
  (pss_one (ps_ret (pe_op op_sub (pe_op op_mul (pv 1) (pv 2)) (pe_op op_mul (pe_op op_fdiv (pe_op op_mul (pv 1) (pv 2)) pe_int) pe_int))))
  pss_nil)
(pss_cons (ps_if (pt_cmpR op_eq (pv 0) pe_int (nomark _))
  (pss_one (ps_ret (pe_callTy call_int1 (by rfl) T.n_int bo_int (pa_cons (pe_cmpR op_lt (pv 1) (pv 2) (nomark _)) pa_nil))))
  pss_nil)
(pss_cons (ps_if (pt_cmpR op_eq (pv 0) pe_int (nomark _))
  (pss_one (ps_ret (pe_callTy call_int1 (by rfl) T.n_int bo_int (pa_cons (pe_cmpR op_eq (pv 1) (pv 2) (nomark _)) pa_nil))))
  pss_nil)
(pss_cons (ps_if (pt_cmpR op_eq (pv 2) pe_int (nomark _))
  (pss_one (ps_ret pe_int))
  pss_nil)
(pss_cons (ps_set (i := 3) sc_law_combine.nd rfl (by first | exact Or.inl rfl | exact Or.inr rfl) (pe_op op_fdiv (pv 1) (pv 2)))
(pss_cons (ps_if (pt_cmpR op_eq (pv 0) pe_int (nomark _))
  (pss_one (ps_ret (pv 3)))
  pss_nil)
(pss_one (ps_ret (pe_op op_sub (pv 1) (pe_op op_mul (pv 3) (pv 2))))))))))))), ?_⟩
    have div : (s = "/" ∧ idx sgL s = 3) ∨ (s = "mod" ∧ idx sgL s = 4) → True := fun _ => trivial
    rcases sg_cases2 hs with ⟨rfl, hi⟩ | ⟨rfl, hi⟩ | ⟨rfl, hi⟩ | ⟨rfl, hi⟩ | ⟨rfl, hi⟩ | ⟨rfl, hi⟩ | ⟨rfl, hi⟩
    all_goals rw [hi]
    · rw [comb_add] at k
      refine ⟨_, rfl, rfl, _, rfl, iteDT rfl ?_⟩
      refine ⟨_, rfl, _, rfl, _, _, rfl, rfl, _, rfl, _, rfl, _, _, rfl, rfl, _, _, rfl, rfl, .inr ⟨_, rfl, _, _, rfl, rfl, .inl ⟨by decide, by decide⟩, _, _, rfl, rfl, ?_⟩⟩
      have e2 : x + y - 65536 * (if decide (65535 < x + y) = true then 1 else 0) = (x + y) % 65536 := by
        by_cases h : 65535 < x + y
        · rw [decide_eq_true h]; simp only [if_true]; omega
        · rw [decide_eq_false h]; simp only [Bool.false_eq_true, if_false]; omega
      have k' : Q (.int (x + y - 65536 * (if decide (65535 < x + y) = true then 1 else 0))) H := by rw [e2]; exact k
      exact k'
    · rw [comb_sub] at k
      refine ⟨_, rfl, rfl, _, rfl, iteDF (nei (by decide)) ⟨_, rfl, rfl, _, rfl, iteDT rfl ?_⟩⟩
      refine ⟨_, rfl, _, rfl, _, _, rfl, rfl, _, rfl, _, rfl, _, _, rfl, rfl, .inr ⟨_, rfl, _, _, rfl, rfl, .inl ⟨by omega, by omega⟩, ?_⟩⟩
      have e2 : (x - y) * (if decide (y < x) = true then 1 else 0) = if x - y > 0 then x - y else 0 := by
        by_cases h : y < x
        · rw [decide_eq_true h, if_pos (by omega : x - y > 0)]; simp only [if_true]; omega
        · rw [decide_eq_false h, if_neg (by omega : ¬ x - y > 0)]; simp only [Bool.false_eq_true, if_false]; omega
      have k' : Q (.int ((x - y) * (if decide (y < x) = true then 1 else 0))) H := by rw [e2]; exact k
      exact k'
    · rw [comb_mul] at k
      refine ⟨_, rfl, rfl, _, rfl, iteDF (nei (by decide)) ⟨_, rfl, rfl, _, rfl, iteDF (nei (by decide)) ⟨_, rfl, rfl, _, rfl, iteDT rfl ?_⟩⟩⟩
      refine ⟨_, rfl, _, rfl, _, _, rfl, rfl, .inl ⟨by omega, by omega⟩, _, rfl, _, rfl, _, _, rfl, rfl, .inl ⟨by omega, by omega⟩, _, _, rfl, rfl, ⟨by decide, by decide⟩, _, _, rfl, rfl, .inr ⟨by decide, by decide⟩, _, _, rfl, rfl, ?_⟩
      have e2 : x * y - x * y / 65536 * 65536 = x * y % 65536 := by omega
      have k' : Q (.int (x * y - x * y / 65536 * 65536)) H := by rw [e2]; exact k
      exact k'
    · refine ⟨_, rfl, rfl, _, rfl, iteDF (nei (by decide)) ⟨_, rfl, rfl, _, rfl, iteDF (nei (by decide)) ⟨_, rfl, rfl, _, rfl, iteDF (nei (by decide)) ⟨_, rfl, rfl, _, rfl, iteDF (nei (by decide)) ⟨_, rfl, rfl, _, rfl, iteDF (nei (by decide)) ?_⟩⟩⟩⟩⟩
      refine ⟨_, rfl, rfl, _, rfl, iteD (fun e => ?_) (fun e6 => ?_)⟩
      · rw [comb_div, V.int.inj e, if_neg (by decide)] at k; exact k
      have hy : 0 < y := by
        have : y ≠ 0 := fun q => e6 (congrArg V.int q)
        omega
      rw [comb_div, if_pos hy] at k
      exact ⟨_, rfl, _, rfl, _, _, rfl, rfl, ⟨hy, by omega⟩, _, rfl, rfl, _, rfl, iteDT rfl ⟨_, rfl, k⟩⟩
    · refine ⟨_, rfl, rfl, _, rfl, iteDF (nei (by decide)) ⟨_, rfl, rfl, _, rfl, iteDF (nei (by decide)) ⟨_, rfl, rfl, _, rfl, iteDF (nei (by decide)) ⟨_, rfl, rfl, _, rfl, iteDF (nei (by decide)) ⟨_, rfl, rfl, _, rfl, iteDF (nei (by decide)) ?_⟩⟩⟩⟩⟩
      refine ⟨_, rfl, rfl, _, rfl, iteD (fun e => ?_) (fun e6 => ?_)⟩
      · rw [comb_mod, V.int.inj e, if_neg (by decide)] at k; exact k
      have hy : 0 < y := by
        have : y ≠ 0 := fun q => e6 (congrArg V.int q)
        omega
      rw [comb_mod, if_pos hy] at k
      refine ⟨_, rfl, _, rfl, _, _, rfl, rfl, ⟨hy, by omega⟩, _, rfl, rfl, _, rfl, iteDF (nei (by decide)) ?_⟩
      refine ⟨_, rfl, _, rfl, _, rfl, _, _, rfl, rfl, .inr ⟨by omega, by omega⟩, _, _, rfl, rfl, ?_⟩
      have e2 : x - x / y * y = x % y := by rw [Int.emod_def, Int.mul_comm]
      have k' : Q (.int (x - x / y * y)) H := by rw [e2]; exact k
      exact k'
    · rw [comb_lt] at k
      refine ⟨_, rfl, rfl, _, rfl, iteDF (nei (by decide)) ⟨_, rfl, rfl, _, rfl, iteDF (nei (by decide)) ⟨_, rfl, rfl, _, rfl, iteDF (nei (by decide)) ⟨_, rfl, rfl, _, rfl, iteDT rfl ?_⟩⟩⟩⟩
      refine ⟨_, rfl, _, rfl, _, _, rfl, rfl, .inr ⟨_, rfl, ?_⟩⟩
      by_cases h : x < y
      · rw [if_pos h] at k; rw [decide_eq_true h]; exact k
      · rw [if_neg h] at k; rw [decide_eq_false h]; exact k
    · rw [comb_eq] at k
      refine ⟨_, rfl, rfl, _, rfl, iteDF (nei (by decide)) ⟨_, rfl, rfl, _, rfl, iteDF (nei (by decide)) ⟨_, rfl, rfl, _, rfl, iteDF (nei (by decide)) ⟨_, rfl, rfl, _, rfl, iteDF (nei (by decide)) ⟨_, rfl, rfl, _, rfl, iteDT rfl ?_⟩⟩⟩⟩⟩
      refine ⟨_, rfl, _, rfl, rfl, .inr ⟨_, rfl, ?_⟩⟩
      by_cases h : x = y
      · rw [if_pos h] at k; rw [decide_eq_true (congrArg V.int h)]; exact k
      · rw [if_neg h] at k; rw [decide_eq_false (fun z => h (V.int.inj z))]; exact k
theorem ok_code0 {f : Addr} {fd : FuncData} (D : C8.Def K mg "expression_code" s_expression_code f fd) (b : Binds K fd ["expression", "slots", "on"] []) : C8.Cal P w K mg base 1 "expression_code" (sp_code K 0) [] :=
  ⟨f, fd, ["expression", "slots", "on"], [], ⟨fun vs H Q E h => (by obtain ⟨v, sl, od, e, ns, ps, on, rfl, _⟩ := h; rfl), fun A outer s H args us vs Q E _ _ _ _ h => (by obtain ⟨v, sl, od, e, ns, ps, on, _, _, _, z, _⟩ := h; have := e.dep_pos; omega)⟩, D.mgf, D.kp, b, .nil⟩
theorem ok_code {f : Addr} {fd : FuncData} (D : C8.Def K mg "expression_code" s_expression_code f fd) (b : Binds K fd ["expression", "slots", "on"] []) (T : Txt K mg T_SIGNS) {n k : Nat} (c_expression_code : C8.Cal P w K mg base k "expression_code" (sp_code K n) []) :
    C8.Cal P w K mg base (k + 1) "expression_code" (sp_code K (n + 1)) [] := by
  refine cal0 D b .nil sc_expression_code (fun vs H Q E h => ?_) (fun cdv A outer s H vs Q E hr h => ?_)
  · obtain ⟨v, sl, od, e, ns, ps, on, rfl, _⟩ := h
    rfl
  · obtain ⟨v, sl, od, e, ns, ps, on, rfl, he, hok, hd, hn, S, O, k⟩ := h
    have hu := hu_of hr
    refine ⟨_, (pss_cons (ps_set (i := 3) sc_expression_code.nd rfl (by first | exact Or.inl rfl | exact Or.inr rfl) (pe_ix ix_tup (pv 0) pe_int (fun _ _ => rfl)))
(pss_cons (ps_if (pt_cmpR op_eq (pv 3) pe_str (nomark _))
  (pss_one (ps_ret (pe_lst (pa_cons (pe_tup (pa_cons pe_str (pa_cons (pe_ix ix_tup (pv 0) pe_int (fun _ _ => rfl)) pa_nil))) pa_nil))))
  pss_nil)
(pss_cons (ps_if (pt_cmpR op_eq (pv 3) pe_str (nomark _))
  (pss_one (ps_ret (pe_lst (pa_cons (pe_tup (pa_cons pe_str (pa_cons (pe_bmZ PySem.F.plainAttrs_tuple PySem.F.slot_tuple_index PySem.F.type_tuple_index mt_tup_index (pv 1) (pa_cons (pe_ix ix_tup (pv 0) pe_int (fun _ _ => rfl)) pa_nil)) pa_nil))) pa_nil))))
  pss_nil)
(pss_cons (ps_if (pt_cmpR op_eq (pv 3) pe_str (nomark _))
  (pss_one (ps_ret (pe_lst (pa_cons (pe_tup (pa_cons pe_str (pa_cons pe_int pa_nil))) pa_nil))))
  pss_nil)
(pss_cons (ps_if (pt_cmpR op_eq (pv 3) pe_str (nomark _))
  (pss_one (ps_ret (pe_lst (StX.pa_star (pe_c c_expression_code hr (by first | exact Nat.le_refl _ | decide) rfl (pa_cons (pe_ix ix_tup (pv 0) pe_int (fun _ _ => rfl)) (pa_cons (pv 1) (pa_cons (pv 2) pa_nil)))) (pa_cons (pe_tup (pa_cons pe_str (pa_cons pe_int pa_nil))) pa_nil)))))
  pss_nil)
(pss_cons (ps_if (pt_cmpR op_eq (pv 3) pe_str (nomark _))
  (pss_cons (ps_set (i := 4) sc_expression_code.nd rfl (by first | exact Or.inl rfl | exact Or.inr rfl) (pe_ifExp (pt_val (pe_dget hu (pv 2) (pe_ix ix_tup (pv 0) pe_int (fun _ _ => rfl)) (fun _ _ => rfl))) (pe_ix ix_tup (pv 0) pe_int (fun _ _ => rfl)) (pe_ix ix_tup (pv 0) pe_int (fun _ _ => rfl))))
  (pss_one (ps_ret (pe_c c_expression_code hr (by first | exact Nat.le_refl _ | decide) rfl (pa_cons (pv 4) (pa_cons (pv 1) (pa_cons (pv 2) pa_nil)))))))
  pss_nil)
(pss_cons (ps_set (i := 5) sc_expression_code.nd rfl (by first | exact Or.inl rfl | exact Or.inr rfl) (pe_c c_expression_code hr (by first | exact Nat.le_refl _ | decide) rfl (pa_cons (pe_ix ix_tup (pv 0) pe_int (fun _ _ => rfl)) (pa_cons (pv 1) (pa_cons (pv 2) pa_nil)))))
(pss_cons (ps_set (i := 6) sc_expression_code.nd rfl (by first | exact Or.inl rfl | exact Or.inr rfl) (pe_c c_expression_code hr (by first | exact Nat.le_refl _ | decide) rfl (pa_cons (pe_ix ix_tup (pv 0) pe_int (fun _ _ => rfl)) (pa_cons (pv 1) (pa_cons (pv 2) pa_nil)))))
(pss_one (ps_ret (pe_lst (StX.pa_star (pv 5) (StX.pa_star (pv 6) (pa_cons (pe_tup (pa_cons pe_str (pa_cons (pe_bm PySem.F.plainAttrs_tuple PySem.F.slot_tuple_index PySem.F.type_tuple_index mt_tup_index (pe_gc rfl T.v_SIGNS) (pa_cons (pv 3) pa_nil)) pa_nil))) pa_nil)))))))))))))), ?_⟩
    cases he with
    | num h =>
      refine ⟨_, rfl, _, _, _, _, rfl, rfl, h.sq, rfl, _, rfl, rfl, _, rfl, iteDT rfl ?_⟩
      exact ⟨_, rfl, _, _, _, _, rfl, rfl, h.sq, rfl, by show 2 ≤ sizeLine; decide, fun t nt => ⟨by show 1 ≤ sizeLine; decide, fun l nl => k l _ _ upd_same (.cons (at_one nt nl) .nil) ((Keep.new nt).then_new nl)⟩⟩
    | var h =>
      refine ⟨_, rfl, _, _, _, _, rfl, rfl, h.sq, rfl, _, rfl, rfl, _, rfl, iteDF (nes (by decide +kernel)) ?_⟩
      refine ⟨_, rfl, rfl, _, rfl, iteDT rfl ?_⟩
      have hi := idx_get hok
      exact ⟨_, rfl, _, _, rfl, S, _, rfl, _, _, _, _, rfl, rfl, h.sq, rfl, _, ns, _, _, rfl, rfl, S.sq, hi.1, hi.2, by show 2 ≤ sizeLine; decide, fun t nt => ⟨by show 1 ≤ sizeLine; decide, fun l nl => k l _ _ upd_same (.cons (at_one nt nl) .nil) ((Keep.new nt).then_new nl)⟩⟩
    | long h =>
      refine ⟨_, rfl, _, _, _, _, rfl, rfl, h.sq, rfl, _, rfl, rfl, _, rfl, iteDF (nes (by decide +kernel)) ?_⟩
      refine ⟨_, rfl, rfl, _, rfl, iteDF (nes (by decide +kernel)) ?_⟩
      refine ⟨_, rfl, rfl, _, rfl, iteDT rfl ?_⟩
      exact ⟨by show 2 ≤ sizeLine; decide, fun t nt => ⟨by show 1 ≤ sizeLine; decide, fun l nl => k l _ _ upd_same (.cons (at_one nt nl) .nil) ((Keep.new nt).then_new nl)⟩⟩
    | @view _ _ e1 h h1 =>
      refine ⟨_, rfl, _, _, _, _, rfl, rfl, h.sq, rfl, _, rfl, rfl, _, rfl, iteDF (nes (by decide +kernel)) ?_⟩
      refine ⟨_, rfl, rfl, _, rfl, iteDF (nes (by decide +kernel)) ?_⟩
      refine ⟨_, rfl, rfl, _, rfl, iteDF (nes (by decide +kernel)) ?_⟩
      refine ⟨_, rfl, rfl, _, rfl, iteDT rfl ?_⟩
      have hsz := code_small on (e := .view e1) (by omega)
      unfold Ex.dep at hd
      refine ⟨_, rfl, _, _, _, _, rfl, rfl, h.sq, rfl, _, rfl, _, rfl, _, _, _, _, ns, ps, on, rfl, h1, hok, by omega, by omega, S, O, fun l1 xs H1 hl1 C1 K1 => ?_⟩
      refine ⟨_, _, rfl, .inr (SqL.of hl1), by show 2 ≤ sizeLine; decide, fun t nt => ⟨?_, fun l nl => ?_⟩⟩
      · rw [List.length_append, C1.len]
        have : (code on (.view e1)).length = (code on e1).length + 1 := by show (code on e1 ++ [Ins.view]).length = _; rw [List.length_append]; rfl
        exact smallM (by simp; omega)
      · exact k l _ _ upd_same ((C1.tk ((TK.new nt).trans (TK.new nl))).app (.cons (at_one nt nl) .nil)) ((K1.then_new nt).then_new nl)
    | pick h h1 h2 =>
      refine ⟨_, rfl, _, _, _, _, rfl, rfl, h.sq, rfl, _, rfl, rfl, _, rfl, iteDF (nes (by decide +kernel)) ?_⟩
      refine ⟨_, rfl, rfl, _, rfl, iteDF (nes (by decide +kernel)) ?_⟩
      refine ⟨_, rfl, rfl, _, rfl, iteDF (nes (by decide +kernel)) ?_⟩
      refine ⟨_, rfl, rfl, _, rfl, iteDF (nes (by decide +kernel)) ?_⟩
      refine ⟨_, rfl, rfl, _, rfl, iteDT rfl ?_⟩
      unfold Ex.dep at hd
      unfold code at k
      refine ⟨_, rfl, _, rfl, _, _, _, _, rfl, rfl, h.sq, rfl, _, _, rfl, O.get hok.1, _, rfl, iteB (fun q => ?_) (fun q => ?_)⟩
      · rw [if_pos q] at k
        exact ⟨_, rfl, _, _, _, _, rfl, rfl, h.sq, rfl, _, rfl, _, rfl, _, rfl, _, _, _, _, ns, ps, on, rfl, h1, hok.2.1, by omega, by omega, S, O, k⟩
      · rw [if_neg (by simp [q])] at k
        exact ⟨_, rfl, _, _, _, _, rfl, rfl, h.sq, rfl, _, rfl, _, rfl, _, rfl, _, _, _, _, ns, ps, on, rfl, h2, hok.2.2, by omega, by omega, S, O, k⟩
    | @op _ sg _ _ e1 e2 h h1 h2 =>
      obtain ⟨n1, n2, n3, n4, n5⟩ := sg_not _ hok.1
      refine ⟨_, rfl, _, _, _, _, rfl, rfl, h.sq, rfl, _, rfl, rfl, _, rfl, iteDF (nes n1) ?_⟩
      refine ⟨_, rfl, rfl, _, rfl, iteDF (nes n2) ?_⟩
      refine ⟨_, rfl, rfl, _, rfl, iteDF (nes n3) ?_⟩
      refine ⟨_, rfl, rfl, _, rfl, iteDF (nes n4) ?_⟩
      refine ⟨_, rfl, rfl, _, rfl, iteDF (nes n5) ?_⟩
      have hsz := code_small on (e := .op sg e1 e2) (by omega)
      unfold Ex.dep at hd
      refine ⟨_, rfl, _, _, _, _, rfl, rfl, h.sq, rfl, _, rfl, _, rfl, _, _, _, _, ns, ps, on, rfl, h1, hok.2.1, by omega, by omega, S, O, fun l1 xs H1 hl1 C1 K1 => ?_⟩
      refine ⟨_, rfl, _, _, _, _, rfl, rfl, (h.tk K1.tk).sq, rfl, _, rfl, _, rfl, _, _, _, _, ns, ps, on, rfl, h2.tk K1.tk, hok.2.2, by omega, by omega, S.keep K1 (by simp), O.keep K1, fun l2 ys H2 hl2 C2 K2 => ?_⟩
      have hi := idx_get hok.1
      have hl1' := K2 _ _ hl1 (by simp)
      refine ⟨_, rfl, _, _, rfl, .inr (SqL.of hl1'), _, rfl, _, _, rfl, .inr (SqL.of hl2), .inr (.inl ⟨rfl, T.d_SIGNS⟩), _, rfl, _, sgL, _, _, rfl, rfl, T.q_SIGNS _, hi.1, hi.2, by show 2 ≤ sizeLine; decide, fun t nt => ⟨?_, fun l nl => ?_⟩⟩
      · have : (code on (.op sg e1 e2)).length = (code on e1).length + (code on e2).length + 1 := by show (code on e1 ++ code on e2 ++ [Ins.sign sg]).length = _; rw [List.length_append, List.length_append]; rfl
        rw [List.length_append, List.length_append, C1.len, C2.len]
        exact smallM (by simp; omega)
      · have kk := (TK.new nt).trans (TK.new (o := .lst (xs ++ (ys ++ [.ref t]))) nl)
        refine k l _ _ upd_same ?_ (((K1.trans K2).then_new nt).then_new nl)
        show CL K _ ns (xs ++ (ys ++ [.ref t])) (code on e1 ++ code on e2 ++ [Ins.sign sg])
        rw [List.append_assoc]
        exact (((C1.tk K2.tk).tk kk).app ((C2.tk kk).app (.cons (at_one nt nl) .nil)))
end

def tkI (x : Ins) : Int := (if decide (V.str (tagI x) = V.str "view") = true then 1 else 0) + 2 * (if decide (V.str (tagI x) = V.str "sign") = true then 1 else 0)
theorem tk_le {tb : Str → Int} {seen : List Int} {x : Ins} {R R' : List Int} (h : step tb seen x R = some R') : tkI x ≤ R.length := by
  unfold tkI
  cases x with
  | push n => rw [show tagI (.push n) = "push" from rfl, decide_eq_false (nes (by decide +kernel)), decide_eq_false (nes (by decide +kernel))]; simp
  | load n => rw [show tagI (.load n) = "load" from rfl, decide_eq_false (nes (by decide +kernel)), decide_eq_false (nes (by decide +kernel))]; simp
  | long => rw [show tagI .long = "long" from rfl, decide_eq_false (nes (by decide +kernel)), decide_eq_false (nes (by decide +kernel))]; simp
  | view =>
    rw [show tagI .view = "view" from rfl, decide_eq_true rfl, decide_eq_false (nes (by decide +kernel))]
    cases R with
    | nil => cases h
    | cons a r => simp only [if_true, Bool.false_eq_true, if_false, List.length_cons]; omega
  | sign s =>
    rw [show tagI (.sign s) = "sign" from rfl, decide_eq_true rfl, decide_eq_false (nes (by decide +kernel))]
    match R, h with
    | b :: a :: r, h => simp only [if_true, Bool.false_eq_true, if_false, List.length_cons]; omega
theorem tag_in (x : Ins) : (!inV (.str (tagI x)) [.str "push", .str "load", .str "long", .str "view", .str "sign"]) = false := by
  cases x with
  | push n => show (!inV (.str "push") [.str "push", .str "load", .str "long", .str "view", .str "sign"]) = false; decide +kernel
  | load n => show (!inV (.str "load") [.str "push", .str "load", .str "long", .str "view", .str "sign"]) = false; decide +kernel
  | long => show (!inV (.str "long") [.str "push", .str "load", .str "long", .str "view", .str "sign"]) = false; decide +kernel
  | view => show (!inV (.str "view") [.str "push", .str "load", .str "long", .str "view", .str "sign"]) = false; decide +kernel
  | sign n => show (!inV (.str "sign") [.str "push", .str "load", .str "long", .str "view", .str "sign"]) = false; decide +kernel
theorem vw_at {seen : List Int} {a : Int} (h0 : 0 ≤ a) : atI (seen.map V.int ++ [V.int 0]) (if (seen.length : Int) < a then (seen.length : Int) else a) = some (.int (vw seen a)) := by
  unfold vw
  by_cases h : a < seen.length
  · rw [if_neg (by omega), if_pos h]
    obtain ⟨m, rfl⟩ : ∃ m : Nat, a = (m : Int) := ⟨a.toNat, by omega⟩
    have hm : m < seen.length := by omega
    refine atI_nat ?_
    rw [List.getElem?_append_left (by rw [List.length_map]; exact hm), List.getElem?_map, List.getD_eq_getElem?_getD, Int.toNat_natCast, List.getElem?_eq_getElem hm]; rfl
  · rw [if_neg h]
    have e : (if (seen.length : Int) < a then (seen.length : Int) else a) = (seen.length : Nat) := by split <;> omega
    rw [e]
    refine atI_nat ?_
    rw [List.getElem?_append_right (by rw [List.length_map]; exact Nat.le_refl _), List.length_map, Nat.sub_self]; rfl
theorem rev_cons (a : Int) (r : List Int) : (a :: r).reverse.map V.int = r.reverse.map V.int ++ [V.int a] := by rw [List.reverse_cons, List.map_append]; rfl
theorem last_of (xs : List V) (y : V) : (xs ++ [y])[(xs ++ [y]).length - 1]? = some y := by simp
def sp_run (K : PySem.W.Frag) : Sp := fun vs H Q _ => ∃ (cl ce sa : Addr) (xs : List V) (c : List Ins) (ns : List Str) (tb : Str → Int) (seen R : List Int), vs = [.ref cl, .ref ce, .ref sa] ∧ H cl = some (.lst xs) ∧ CL K H ns xs c ∧ (∀ i ∈ c, i.Ok ns) ∧
  runI tb seen c [] = some R ∧ H ce = some (.lst (ns.map fun x => V.int (tb x))) ∧ H sa = some (.tup (seen.map V.int)) ∧ TbOk ns tb ∧ SeenOk seen ∧ seen.length ≤ 1000 ∧ c.length ≤ 8192 ∧
  ∀ l H', H' l = some (.lst (R.reverse.map V.int)) → Keep [] H H' → Q (.ref l) H'
section
variable {P : Program} {w : World} {K : PySem.W.Frag} {mg : Str → Option Value} {base : Heap} {T_SIGNS : Addr}
theorem ok_lcode0 {f : Addr} {fd : FuncData} (D : C8.Def K mg "_law_code" s_law_code f fd) (b : Binds K fd ["due", "slots", "on"] []) : C8.Cal P w K mg base 1 "_law_code" (sp_lcode K 0) [] :=
  ⟨f, fd, ["due", "slots", "on"], [], ⟨fun vs H Q E h => (by obtain ⟨v, sl, od, e, ns, ps, on, rfl, _⟩ := h; rfl), fun A outer s H args us vs Q E _ _ _ _ h => (by obtain ⟨v, sl, od, e, ns, ps, on, _, _, _, z, _⟩ := h; have := e.dep_pos; omega)⟩, D.mgf, D.kp, b, .nil⟩
theorem ok_lcode {f : Addr} {fd : FuncData} (D : C8.Def K mg "_law_code" s_law_code f fd) (b : Binds K fd ["due", "slots", "on"] []) (T : Txt K mg T_SIGNS) {n k : Nat} (c_law_code : C8.Cal P w K mg base k "_law_code" (sp_lcode K n) []) :
    C8.Cal P w K mg base (k + 1) "_law_code" (sp_lcode K (n + 1)) [] := by
  refine cal0 D b .nil sc_law_code (fun vs H Q E h => ?_) (fun cdv A outer s H vs Q E hr h => ?_)
  · obtain ⟨v, sl, od, e, ns, ps, on, rfl, _⟩ := h
    rfl
  · obtain ⟨v, sl, od, e, ns, ps, on, rfl, he, hok, hd, hn, S, O, k⟩ := h
    have hu := hu_of hr
    refine ⟨_, (pss_cons (ps_if (pt_cmpR op_eq (pe_ix ix_tup (pv 0) pe_int (fun _ _ => rfl)) pe_str (nomark _))
  (pss_one (ps_ret (pe_lst (pa_cons (pe_tup (pa_cons pe_str (pa_cons (pe_ix ix_tup (pv 0) pe_int (fun _ _ => rfl)) pa_nil))) pa_nil))))
  pss_nil)
(pss_cons (ps_if (pt_cmpR op_eq (pe_ix ix_tup (pv 0) pe_int (fun _ _ => rfl)) pe_str (nomark _))
  (pss_one (ps_ret (pe_lst (pa_cons (pe_tup (pa_cons pe_str (pa_cons (pe_bm PySem.F.plainAttrs_list PySem.F.slot_list_index PySem.F.type_list_index mt_index (pv 1) (pa_cons (pe_ix ix_tup (pv 0) pe_int (fun _ _ => rfl)) pa_nil)) pa_nil))) pa_nil))))
  pss_nil)
(pss_cons (ps_if (pt_cmpR op_eq (pe_ix ix_tup (pv 0) pe_int (fun _ _ => rfl)) pe_str (nomark _))
  (pss_one (ps_ret (pe_lst (pa_cons (pe_tup (pa_cons pe_str (pa_cons pe_int pa_nil))) pa_nil))))
  pss_nil)
(pss_cons (ps_if (pt_cmpR op_eq (pe_ix ix_tup (pv 0) pe_int (fun _ _ => rfl)) pe_str (nomark _))
  (pss_one (ps_ret (pe_op op_cat (pe_c c_law_code hr (by first | exact Nat.le_refl _ | decide) rfl (pa_cons (pe_ix ix_tup (pv 0) pe_int (fun _ _ => rfl)) (pa_cons (pv 1) (pa_cons (pv 2) pa_nil)))) (pe_lst (pa_cons (pe_tup (pa_cons pe_str (pa_cons pe_int pa_nil))) pa_nil)))))
  pss_nil)
(pss_cons (ps_if (pt_cmpR op_eq (pe_ix ix_tup (pv 0) pe_int (fun _ _ => rfl)) pe_str (nomark _))
  (pss_one (ps_ret (pe_c c_law_code hr (by first | exact Nat.le_refl _ | decide) rfl (pa_cons (pe_ix ix_tup (pv 0) (pe_op op_sub pe_int (pe_callTy call_int1 (by rfl) T.n_int bo_int (pa_cons (pe_dget hu (pv 2) (pe_ix ix_tup (pv 0) pe_int (fun _ _ => rfl)) (fun _ _ => rfl)) pa_nil))) (fun _ _ => rfl)) (pa_cons (pv 1) (pa_cons (pv 2) pa_nil))))))
  pss_nil)
(pss_cons (ps_set (i := 3) sc_law_code.nd rfl (by first | exact Or.inl rfl | exact Or.inr rfl) (pe_bmZ PySem.F.plainAttrs_tuple PySem.F.slot_tuple_index PySem.F.type_tuple_index mt_tup_index (pe_tupZ (pa_cons pe_str (pa_cons pe_str (pa_cons pe_str (pa_cons pe_str (pa_cons pe_str (pa_cons pe_str (pa_cons pe_str pa_nil)))))))) (pa_cons (pe_ix ix_tup (pv 0) pe_int (fun _ _ => rfl)) pa_nil)))
(pss_one (ps_ret (pe_op op_cat (pe_op op_cat (pe_c c_law_code hr (by first | exact Nat.le_refl _ | decide) rfl (pa_cons (pe_ix ix_tup (pv 0) pe_int (fun _ _ => rfl)) (pa_cons (pv 1) (pa_cons (pv 2) pa_nil)))) (pe_c c_law_code hr (by first | exact Nat.le_refl _ | decide) rfl (pa_cons (pe_ix ix_tup (pv 0) pe_int (fun _ _ => rfl)) (pa_cons (pv 1) (pa_cons (pv 2) pa_nil))))) (pe_lst (pa_cons (pe_tup (pa_cons pe_str (pa_cons (pv 3) pa_nil))) pa_nil))))))))))), ?_⟩
    cases he with
    | num h =>
      refine ⟨_, rfl, _, _, _, _, rfl, rfl, h.sq, rfl, rfl, _, rfl, iteDT rfl ?_⟩
      exact ⟨_, rfl, _, _, _, _, rfl, rfl, h.sq, rfl, by show 2 ≤ sizeLine; decide, fun t nt => ⟨by show 1 ≤ sizeLine; decide, fun l nl => k l _ _ upd_same (.cons (at_one nt nl) .nil) ((Keep.new nt).then_new nl)⟩⟩
    | var h =>
      refine ⟨_, rfl, _, _, _, _, rfl, rfl, h.sq, rfl, rfl, _, rfl, iteDF (nes (by decide +kernel)) ?_⟩
      refine ⟨_, rfl, _, _, _, _, rfl, rfl, h.sq, rfl, rfl, _, rfl, iteDT rfl ?_⟩
      have hi := idx_get hok
      exact ⟨_, rfl, .inl ⟨rfl, _, SqL.of S⟩, _, rfl, _, _, _, _, rfl, rfl, h.sq, rfl, _, _, _, _, _, rfl, rfl, SqL.of S, rfl, flat_strs ns, by rw [List.getElem?_map, hi.1]; rfl, by simp [eqV], str_ne_eqV hi.2, by show 2 ≤ sizeLine; decide, fun t nt => ⟨by show 1 ≤ sizeLine; decide, fun l nl => k l _ _ upd_same (.cons (at_one nt nl) .nil) ((Keep.new nt).then_new nl)⟩⟩
    | long h =>
      refine ⟨_, rfl, _, _, _, _, rfl, rfl, h.sq, rfl, rfl, _, rfl, iteDF (nes (by decide +kernel)) ?_⟩
      refine ⟨_, rfl, _, _, _, _, rfl, rfl, h.sq, rfl, rfl, _, rfl, iteDF (nes (by decide +kernel)) ?_⟩
      refine ⟨_, rfl, _, _, _, _, rfl, rfl, h.sq, rfl, rfl, _, rfl, iteDT rfl ?_⟩
      exact ⟨by show 2 ≤ sizeLine; decide, fun t nt => ⟨by show 1 ≤ sizeLine; decide, fun l nl => k l _ _ upd_same (.cons (at_one nt nl) .nil) ((Keep.new nt).then_new nl)⟩⟩
    | @view _ _ e1 h h1 =>
      refine ⟨_, rfl, _, _, _, _, rfl, rfl, h.sq, rfl, rfl, _, rfl, iteDF (nes (by decide +kernel)) ?_⟩
      refine ⟨_, rfl, _, _, _, _, rfl, rfl, h.sq, rfl, rfl, _, rfl, iteDF (nes (by decide +kernel)) ?_⟩
      refine ⟨_, rfl, _, _, _, _, rfl, rfl, h.sq, rfl, rfl, _, rfl, iteDF (nes (by decide +kernel)) ?_⟩
      refine ⟨_, rfl, _, _, _, _, rfl, rfl, h.sq, rfl, rfl, _, rfl, iteDT rfl ?_⟩
      have hsz := code_small on (e := .view e1) (by omega)
      unfold Ex.dep at hd
      refine ⟨_, rfl, _, _, _, _, rfl, rfl, h.sq, rfl, _, rfl, _, rfl, _, _, _, _, ns, ps, on, rfl, h1, hok, by omega, by omega, S, O, fun l1 xs H1 hl1 C1 K1 => ?_⟩
      refine ⟨by show 2 ≤ sizeLine; decide, fun t nt => ⟨by show 1 ≤ sizeLine; decide, fun l2 nl2 => ⟨_, _, _, _, rfl, rfl, ((Keep.new (W := []) nt).then_new nl2) _ _ hl1 (by simp), upd_same, ?_, fun M hM => ?_⟩⟩⟩
      · rw [C1.len]
        have : (code on (.view e1)).length = (code on e1).length + 1 := by show (code on e1 ++ [Ins.view]).length = _; rw [List.length_append]; rfl
        exact smallM (by simp; omega)
      · exact k M _ _ upd_same ((C1.tk (((TK.new nt).trans (TK.new nl2)).trans (TK.new hM))).app (.cons ((at_one nt nl2).tk (TK.new hM)) .nil)) (((K1.then_new nt).then_new nl2).then_new hM)
    | @pick _ x _ _ _ _ h h1 h2 =>
      refine ⟨_, rfl, _, _, _, _, rfl, rfl, h.sq, rfl, rfl, _, rfl, iteDF (nes (by decide +kernel)) ?_⟩
      refine ⟨_, rfl, _, _, _, _, rfl, rfl, h.sq, rfl, rfl, _, rfl, iteDF (nes (by decide +kernel)) ?_⟩
      refine ⟨_, rfl, _, _, _, _, rfl, rfl, h.sq, rfl, rfl, _, rfl, iteDF (nes (by decide +kernel)) ?_⟩
      refine ⟨_, rfl, _, _, _, _, rfl, rfl, h.sq, rfl, rfl, _, rfl, iteDF (nes (by decide +kernel)) ?_⟩
      refine ⟨_, rfl, _, _, _, _, rfl, rfl, h.sq, rfl, rfl, _, rfl, iteDT rfl ?_⟩
      unfold Ex.dep at hd
      unfold code at k
      have ho := O.get hok.1
      cases q : on x with
      | true =>
        rw [q] at ho
        rw [if_pos q] at k
        exact ⟨_, rfl, _, rfl, _, rfl, _, _, _, _, rfl, rfl, h.sq, rfl, _, _, rfl, ho, .inr ⟨_, rfl, _, _, rfl, rfl, _, _, _, _, rfl, rfl, h.sq, rfl, _, rfl, _, rfl, _, _, _, _, ns, ps, on, rfl, h1, hok.2.1, by omega, by omega, S, O, k⟩⟩
      | false =>
        rw [q] at ho
        rw [if_neg (by simp [q])] at k
        exact ⟨_, rfl, _, rfl, _, rfl, _, _, _, _, rfl, rfl, h.sq, rfl, _, _, rfl, ho, .inr ⟨_, rfl, _, _, rfl, rfl, _, _, _, _, rfl, rfl, h.sq, rfl, _, rfl, _, rfl, _, _, _, _, ns, ps, on, rfl, h2, hok.2.2, by omega, by omega, S, O, k⟩⟩
    | @op _ sg _ _ e1 e2 h h1 h2 =>
      obtain ⟨n1, n2, n3, n4, n5⟩ := sg_not _ hok.1
      refine ⟨_, rfl, _, _, _, _, rfl, rfl, h.sq, rfl, rfl, _, rfl, iteDF (nes n1) ?_⟩
      refine ⟨_, rfl, _, _, _, _, rfl, rfl, h.sq, rfl, rfl, _, rfl, iteDF (nes n2) ?_⟩
      refine ⟨_, rfl, _, _, _, _, rfl, rfl, h.sq, rfl, rfl, _, rfl, iteDF (nes n3) ?_⟩
      refine ⟨_, rfl, _, _, _, _, rfl, rfl, h.sq, rfl, rfl, _, rfl, iteDF (nes n4) ?_⟩
      refine ⟨_, rfl, _, _, _, _, rfl, rfl, h.sq, rfl, rfl, _, rfl, iteDF (nes n5) ?_⟩
      have hsz := code_small on (e := .op sg e1 e2) (by omega)
      have hlen : (code on (.op sg e1 e2)).length = (code on e1).length + (code on e2).length + 1 := by show (code on e1 ++ code on e2 ++ [Ins.sign sg]).length = _; rw [List.length_append, List.length_append]; rfl
      unfold Ex.dep at hd
      have hi := idx_get hok.1
      refine ⟨by show 7 ≤ sizeLine; decide, fun tz oz ntz hc hdn => ⟨_, _, rfl, ⟨oz, upd_same, hc, hdn⟩, ?_⟩⟩
      have Kz : Keep [] H (upd H tz (.frz oz (.tup [.str "+", .str "-", .str "*", .str "/", .str "mod", .str "<", .str "="]))) := Keep.new ntz
      refine ⟨_, rfl, _, _, _, _, rfl, rfl, (h.tk Kz.tk).sq, rfl, _, sgL, _, _, rfl, rfl, TupD.sq ⟨oz, upd_same, hc, hdn⟩, hi.1, hi.2, ?_⟩
      refine ⟨_, rfl, _, _, _, _, rfl, rfl, (h.tk Kz.tk).sq, rfl, _, rfl, _, rfl, _, _, _, _, ns, ps, on, rfl, h1.tk Kz.tk, hok.2.1, by omega, by omega, Kz _ _ S (by simp), O.keep Kz, fun l1 xs H1 hl1 C1 K1 => ?_⟩
      have K1' := Kz.trans K1
      refine ⟨_, rfl, _, _, _, _, rfl, rfl, (h.tk K1'.tk).sq, rfl, _, rfl, _, rfl, _, _, _, _, ns, ps, on, rfl, h2.tk K1'.tk, hok.2.2, by omega, by omega, K1' _ _ S (by simp), O.keep K1', fun l2 ys H2 hl2 C2 K2 => ?_⟩
      refine ⟨_, _, _, _, rfl, rfl, K2 _ _ hl1 (by simp), hl2, ?_, fun M hM => ?_⟩
      · rw [C1.len, C2.len]; exact smallM (by omega)
      refine ⟨_, rfl, by show 2 ≤ sizeLine; decide, fun t nt => ⟨by show 1 ≤ sizeLine; decide, fun l3 nl3 => ⟨_, _, _, _, rfl, rfl, ((Keep.new (W := []) nt).then_new nl3) _ _ upd_same (by simp), upd_same, ?_, fun M2 hM2 => ?_⟩⟩⟩
      · rw [List.length_append, C1.len, C2.len]; exact smallM (by simp; omega)
      · have kk := (((TK.new (o := .lst (xs ++ ys)) hM).trans (TK.new nt)).trans (TK.new nl3)).trans (TK.new (o := .lst (xs ++ ys ++ [.ref t])) hM2)
        refine k M2 _ _ upd_same (((C1.tk K2.tk).tk kk).app (C2.tk kk) |>.app (.cons ((at_one nt nl3).tk (TK.new hM2)) .nil)) (((((K1'.trans K2).then_new hM).then_new nt).then_new nl3).then_new hM2)
theorem ok_law_run {f : Addr} {fd : FuncData} (D : C8.Def K mg "_law_run" s_law_run f fd) (b : Binds K fd ["code", "cells", "seen"] []) (T : Txt K mg T_SIGNS) (c_law_same : C8.Cal P w K mg base 3 "_law_same" (sp_law_same K 3) []) (c_law_combine : C8.Cal P w K mg base 1 "_law_combine" sp_lcomb []) :
    C8.Cal P w K mg base 4 "_law_run" (sp_run K) [] := by
  refine cal0 D b .nil sc_law_run (fun vs H Q E h => ?_) (fun cdv A outer s H vs Q E hr h => ?_)
  · obtain ⟨cl, ce, sa, xs, c, ns, tb, seen, R, rfl, _⟩ := h
    rfl
  · obtain ⟨cl, ce, sa, xs, c, ns, tb, seen, R, rfl, hcl, C, hcok, hrun, hce, hsa, htb, hsok, hsl, hclen, k⟩ := h
    refine ⟨_, (pss_cons (ps_set (i := 3) sc_law_run.nd rfl (by first | exact Or.inl rfl | exact Or.inr rfl) (pe_lst pa_nil))
(pss_cons (ps_for PassesOwn.never rfl (pi_list (pv 0)) (pg_name (i := 4) sc_law_run.nd rfl (by first | exact Or.inl rfl | exact Or.inr rfl))
  (pss_cut (ps_if (PW.pt (pw_or (pt_not (pt_val (pe_callB call_isi (by rfl) T.n_isinstance bo_isinstance (pa_cons (pv 4) (pa_cons (pe_bltn (v := .ty "tuple") (by rfl) T.n_tuple bo_tuple rfl) pa_nil))))) (pw_or (pt_cmpR op_ne (pe_callB call_len_seq (by rfl) T.n_len bo_len (pa_cons (pv 4) pa_nil)) pe_int (nomark _)) (pw_or1 (pt_not (pt_val (pe_c c_law_same hr (by first | exact Nat.le_refl _ | decide) rfl (pa_cons (pv 4) (pa_cons (pe_tup (pa_cons (pe_callTy SkE.call_str_str (by rfl) T.n_str bo_str (pa_cons (pe_ix ix_tup (pv 4) pe_int (fun _ _ => rfl)) pa_nil)) (pa_cons (pe_callTy call_int1 (by rfl) T.n_int bo_int (pa_cons (pe_ix ix_tup (pv 4) pe_int (fun _ _ => rfl)) pa_nil)) pa_nil))) pa_nil)))))))))
    (pss_one (ps_ret pe_non))
    pss_nil)
  (pss_cons (ps_set (i := 5) sc_law_run.nd rfl (by first | exact Or.inl rfl | exact Or.inr rfl) (pe_op op_add (pe_callTy call_int1 (by rfl) T.n_int bo_int (pa_cons (pe_cmpR op_eq (pe_ix ix_tup (pv 4) pe_int (fun _ _ => rfl)) pe_str (nomark _)) pa_nil)) (pe_op op_mul pe_int (pe_callTy call_int1 (by rfl) T.n_int bo_int (pa_cons (pe_cmpR op_eq (pe_ix ix_tup (pv 4) pe_int (fun _ _ => rfl)) pe_str (nomark _)) pa_nil)))))
  (pss_cut (ps_if (PW.pt (pw_or (pt_cmpR op_lt (pe_callB call_len_seq (by rfl) T.n_len bo_len (pa_cons (pv 3) pa_nil)) (pv 5) (nomark _)) (pw_or1 (pt_cmpR op_notIn_seq (pe_ix ix_tup (pv 4) pe_int (fun _ _ => rfl)) (pe_tup (pa_cons pe_str (pa_cons pe_str (pa_cons pe_str (pa_cons pe_str (pa_cons pe_str pa_nil)))))) (by rfl)))))
    (pss_one (ps_ret pe_non))
    pss_nil)
  (pss_one (ps_if (pt_cmpR op_eq (pe_ix ix_tup (pv 4) pe_int (fun _ _ => rfl)) pe_str (nomark _))
    (pss_one (ps_expr (pe_bm PySem.F.plainAttrs_list PySem.F.slot_list_append PySem.F.type_list_append mt_append (pv 3) (pa_cons (pe_ix ix_tup (pv 4) pe_int (fun _ _ => rfl)) pa_nil))))
    (pss_one (ps_if (pt_cmpR op_eq (pe_ix ix_tup (pv 4) pe_int (fun _ _ => rfl)) pe_str (nomark _))
      (pss_one (ps_expr (pe_bm PySem.F.plainAttrs_list PySem.F.slot_list_append PySem.F.type_list_append mt_append (pv 3) (pa_cons (pe_ix ix_list (pv 1) (pe_ix ix_tup (pv 4) pe_int (fun _ _ => rfl)) (fun _ _ => rfl)) pa_nil))))
      (pss_one (ps_if (pt_cmpR op_eq (pe_ix ix_tup (pv 4) pe_int (fun _ _ => rfl)) pe_str (nomark _))
        (pss_one (ps_expr (pe_bm PySem.F.plainAttrs_list PySem.F.slot_list_append PySem.F.type_list_append mt_append (pv 3) (pa_cons (pe_callB call_len_seq (by rfl) T.n_len bo_len (pa_cons (pv 2) pa_nil)) pa_nil))))
        (pss_one (ps_if (pt_cmpR op_eq (pe_ix ix_tup (pv 4) pe_int (fun _ _ => rfl)) pe_str (nomark _))
          (pss_cons (ps_set (i := 6) sc_law_run.nd rfl (by first | exact Or.inl rfl | exact Or.inr rfl) (pe_bm0 PySem.F.plainAttrs_list PySem.F.slot_list_pop PySem.F.type_list_pop mt_pop (pv 3)))
          (pss_one (ps_expr (pe_bm PySem.F.plainAttrs_list PySem.F.slot_list_append PySem.F.type_list_append mt_append (pv 3) (pa_cons (pe_ix ix_list (pe_op op_cat (pe_callTy call_list_of (by rfl) T.n_list bo_list (pa_cons (pv 2) pa_nil)) (pe_lst (pa_cons pe_int pa_nil))) (pe_callB (call_min2 rfl) (by rfl) T.n_min bo_min (pa_cons (pv 6) (pa_cons (pe_callB call_len_seq (by rfl) T.n_len bo_len (pa_cons (pv 2) pa_nil)) pa_nil))) (fun _ _ => rfl)) pa_nil)))))
          (pss_cons (ps_set (i := 7) sc_law_run.nd rfl (by first | exact Or.inl rfl | exact Or.inr rfl) (pe_bm0 PySem.F.plainAttrs_list PySem.F.slot_list_pop PySem.F.type_list_pop mt_pop (pv 3)))
          (pss_one (ps_expr (pe_bm PySem.F.plainAttrs_list PySem.F.slot_list_append PySem.F.type_list_append mt_append (pv 3) (pa_cons (pe_c c_law_combine hr (by first | exact Nat.le_refl _ | decide) rfl (pa_cons (pe_ix ix_tup (pv 4) pe_int (fun _ _ => rfl)) (pa_cons (pe_bm0 PySem.F.plainAttrs_list PySem.F.slot_list_pop PySem.F.type_list_pop mt_pop (pv 3)) (pa_cons (pv 7) pa_nil)))) pa_nil)))))))))))))))))
(pss_one (ps_ret (pv 3))))), ?_⟩
    refine ⟨by show 0 ≤ sizeLine; decide, fun st nst => ?_⟩
    have K0 : Keep [] H (upd H st (.lst [])) := Keep.new nst
    refine ⟨_, rfl, cl, rfl, ⟨_, SqL.of (K0 _ _ hcl (by simp))⟩, for_list (K := K) (a := cl) (xs := xs) (fun i σ H' => ∃ (o4 o5 o6 o7 : Option V) (Ri : List Int), σ = [some (.ref cl), some (.ref ce), some (.ref sa), some (.ref st), o4, o5, o6, o7] ∧
        H' st = some (.lst (Ri.reverse.map V.int)) ∧ runI tb seen (c.take i) [] = some Ri ∧ InR Ri ∧ Keep [] H H' ∧ Ri.length ≤ i) ⟨_, _, _, _, [], rfl, upd_same, rfl, (fun _ h => by cases h), K0, Nat.le_refl _⟩ (fun i σ H' _ ⟨_, _, _, _, _, _, _, _, _, kk, _⟩ => SqL.of (kk _ _ hcl (by simp))) ?_ ?_⟩
    · rintro i v σ H1 hi ⟨o4, o5, o6, o7, Ri, rfl, hst, hri, hin, K1, hlen⟩
      obtain ⟨t, x, rfl, hcx, hat0⟩ := C.get hi
      obtain ⟨R', hstep, hrun'⟩ := run_take hrun hcx hri
      have hxok := hcok x (List.mem_of_getElem? hcx)
      have hin' := step_range htb hsok (by omega) hxok hin hstep
      have hat := hat0.tk K1.tk
      have hic : i < c.length := (List.getElem?_eq_some_iff.mp hcx).1
      -- is it a pair
      refine ⟨fun σ H2 => σ = [some (.ref cl), some (.ref ce), some (.ref sa), some (.ref st), some (.ref t), o5, o6, o7] ∧ Keep [] H1 H2, ?_, ?_⟩
      · refine ⟨_, rfl, _, _, _, _, _, rfl, .ty _, hat.ty, kTT, _, rfl, iteF ?_⟩
        refine ⟨_, rfl, _, _, rfl, .inr hat.sq, rfl, _, rfl, iteNF rfl ?_⟩
        refine ⟨_, rfl, _, rfl, _, _, _, _, rfl, rfl, hat.sq, rfl, _, rfl, _, rfl, _, _, _, _, rfl, rfl, hat.sq, rfl, .inl ⟨_, rfl, by show 2 ≤ sizeLine; decide, fun u nu => ?_⟩⟩
        refine ⟨_, _, rfl, sameT (hat.tk (TK.new nu)) (.inl upd_same) (.cons (.inl ⟨rfl, .inl ⟨_, rfl⟩⟩) (.cons (.inl ⟨rfl, .inr (.inl ⟨_, rfl⟩)⟩) .nil)) (by simp), _, rfl, iteF ⟨rfl, Keep.new nu⟩⟩
      rintro σ H2 ⟨rfl, K2⟩
      have hat2 := hat.tk K2.tk
      have hst2 := K2 _ _ hst (by simp)
      -- what it takes
      refine ⟨_, rfl, _, _, _, _, rfl, rfl, hat2.sq, rfl, rfl, .inr ⟨_, rfl, _, rfl, _, _, _, _, rfl, rfl, hat2.sq, rfl, rfl, .inr ⟨_, rfl, _, _, rfl, rfl, .inl ⟨by decide, by decide⟩, _, _, rfl, rfl, ?_⟩⟩⟩
      refine ⟨fun σ H3 => σ = [some (.ref cl), some (.ref ce), some (.ref sa), some (.ref st), some (.ref t), some (.int (tkI x)), o6, o7] ∧ Keep [] H2 H3, ?_, ?_⟩
      · refine ⟨_, rfl, _, _, rfl, .inl (SqL.of hst2), _, rfl, _, _, rfl, rfl, _, rfl, iteDF ?_ ?_⟩
        · have := tk_le hstep
          rw [List.length_map, List.length_reverse]
          show ¬ ((Ri.length : Int) < tkI x)
          omega
        refine ⟨_, rfl, _, _, _, _, rfl, rfl, hat2.sq, rfl, by show 5 ≤ sizeLine; decide, fun u nu => ⟨_, _, rfl, .inr (SqT.of upd_same), rfl, rfl, _, rfl, iteB (fun e => ?_) (fun _ => ⟨rfl, Keep.new nu⟩)⟩⟩
        exact absurd ((tag_in x).symm.trans e) (by simp)
      rintro σ H3 ⟨rfl, K3⟩
      have hat3 := hat2.tk K3.tk
      have hst3 := K3 _ _ hst2 (by simp)
      have K13 := (K1.trans K2).trans K3
      have hce3 := K13 _ _ hce (by simp)
      have hsa3 := K13 _ _ hsa (by simp)
      have hrl : (Ri.reverse.map V.int).length < sizeLine := by rw [List.length_map, List.length_reverse]; exact smallL (by omega)
      -- behind the step
      have fin : ∀ {y : Int} {r : List Int} {H4 : Hp} {o6 o7 : Option V}, R' = y :: r → r.length ≤ i → H4 st = some (.lst (r.reverse.map V.int ++ [V.int y])) → Keep [] H H4 →
          ∃ (o4 o5 o6' o7' : Option V) (Ri : List Int), ([some (.ref cl), some (.ref ce), some (.ref sa), some (.ref st), some (.ref t), some (.int (tkI x)), o6, o7] : List (Option V)) = [some (.ref cl), some (.ref ce), some (.ref sa), some (.ref st), o4, o5, o6', o7'] ∧
            H4 st = some (.lst (Ri.reverse.map V.int)) ∧ runI tb seen (c.take (i + 1)) [] = some Ri ∧ InR Ri ∧ Keep [] H H4 ∧ Ri.length ≤ i + 1 := fun e hr h4 k4 =>
        ⟨_, _, _, _, R', rfl, by rw [e, rev_cons]; exact h4, hrun', hin', k4, by rw [e, List.length_cons]; omega⟩
      cases x with
      | push n =>
        cases hstep
        refine ⟨_, rfl, _, _, _, _, rfl, rfl, hat3.sq, rfl, rfl, _, rfl, iteDT rfl ?_⟩
        exact ⟨_, rfl, .inl ⟨rfl, _, SqL.of hst3⟩, _, rfl, _, _, _, _, rfl, rfl, hat3.sq, rfl, _, _, _, rfl, rfl, hst3, hrl, fin rfl hlen upd_same (K13.then_own nst)⟩
      | load y =>
        cases hstep
        refine ⟨_, rfl, _, _, _, _, rfl, rfl, hat3.sq, rfl, rfl, _, rfl, iteDF (nes (x := "load") (by decide +kernel)) ?_⟩
        refine ⟨_, rfl, _, _, _, _, rfl, rfl, hat3.sq, rfl, rfl, _, rfl, iteDT rfl ?_⟩
        have hi2 := (idx_get (show y ∈ ns from hxok)).1
        exact ⟨_, rfl, .inl ⟨rfl, _, SqL.of hst3⟩, _, rfl, _, rfl, _, _, _, _, rfl, rfl, hat3.sq, rfl, _, _, _, _, rfl, rfl, SqL.of hce3, atI_nat (by rw [List.getElem?_map, hi2]; rfl), _, _, _, rfl, rfl, hst3, hrl, fin rfl hlen upd_same (K13.then_own nst)⟩
      | long =>
        cases hstep
        refine ⟨_, rfl, _, _, _, _, rfl, rfl, hat3.sq, rfl, rfl, _, rfl, iteDF (nes (by decide +kernel)) ?_⟩
        refine ⟨_, rfl, _, _, _, _, rfl, rfl, hat3.sq, rfl, rfl, _, rfl, iteDF (nes (by decide +kernel)) ?_⟩
        refine ⟨_, rfl, _, _, _, _, rfl, rfl, hat3.sq, rfl, rfl, _, rfl, iteDT rfl ?_⟩
        refine ⟨_, rfl, .inl ⟨rfl, _, SqL.of hst3⟩, _, rfl, _, _, rfl, .inr (SqT.of hsa3), _, _, _, rfl, rfl, hst3, hrl, fin rfl hlen ?_ (K13.then_own nst)⟩
        rw [List.length_map]; exact upd_same
      | view =>
        match Ri, hstep with
        | a :: r, hstep =>
        cases hstep
        rw [rev_cons] at hst3 hrl
        refine ⟨_, rfl, _, _, _, _, rfl, rfl, hat3.sq, rfl, rfl, _, rfl, iteDF (nes (by decide +kernel)) ?_⟩
        refine ⟨_, rfl, _, _, _, _, rfl, rfl, hat3.sq, rfl, rfl, _, rfl, iteDF (nes (by decide +kernel)) ?_⟩
        refine ⟨_, rfl, _, _, _, _, rfl, rfl, hat3.sq, rfl, rfl, _, rfl, iteDF (nes (by decide +kernel)) ?_⟩
        refine ⟨_, rfl, _, _, _, _, rfl, rfl, hat3.sq, rfl, rfl, _, rfl, iteDT rfl ?_⟩
        refine ⟨_, rfl, .inl ⟨rfl, _, SqL.of hst3⟩, _, _, _, rfl, rfl, hst3, last_of _ _, ?_⟩
        rw [List.dropLast_concat]
        have hsa4 : upd H3 st (.lst (r.reverse.map V.int)) sa = some (.tup (seen.map V.int)) := by
          rw [upd_ne (ne_of hsa3 hst3 (by intro z; cases z))]; exact hsa3
        have K4 : Keep [] H (upd H3 st (.lst (r.reverse.map V.int))) := K13.then_own nst
        refine ⟨_, rfl, .inl ⟨rfl, _, SqL.of upd_same⟩, _, rfl, _, _, rfl, .inr (SqT.of hsa4), fun l1 nl1 => ⟨by show 1 ≤ sizeLine; decide, fun l2 nl2 => ⟨_, _, _, _, rfl, rfl, Keep.new (W := []) nl2 _ _ upd_same (by simp), upd_same, ?_, fun M hM => ?_⟩⟩⟩
        · rw [List.length_map]; exact smallM (by simp; omega)
        have K5 := ((Keep.new (W := []) (o := .lst (seen.map V.int)) nl1).then_new (o := .lst [V.int 0]) nl2).then_new (o := .lst (seen.map V.int ++ [V.int 0])) hM
        have ha := hin a (List.mem_cons_self ..)
        have hvw := vw_at (seen := seen) ha.1
        refine ⟨_, rfl, _, rfl, _, _, rfl, .inr (SqT.of (K5 _ _ hsa4 (by simp))), _, _, rfl, ?_⟩
        rw [List.length_map]
        refine ⟨_, _, _, _, rfl, rfl, SqL.of upd_same, hvw, _, _, _, rfl, rfl, K5 _ _ upd_same (by simp), ?_, ?_⟩
        · rw [List.length_map, List.length_reverse]
          rw [List.length_cons] at hlen
          exact smallL (by omega)
        · exact fin rfl (by rw [List.length_cons] at hlen; omega) upd_same ((K4.trans K5).then_own nst)
      | sign sg =>
        match Ri, hstep with
        | b :: a :: r, hstep =>
        cases hstep
        rw [rev_cons, rev_cons] at hst3
        have ha := hin a (List.mem_cons_of_mem _ (List.mem_cons_self ..))
        have hb := hin b (List.mem_cons_self ..)
        simp only [List.length_cons] at hlen
        refine ⟨_, rfl, _, _, _, _, rfl, rfl, hat3.sq, rfl, rfl, _, rfl, iteDF (nes (x := "sign") (by decide +kernel)) ?_⟩
        refine ⟨_, rfl, _, _, _, _, rfl, rfl, hat3.sq, rfl, rfl, _, rfl, iteDF (nes (x := "sign") (by decide +kernel)) ?_⟩
        refine ⟨_, rfl, _, _, _, _, rfl, rfl, hat3.sq, rfl, rfl, _, rfl, iteDF (nes (x := "sign") (by decide +kernel)) ?_⟩
        refine ⟨_, rfl, _, _, _, _, rfl, rfl, hat3.sq, rfl, rfl, _, rfl, iteDF (nes (x := "sign") (by decide +kernel)) ?_⟩
        refine ⟨_, rfl, .inl ⟨rfl, _, SqL.of hst3⟩, _, _, _, rfl, rfl, hst3, last_of _ _, ?_⟩
        rw [List.dropLast_concat]
        have hat4 := hat3.tk (TK.lst (o := .lst (r.reverse.map V.int ++ [V.int a])) hst3)
        refine ⟨_, rfl, .inl ⟨rfl, _, SqL.of upd_same⟩, _, rfl, _, _, _, _, rfl, rfl, hat4.sq, rfl, _, rfl, .inl ⟨rfl, _, SqL.of upd_same⟩, _, _, _, rfl, rfl, upd_same, last_of _ _, ?_⟩
        rw [List.dropLast_concat]
        refine ⟨_, rfl, _, _, _, rfl, hxok, ha.1, ha.2, hb.1, hb.2, _, _, _, rfl, rfl, upd_same, ?_, ?_⟩
        · rw [List.length_map, List.length_reverse]; exact smallL (by omega)
        · exact fin rfl (by omega) upd_same (((K13.then_own nst).then_own nst).then_own nst)
    · rintro σ H1 ⟨o4, o5, o6, o7, Ri, rfl, hst, hri, hin, K1, hlen⟩
      rw [C.len, List.take_length, hrun] at hri
      cases hri
      exact ⟨_, rfl, k st H1 hst K1⟩
end

def sp_expr (K : PySem.W.Frag) (n : Nat) : Sp := fun vs H Q _ => ∃ (p q la lb : Addr) (ns : List Int) (xs ys : List Str) (d : Int), vs = [.ref p, .ref la, .ref lb, .int d] ∧ 1 ≤ d ∧ d.toNat ≤ n ∧ Pool H p q ns ∧
  H la = some (.lst (xs.map V.str)) ∧ la ≠ p ∧ H lb = some (.lst (ys.map V.str)) ∧ lb ≠ p ∧ xs.length ≤ 1000 ∧ ys.length ≤ 1000 ∧
  ∀ r e H', EV K H' r e → e.Ok xs ys → e.dep ≤ d.toNat → Pool H' p q ns → Keep [p] H H' → Q r H'
theorem empty_ne {ys : List Str} (e : (!(ys.map V.str).isEmpty) = true) : 0 < ys.length := by
  cases ys with
  | nil => simp at e
  | cons a r => exact Nat.succ_pos _
theorem sg_at : ∀ m, m < 9 → ∃ s, s ∈ sgL ∧ ([.str "+", .str "-", .str "*", .str "/", .str "mod", .str "<", .str "=", .str "+", .str "-"] : List V)[m]? = some (.str s)
  | 0, _ => ⟨_, by decide +kernel, rfl⟩
  | 1, _ => ⟨_, by decide +kernel, rfl⟩
  | 2, _ => ⟨_, by decide +kernel, rfl⟩
  | 3, _ => ⟨_, by decide +kernel, rfl⟩
  | 4, _ => ⟨_, by decide +kernel, rfl⟩
  | 5, _ => ⟨_, by decide +kernel, rfl⟩
  | 6, _ => ⟨_, by decide +kernel, rfl⟩
  | 7, _ => ⟨_, by decide +kernel, rfl⟩
  | 8, _ => ⟨_, by decide +kernel, rfl⟩
section
variable {P : Program} {w : World} {K : PySem.W.Frag} {mg : Str → Option Value} {base : Heap} {T_SIGNS : Addr}
theorem ok_law_expr0 {f : Addr} {fd : FuncData} (D : C8.Def K mg "_law_expression" s_law_expression f fd) (b : Binds K fd ["pool", "names", "picks", "deep"] []) : C8.Cal P w K mg base 3 "_law_expression" (sp_expr K 0) [] :=
  ⟨f, fd, ["pool", "names", "picks", "deep"], [], ⟨fun vs H Q E h => (by obtain ⟨p, q, la, lb, ns, xs, ys, d, rfl, _⟩ := h; rfl), fun A outer s H args us vs Q E _ _ _ _ h => (by obtain ⟨p, q, la, lb, ns, xs, ys, d, _, h1, h2, _⟩ := h; omega)⟩, D.mgf, D.kp, b, .nil⟩
theorem ok_law_expr {f : Addr} {fd : FuncData} (D : C8.Def K mg "_law_expression" s_law_expression f fd) (b : Binds K fd ["pool", "names", "picks", "deep"] []) (T : Txt K mg T_SIGNS) {n k : Nat} (c_law_expression : C8.Cal P w K mg base k "_law_expression" (sp_expr K n) [])
    (c_law_draw : C8.Cal P w K mg base k "_law_draw" sp_law_draw []) (c_law_spend : C8.Cal P w K mg base k "_law_spend" sp_law_spend []) (c_law_number : C8.Cal P w K mg base k "_law_number" sp_law_number []) :
    C8.Cal P w K mg base (k + 1) "_law_expression" (sp_expr K (n + 1)) [] := by
  refine cal0 D b .nil sc_law_expression (fun vs H Q E h => ?_) (fun cdv A outer s H vs Q E hr h => ?_)
  · obtain ⟨p, q, la, lb, ns, xs, ys, d, rfl, _⟩ := h
    rfl
  · obtain ⟨p, q, la, lb, ns, xs, ys, d, rfl, d1, dn, hP, ha, nla, hb, nlb, hxl, hyl, k⟩ := h
    refine ⟨_, (pss_cons (ps_set (i := 4) sc_law_expression.nd rfl (by first | exact Or.inl rfl | exact Or.inr rfl) (pe_c c_law_draw hr (by first | exact Nat.le_refl _ | decide) rfl (pa_cons (pv 0) (pa_cons pe_int pa_nil))))
(pss_cut (ps_if (PW.pt (pw_and (pt_cmpR op_gt (pv 3) pe_int (nomark _)) (pw_and (pt_cmpR op_lt (pv 4) pe_int (nomark _)) (pw_and1 (pt_val (pe_c c_law_spend hr (by first | exact Nat.le_refl _ | decide) rfl (pa_cons (pv 0) pa_nil)))))))
  (pss_cons (ps_if (pt_cmpR op_gt (pv 4) pe_int (nomark _))
    (pss_one (ps_ret (pe_tup (pa_cons pe_str (pa_cons (pe_c c_law_expression hr (by first | exact Nat.le_refl _ | decide) rfl (pa_cons (pv 0) (pa_cons (pv 1) (pa_cons (pv 2) (pa_cons (pe_op op_sub (pv 3) pe_int) pa_nil))))) pa_nil)))))
    pss_nil)
  (pss_cut (ps_if (PW.pt (pw_and (pt_cmpR op_gt (pv 4) pe_int (nomark _)) (pw_and1 (pt_truth (pv 2) (by intro _; rfl)))))
    (pss_cons (ps_set (i := 5) sc_law_expression.nd rfl (by first | exact Or.inl rfl | exact Or.inr rfl) (pe_ix ix_list (pv 2) (pe_c c_law_draw hr (by first | exact Nat.le_refl _ | decide) rfl (pa_cons (pv 0) (pa_cons (pe_callB call_len_seq (by rfl) T.n_len bo_len (pa_cons (pv 2) pa_nil)) pa_nil))) (fun _ _ => rfl)))
    (pss_cons (ps_set (i := 6) sc_law_expression.nd rfl (by first | exact Or.inl rfl | exact Or.inr rfl) (pe_c c_law_expression hr (by first | exact Nat.le_refl _ | decide) rfl (pa_cons (pv 0) (pa_cons (pv 1) (pa_cons (pv 2) (pa_cons (pe_op op_sub (pv 3) pe_int) pa_nil))))))
    (pss_one (ps_ret (pe_tup (pa_cons pe_str (pa_cons (pv 5) (pa_cons (pv 6) (pa_cons (pe_c c_law_expression hr (by first | exact Nat.le_refl _ | decide) rfl (pa_cons (pv 0) (pa_cons (pv 1) (pa_cons (pv 2) (pa_cons (pe_op op_sub (pv 3) pe_int) pa_nil))))) pa_nil)))))))))
    pss_nil)
  (pss_cons (ps_set (i := 7) sc_law_expression.nd rfl (by first | exact Or.inl rfl | exact Or.inr rfl) (pe_ix ix_tup (pe_tup (pa_cons pe_str (pa_cons pe_str (pa_cons pe_str (pa_cons pe_str (pa_cons pe_str (pa_cons pe_str (pa_cons pe_str (pa_cons pe_str (pa_cons pe_str pa_nil)))))))))) (pv 4) (fun _ _ => rfl)))
  (pss_cons (ps_set (i := 6) sc_law_expression.nd rfl (by first | exact Or.inl rfl | exact Or.inr rfl) (pe_c c_law_expression hr (by first | exact Nat.le_refl _ | decide) rfl (pa_cons (pv 0) (pa_cons (pv 1) (pa_cons (pv 2) (pa_cons (pe_op op_sub (pv 3) pe_int) pa_nil))))))
  (pss_one (ps_ret (pe_tup (pa_cons (pv 7) (pa_cons (pv 6) (pa_cons (pe_c c_law_expression hr (by first | exact Nat.le_refl _ | decide) rfl (pa_cons (pv 0) (pa_cons (pv 1) (pa_cons (pv 2) (pa_cons (pe_op op_sub (pv 3) pe_int) pa_nil))))) pa_nil))))))))))
  pss_nil)
(pss_cons (ps_if (pt_cmpR op_eq (pv 4) pe_int (nomark _))
  (pss_one (ps_ret (pe_tup (pa_cons pe_str pa_nil))))
  pss_nil)
(pss_cut (ps_if (PW.pt (pw_and (pt_truth (pv 1) (by intro _; rfl)) (pw_and1 (pt_cmpR op_eq (pe_op op_mod (pe_callTy call_int1 (by rfl) T.n_int bo_int (pa_cons (pv 4) pa_nil)) pe_int) pe_int (nomark _)))))
  (pss_one (ps_ret (pe_tup (pa_cons pe_str (pa_cons (pe_ix ix_list (pv 1) (pe_c c_law_draw hr (by first | exact Nat.le_refl _ | decide) rfl (pa_cons (pv 0) (pa_cons (pe_callB call_len_seq (by rfl) T.n_len bo_len (pa_cons (pv 1) pa_nil)) pa_nil))) (fun _ _ => rfl)) pa_nil)))))
  pss_nil)
(pss_one (ps_ret (pe_tup (pa_cons pe_str (pa_cons (pe_c c_law_number hr (by first | exact Nat.le_refl _ | decide) rfl (pa_cons (pv 0) pa_nil)) pa_nil))))))))), ?_⟩
    -- one part of it
    have sub : ∀ {H1 : Hp} {R : VK} {E1 : XK}, 1 < d → Pool H1 p q ns → Keep [p] H H1 → (∀ r e H', EV K H' r e → e.Ok xs ys → e.dep ≤ (d - 1).toNat → Pool H' p q ns → Keep [p] H1 H' → R r H') → sp_expr K n [.ref p, .ref la, .ref lb, .int (d - 1)] H1 R E1 :=
      fun hd P1 K1 g => ⟨p, q, la, lb, ns, xs, ys, d - 1, rfl, by omega, by omega, P1, K1 _ _ ha (by simpa using nla), nla, K1 _ _ hb (by simpa using nlb), nlb, hxl, hyl, g⟩
    have Ha : ∀ {H1 : Hp}, Keep [p] H H1 → H1 la = some (.lst (xs.map V.str)) := fun K1 => K1 _ _ ha (by simpa using nla)
    have Hb : ∀ {H1 : Hp}, Keep [p] H H1 → H1 lb = some (.lst (ys.map V.str)) := fun K1 => K1 _ _ hb (by simpa using nlb)
    refine ⟨_, rfl, p, q, ns, 15, rfl, by decide, by decide, hP, fun kind H1 r0 r1 P1 K1 => ?_⟩
    refine ⟨fun σ H' => σ = [some (.ref p), some (.ref la), some (.ref lb), some (.int d), some (.int kind), none, none, none] ∧ Pool H' p q ns ∧ Keep [p] H H', ?_, ?_⟩
    · refine ⟨_, rfl, _, _, rfl, rfl, _, rfl, iteD (fun hd => ?_) (fun hd => ⟨rfl, P1, K1⟩)⟩
      refine ⟨_, rfl, _, _, rfl, rfl, _, rfl, iteD (fun hk => ?_) (fun hk => ⟨rfl, P1, K1⟩)⟩
      refine ⟨_, rfl, p, q, ns, rfl, P1, fun bb H2 P2 K2 => ⟨_, rfl, iteB (fun eb => ?_) (fun eb => ⟨rfl, P2, K1.trans K2⟩)⟩⟩
      have K2' := K1.trans K2
      refine ⟨_, rfl, _, _, rfl, rfl, _, rfl, iteD (fun _ => ?_) (fun hk8 => ?_)⟩
      · -- view
        refine ⟨_, rfl, _, rfl, _, rfl, _, rfl, _, _, rfl, rfl, sub (E1 := E) hd P2 K2' fun r e H4 E4 o4 d4 P4 K4 => ⟨by show 2 ≤ sizeLine; decide, fun t nt => ?_⟩⟩
        exact k _ (.view e) _ (.view (.inl upd_same) (E4.tk (TK.new nt))) o4 (by show e.dep + 1 ≤ _; omega) (P4.new nt) ((K2'.trans K4).then_new nt)
      -- pick
      refine ⟨fun σ H' => σ = [some (.ref p), some (.ref la), some (.ref lb), some (.int d), some (.int kind), none, none, none] ∧ H' = H2, ?_, ?_⟩
      · refine ⟨_, rfl, _, _, rfl, rfl, _, rfl, iteD (fun _ => ?_) (fun _ => ⟨rfl, rfl⟩)⟩
        refine ⟨_, rfl, _, .inl ⟨_, SqL.of (Hb K2'), rfl⟩, iteB (fun e => ?_) (fun e => ⟨rfl, rfl⟩)⟩
        have hy0 := empty_ne e
        refine ⟨_, rfl, _, rfl, _, rfl, _, _, rfl, .inl (SqL.of (Hb K2')), p, q, ns, _, rfl, by rw [List.length_map]; omega, by rw [List.length_map]; omega, P2, fun r H4 z0 z1 P4 K4 => ?_⟩
        rw [List.length_map] at z1
        obtain ⟨m, rfl⟩ : ∃ m : Nat, r = (m : Int) := ⟨r.toNat, by omega⟩
        have hm : m < ys.length := by omega
        have K4' := K2'.trans K4
        refine ⟨_, _, _, _, rfl, rfl, SqL.of (Hb K4'), atI_nat (by rw [List.getElem?_map, List.getElem?_eq_getElem hm]; rfl), ?_⟩
        refine ⟨_, rfl, _, rfl, _, rfl, _, rfl, _, _, rfl, rfl, sub (E1 := E) hd P4 K4' fun r1 e1 H5 E5 o5 d5 P5 K5 => ?_⟩
        refine ⟨_, rfl, _, rfl, _, rfl, _, rfl, _, rfl, _, rfl, _, _, rfl, rfl, sub (E1 := E) hd P5 (K4'.trans K5) fun r2 e2 H6 E6 o6 d6 P6 K6 => ⟨by show 4 ≤ sizeLine; decide, fun t nt => ?_⟩⟩
        refine k _ (.pick ys[m] e1 e2) _ (.pick (.inl upd_same) ((E5.tk (P5.tk K6)).tk (TK.new nt)) (E6.tk (TK.new nt))) ⟨List.getElem_mem hm, o5, o6⟩ (by show max e1.dep e2.dep + 1 ≤ _; omega) (P6.new nt) (((K4'.trans K5).trans K6).then_new nt)
      rintro σ H' ⟨rfl, h33⟩
      rw [h33]
      -- a sign
      obtain ⟨m, rfl⟩ : ∃ m : Nat, kind = (m : Int) := ⟨kind.toNat, by omega⟩
      obtain ⟨sg, hsg, hat⟩ := sg_at m (by omega)
      refine ⟨by show 9 ≤ sizeLine; decide, fun t nt => ?_⟩
      refine ⟨_, rfl, _, _, _, _, rfl, rfl, SqT.of upd_same, atI_nat hat, ?_⟩
      have P4 := P2.new (o := .tup [.str "+", .str "-", .str "*", .str "/", .str "mod", .str "<", .str "=", .str "+", .str "-"]) nt
      have K4 := K2'.then_new (o := .tup [.str "+", .str "-", .str "*", .str "/", .str "mod", .str "<", .str "=", .str "+", .str "-"]) nt
      refine ⟨_, rfl, _, rfl, _, rfl, _, rfl, _, _, rfl, rfl, sub (E1 := E) hd P4 K4 fun r1 e1 H5 E5 o5 d5 P5 K5 => ?_⟩
      have K5' := K4.trans K5
      refine ⟨_, rfl, _, rfl, _, rfl, _, rfl, _, rfl, _, rfl, _, _, rfl, rfl, sub (E1 := E) hd P5 K5' fun r2 e2 H7 E7 o7 d7 P7 K7 => ⟨by show 3 ≤ sizeLine; decide, fun t nt => ?_⟩⟩
      exact k _ (.op sg e1 e2) _ (.op (.inl upd_same) ((E5.tk (P5.tk K7)).tk (TK.new nt)) (E7.tk (TK.new nt))) ⟨hsg, o5, o7⟩ (by show max e1.dep e2.dep + 1 ≤ _; omega) (P7.new nt) ((K5'.trans K7).then_new nt)
    rintro σ H2 ⟨rfl, P2, K2⟩
    refine ⟨_, rfl, rfl, _, rfl, iteD (fun _ => ?_) (fun _ => ?_)⟩
    · refine ⟨by show 1 ≤ sizeLine; decide, fun t nt => ?_⟩
      exact k _ .long _ (.long (.inl upd_same)) trivial (by show 1 ≤ _; omega) (P2.new nt) (K2.then_new nt)
    refine ⟨fun σ H' => σ = [some (.ref p), some (.ref la), some (.ref lb), some (.int d), some (.int kind), none, none, none] ∧ H' = H2, ?_, ?_⟩
    · refine ⟨_, rfl, _, .inl ⟨_, SqL.of (Ha K2), rfl⟩, iteB (fun e => ?_) (fun e => ⟨rfl, rfl⟩)⟩
      have hy0 := empty_ne e
      refine ⟨_, rfl, .inl ⟨_, rfl, _, _, rfl, rfl, (by show (0 : Int) < 2; decide), rfl, _, rfl, iteD (fun _ => ?_) (fun _ => ⟨rfl, rfl⟩)⟩⟩
      refine ⟨_, rfl, _, rfl, _, rfl, _, _, rfl, .inl (SqL.of (Ha K2)), p, q, ns, _, rfl, by rw [List.length_map]; omega, by rw [List.length_map]; omega, P2, fun r H4 z0 z1 P4 K4 => ?_⟩
      rw [List.length_map] at z1
      obtain ⟨m, rfl⟩ : ∃ m : Nat, r = (m : Int) := ⟨r.toNat, by omega⟩
      have hm : m < xs.length := by omega
      refine ⟨_, _, _, _, rfl, rfl, SqL.of (Ha (K2.trans K4)), atI_nat (by rw [List.getElem?_map, List.getElem?_eq_getElem hm]; rfl), by show 2 ≤ sizeLine; decide, fun t nt => ?_⟩
      exact k _ (.var xs[m]) _ (.var (.inl upd_same)) (List.getElem_mem hm) (by show 1 ≤ _; omega) (P4.new nt) ((K2.trans K4).then_new nt)
    rintro σ H' ⟨rfl, h33⟩
    rw [h33]
    refine ⟨_, rfl, p, q, ns, rfl, P2, fun r H3 z0 z1 P3 K3 => ⟨by show 2 ≤ sizeLine; decide, fun t nt => ?_⟩⟩
    exact k _ (.num r) _ (.num (.inl upd_same)) ⟨z0, z1⟩ (by show 1 ≤ _; omega) (P3.new nt) ((K2.trans K3).then_new nt)
end

def sp_law (K : PySem.W.Frag) : Sp := fun vs H Q _ => ∃ (a : Addr) (ns : List Int), vs = [.ref a] ∧ SqL K H a (ns.map V.int) ∧ ∀ H', Q (.bl true) H'
/-- what stands through the law -/
structure LW (H : Hp) (p q la lb td od st : Addr) (ns : List Int) (xs ys : List Str) (tb : Str → Int) (on : Str → Bool) (seen : List Int) : Prop where
  P : Pool H p q ns
  a : H la = some (.lst (xs.map V.str))
  b : H lb = some (.lst (ys.map V.str))
  t : DcI H td xs tb
  o : DcB H od ys on
  s : H st = some (.tup (seen.map V.int))
  na : la ≠ p
  nb : lb ≠ p
  nt : td ≠ p
  no : od ≠ p
  ns' : st ≠ p
theorem LW.keep {H H' : Hp} {p q la lb td od st : Addr} {ns : List Int} {xs ys : List Str} {tb : Str → Int} {on : Str → Bool} {seen : List Int} (h : LW H p q la lb td od st ns xs ys tb on seen) (P : Pool H' p q ns) (k : Keep [p] H H') : LW H' p q la lb td od st ns xs ys tb on seen := by
  obtain ⟨kvs, o1, o2⟩ := h.o
  obtain ⟨kvt, t1, t2⟩ := h.t
  exact ⟨P, k _ _ h.a (by simpa using h.na), k _ _ h.b (by simpa using h.nb), ⟨kvt, k _ _ t1 (by simpa using h.nt), t2⟩, ⟨kvs, k _ _ o1 (by simpa using h.no), o2⟩, k _ _ h.s (by simpa using h.ns'), h.na, h.nb, h.nt, h.no, h.ns'⟩
theorem LW.keep0 {H H' : Hp} {p q la lb td od st : Addr} {ns : List Int} {xs ys : List Str} {tb : Str → Int} {on : Str → Bool} {seen : List Int} (h : LW H p q la lb td od st ns xs ys tb on seen) (k : Keep [] H H') : LW H' p q la lb td od st ns xs ys tb on seen := h.keep (h.P.keep0 k) (k.mono (by simp))
theorem putK_le (kvs : List (Key × V)) (k : Key) (v : V) : (putK kvs k v).length ≤ kvs.length + 1 := by
  unfold putK
  split <;> simp
theorem str_mem {ys : List Str} {i : Nat} {x : V} (h : (ys.map V.str)[i]? = some x) : ∃ (z : Str) (hi : i < ys.length), x = V.str z ∧ ys[i] = z ∧ ys.take (i + 1) = ys.take i ++ [z] ∧ z ∈ ys := by
  obtain ⟨z, hz, rfl⟩ := strs_get h
  obtain ⟨hi, e⟩ := List.getElem?_eq_some_iff.mp hz
  exact ⟨z, hi, rfl, e, by rw [List.take_succ_eq_append_getElem hi, e], e ▸ List.getElem_mem hi⟩
section
variable {P : Program} {w : World} {K : PySem.W.Frag} {mg : Str → Option Value} {base : Heap} {T_SIGNS : Addr}
theorem same_all {f : Addr} {fd : FuncData} (D : C8.Def K mg "_law_same" s_law_same f fd) (b : Binds K fd ["actual", "due"] []) (T : Txt K mg T_SIGNS) : ∀ n, C8.Cal P w K mg base n "_law_same" (sp_law_same K n) []
  | 0 => ok_law_same0 D b
  | n + 1 => ok_law_same D b T (same_all D b T n)
theorem value_all {f : Addr} {fd : FuncData} (D : C8.Def K mg "value_of" s_value_of f fd) {ds : List Value} (d : Vals [] ds) (b : Binds K fd ["expression", "table", "on", "seen"] ds) (T : Txt K mg T_SIGNS) (c : C8.Cal P w K mg base 1 "combine" sp_combine []) : ∀ n, C8.Cal P w K mg base (n + 1) "value_of" (sp_value K n) []
  | 0 => ok_value0 D d b
  | n + 1 => ok_value D d b T (value_all D d b T c n) (calUp c (by omega))
theorem code_all {f : Addr} {fd : FuncData} (D : C8.Def K mg "expression_code" s_expression_code f fd) (b : Binds K fd ["expression", "slots", "on"] []) (T : Txt K mg T_SIGNS) : ∀ n, C8.Cal P w K mg base (n + 1) "expression_code" (sp_code K n) []
  | 0 => ok_code0 D b
  | n + 1 => ok_code D b T (code_all D b T n)
theorem lcode_all {f : Addr} {fd : FuncData} (D : C8.Def K mg "_law_code" s_law_code f fd) (b : Binds K fd ["due", "slots", "on"] []) (T : Txt K mg T_SIGNS) : ∀ n, C8.Cal P w K mg base (n + 1) "_law_code" (sp_lcode K n) []
  | 0 => ok_lcode0 D b
  | n + 1 => ok_lcode D b T (lcode_all D b T n)
theorem expr_all {f : Addr} {fd : FuncData} (D : C8.Def K mg "_law_expression" s_law_expression f fd) (b : Binds K fd ["pool", "names", "picks", "deep"] []) (T : Txt K mg T_SIGNS) (c1 : C8.Cal P w K mg base 1 "_law_draw" sp_law_draw []) (c2 : C8.Cal P w K mg base 1 "_law_spend" sp_law_spend []) (c3 : C8.Cal P w K mg base 2 "_law_number" sp_law_number []) :
    ∀ n, C8.Cal P w K mg base (n + 3) "_law_expression" (sp_expr K n) []
  | 0 => ok_law_expr0 D b
  | n + 1 => ok_law_expr D b T (expr_all D b T c1 c2 c3 n) (calUp c1 (by omega)) (calUp c2 (by omega)) (calUp c3 (by omega))
theorem ok_law {f : Addr} {fd : FuncData} (F : C8.Fun K "law" "law" s_law f fd) (T : Txt K mg T_SIGNS) (c_law_pool : C8.Cal P w K mg base 1 "_law_pool" (sp_law_pool K) []) (c_law_draw : C8.Cal P w K mg base 1 "_law_draw" sp_law_draw []) (c_law_number : C8.Cal P w K mg base 2 "_law_number" sp_law_number [])
    (c_law_names : C8.Cal P w K mg base 4 "_law_names" sp_law_names []) (c_law_expression : C8.Cal P w K mg base 15 "_law_expression" (sp_expr K 12) []) (c_law_same : C8.Cal P w K mg base 3 "_law_same" (sp_law_same K 3) [])
    (c_expression_code : C8.Cal P w K mg base 13 "expression_code" (sp_code K 12) []) (c_law_code : C8.Cal P w K mg base 13 "_law_code" (sp_lcode K 12) []) (c_law_run : C8.Cal P w K mg base 4 "_law_run" (sp_run K) []) (c_value_of : C8.Cal P w K mg base 13 "value_of" (sp_value K 12) []) :
    FnOk P w K mg base C8.CX0 17 f fd ["script"] (sp_law K) := by
  refine C8.fn0 F sc_law (fun vs H Q E h => ?_) (fun cdv A outer s H vs Q E hr h => ?_)
  · obtain ⟨a, ns, rfl, _⟩ := h
    rfl
  · obtain ⟨a, ns, rfl, hS, k⟩ := h
    have hu := hu_of hr
    refine ⟨_, (pss_cons (ps_set (i := 1) sc_law.nd rfl (by first | exact Or.inl rfl | exact Or.inr rfl) (pe_c c_law_pool hr (by first | exact Nat.le_refl _ | decide) rfl (pa_cons (pv 0) (pa_cons pe_int pa_nil))))
(pss_cons (ps_set (i := 2) sc_law.nd rfl (by first | exact Or.inl rfl | exact Or.inr rfl) (pe_c c_law_names hr (by first | exact Nat.le_refl _ | decide) rfl (pa_cons (pv 1) (pa_cons pe_int pa_nil))))
(pss_cons (ps_set (i := 3) sc_law.nd rfl (by first | exact Or.inl rfl | exact Or.inr rfl) (pe_c c_law_names hr (by first | exact Nat.le_refl _ | decide) rfl (pa_cons (pv 1) (pa_cons pe_int pa_nil))))
(pss_cons (ps_set (i := 4) sc_law.nd rfl (by first | exact Or.inl rfl | exact Or.inr rfl) pe_dnewK)
(pss_cons (ps_for PassesOwn.never rfl (pi_list (pv 2)) (pg_name (i := 5) sc_law.nd rfl (by first | exact Or.inl rfl | exact Or.inr rfl))
  (pss_one (ps_dput hu (pv 4) (pv 5) (pe_c c_law_number hr (by first | exact Nat.le_refl _ | decide) rfl (pa_cons (pv 1) pa_nil)) (by rfl))))
(pss_cons (ps_set (i := 6) sc_law.nd rfl (by first | exact Or.inl rfl | exact Or.inr rfl) pe_dnewK)
(pss_cons (ps_for PassesOwn.never rfl (pi_list (pv 3)) (pg_name (i := 5) sc_law.nd rfl (by first | exact Or.inl rfl | exact Or.inr rfl))
  (pss_one (ps_dput hu (pv 6) (pv 5) (pe_cmpR op_eq (pe_c c_law_draw hr (by first | exact Nat.le_refl _ | decide) rfl (pa_cons (pv 1) (pa_cons pe_int pa_nil))) pe_int (nomark _)) (by rfl))))
(pss_cons (ps_set (i := 7) sc_law.nd rfl (by first | exact Or.inl rfl | exact Or.inr rfl) (pe_c c_law_draw hr (by first | exact Nat.le_refl _ | decide) rfl (pa_cons (pv 1) (pa_cons pe_int pa_nil))))
(pss_cut (ps_if (pt_cmpR op_eq (pe_c c_law_draw hr (by first | exact Nat.le_refl _ | decide) rfl (pa_cons (pv 1) (pa_cons pe_int pa_nil))) pe_int (nomark _))
  (pss_one (ps_set (i := 7) sc_law.nd rfl (by first | exact Or.inl rfl | exact Or.inr rfl) (pe_op op_add pe_int (pe_c c_law_draw hr (by first | exact Nat.le_refl _ | decide) rfl (pa_cons (pv 1) (pa_cons pe_int pa_nil))))))
  pss_nil)
(pss_cons (ps_set (i := 8) sc_law.nd rfl (by first | exact Or.inl rfl | exact Or.inr rfl) (pe_callTy call_tuple_of (by rfl) T.n_tuple bo_tuple (pa_cons (pe_lc (own := [("k", 12)]) (g := gName 12) (tt := tYes) rfl sc_law.nd (pi_range1 (by rfl) T.n_range (pa_cons (pv 7) pa_nil)) (blkOk_by (N := ["script", "pool", "names", "picks", "table", "name", "on", "many", "seen", "plain", "code", "stack", "k"]) (sc := fnScope s_law) (by decide +kernel)) (fun _ _ _ _ _ => pg_name (i := 12) sc_law.nd rfl (Or.inl rfl)) (fun _ _ _ _ _ => pts_nil) (fun _ _ _ _ _ => (pe_c c_law_number hr (by first | exact Nat.le_refl _ | decide) rfl (pa_cons (pv 1) pa_nil)))) pa_nil)))
(pss_cons (ps_set (i := 9) sc_law.nd rfl (by first | exact Or.inl rfl | exact Or.inr rfl) (pe_c c_law_expression hr (by first | exact Nat.le_refl _ | decide) rfl (pa_cons (pv 1) (pa_cons (pv 2) (pa_cons (pv 3) (pa_cons pe_int pa_nil))))))
(pss_cons (ps_set (i := 10) sc_law.nd rfl (by first | exact Or.inl rfl | exact Or.inr rfl) (pe_c c_expression_code hr (by first | exact Nat.le_refl _ | decide) rfl (pa_cons (pv 9) (pa_cons (pe_callTy call_tuple_ofZ (by rfl) T.n_tuple bo_tuple (pa_cons (pv 2) pa_nil)) (pa_cons (pe_callTy call_dictD (by rfl) T.n_dict bo_dict (pa_cons (pv 6) pa_nil)) pa_nil)))))
(pss_cons (ps_if (PW.pt (pw_or (pt_not (pt_val (pe_callB call_isi (by rfl) T.n_isinstance bo_isinstance (pa_cons (pv 10) (pa_cons (pe_bltn (v := .ty "list") (by rfl) T.n_list bo_list rfl) pa_nil))))) (pw_or1 (pt_not (pt_val (pe_c c_law_same hr (by first | exact Nat.le_refl _ | decide) rfl (pa_cons (pv 10) (pa_cons (pe_c c_law_code hr (by first | exact Nat.le_refl _ | decide) rfl (pa_cons (pv 9) (pa_cons (pv 2) (pa_cons (pv 6) pa_nil)))) pa_nil))))))))
  (pss_one (ps_ret pe_bl))
  pss_nil)
(pss_cons (ps_set (i := 11) sc_law.nd rfl (by first | exact Or.inl rfl | exact Or.inr rfl) (pe_c c_law_run hr (by first | exact Nat.le_refl _ | decide) rfl (pa_cons (pv 10) (pa_cons (pe_lc (own := [("name", 5)]) (g := gName 5) (tt := tYes) rfl sc_law.nd (pi_list (pv 2)) (blkOk_by (N := ["script", "pool", "names", "picks", "table", "name", "on", "many", "seen", "plain", "code", "stack", "k"]) (sc := fnScope s_law) (by decide +kernel)) (fun _ _ _ _ _ => pg_name (i := 5) sc_law.nd rfl (Or.inl rfl)) (fun _ _ _ _ _ => pts_nil) (fun _ _ _ _ _ => (pe_dget hu (pv 4) (pv 5) (fun _ _ => rfl)))) (pa_cons (pv 8) pa_nil)))))
(pss_one (ps_ret (pe_and (pe_cmpR op_notN (pv 11) pe_non (nomark _)) (pe_one (pe_c c_law_same hr (by first | exact Nat.le_refl _ | decide) rfl (pa_cons (pv 11) (pa_cons (pe_lst (pa_cons (pe_c c_value_of hr (by first | exact Nat.le_refl _ | decide) rfl (pa_cons (pv 9) (pa_cons (pe_callTy call_dictD (by rfl) T.n_dict bo_dict (pa_cons (pv 4) pa_nil)) (pa_cons (pe_callTy call_dictD (by rfl) T.n_dict bo_dict (pa_cons (pv 6) pa_nil)) (pa_cons (pv 8) pa_nil))))) pa_nil)) pa_nil))))))))))))))))))))), ?_⟩
    refine ⟨_, rfl, a, ns, 50, rfl, hS, fun p q H1 hp1 P1 K1 => ?_⟩
    refine ⟨_, rfl, p, q, ns, 12, rfl, by decide, by decide, P1, fun la xs H2 hla0 hla hxl hxnd hxo hxs P2 K2 => ?_⟩
    have nla := P1.nep hla0
    refine ⟨_, rfl, p, q, ns, 6, rfl, by decide, by decide, P2, fun lb ys H3 hlb0 hlb hyl hynd hyo hys P3 K3 => ?_⟩
    have nlb := P2.nep hlb0
    have hla3 := K3 _ _ hla (by simpa using nla)
    have hxl' : xs.length ≤ 12 := hxl
    have hyl' : ys.length ≤ 6 := hyl
    -- the table
    refine fun td htd => ?_
    have ntd := P3.nep htd
    have ntdq := P3.neq htd
    refine ⟨_, rfl, la, rfl, ⟨_, SqL.of ((Keep.new (W := []) htd) _ _ hla3 (by simp))⟩, for_list (K := K) (a := la) (xs := xs.map V.str) (fun j σ H' => ∃ (o5 : Option V) (kvs : List (Key × V)) (tb : Str → Int), σ = [some (.ref a), some (.ref p), some (.ref la), some (.ref lb), some (.ref td), o5, none, none, none, none, none, none, none] ∧
      Pool H' p q ns ∧ Keep [p] H3 H' ∧ H' td = some (.dK kvs) ∧ kvs.length ≤ j ∧ ∀ x ∈ xs.take j, valV kvs (.inr x) = some (.int (tb x)) ∧ 0 ≤ tb x ∧ tb x < 65536)
      ⟨none, [], fun _ => 0, rfl, P3.new htd, Keep.new htd, upd_same, Nat.le_refl _, fun x hx => by simp at hx⟩ (fun j σ H' _ ⟨_, _, _, _, _, kk, _⟩ => SqL.of (kk _ _ hla3 (by simpa using nla))) ?_ ?_⟩
    · rintro j x σ H' hj ⟨o5, kvs, tb, rfl, P4, K4, hkv, hlen, hval⟩
      obtain ⟨z, hil, rfl, hz, htk, hzm⟩ := str_mem hj
      refine ⟨_, rfl, p, q, ns, rfl, P4, fun r1 H5 r10 r11 P5 K5 => ?_⟩
      have hkv5 := K5 _ _ hkv (by simpa using ntd)
      refine ⟨_, rfl, _, rfl, td, _, rfl, DPut.k (k := .inr z) hkv5 (smallL (by omega)), ?_⟩
      refine ⟨_, _, fun x => if x = z then r1 else tb x, rfl, P5.own ntd ntdq, (K4.trans K5).then_own htd, upd_same, ?_, fun x hx => ?_⟩
      · have := putK_le kvs (.inr z) (.int r1)
        omega
      · rw [valV_put]
        dsimp only
        by_cases e : x = z
        · subst e
          rw [if_pos rfl, if_pos rfl]
          exact ⟨rfl, r10, r11⟩
        · rw [if_neg (fun q => e (Sum.inr.inj q)), if_neg e]
          rw [htk, List.mem_append, List.mem_singleton] at hx
          exact hval x (hx.elim id fun q => absurd q e)
    rintro σ H4 ⟨o5, kvt, tb, rfl, P4, K4, hkt, hlt, hvt⟩
    rw [List.length_map, List.take_length] at hvt
    have hla4 := K4 _ _ hla3 (by simpa using nla)
    have hlb4 := K4 _ _ hlb (by simpa using nlb)
    -- the options
    refine fun od hod => ?_
    have nod := P4.nep hod
    have nodq := P4.neq hod
    refine ⟨_, rfl, lb, rfl, ⟨_, SqL.of ((Keep.new (W := []) hod) _ _ hlb4 (by simp))⟩, for_list (K := K) (a := lb) (xs := ys.map V.str) (fun j σ H' => ∃ (o5 : Option V) (kvs : List (Key × V)) (on : Str → Bool), σ = [some (.ref a), some (.ref p), some (.ref la), some (.ref lb), some (.ref td), o5, some (.ref od), none, none, none, none, none, none] ∧
      Pool H' p q ns ∧ Keep [p] H4 H' ∧ H' od = some (.dK kvs) ∧ kvs.length ≤ j ∧ ∀ x ∈ ys.take j, valV kvs (.inr x) = some (.bl (on x)))
      ⟨o5, [], fun _ => false, rfl, P4.new hod, Keep.new hod, upd_same, Nat.le_refl _, fun x hx => by simp at hx⟩ (fun j σ H' _ ⟨_, _, _, _, _, kk, _⟩ => SqL.of (kk _ _ hlb4 (by simpa using nlb))) ?_ ?_⟩
    · rintro j x σ H' hj ⟨o5, kvs, on, rfl, P5, K5, hkv, hlen, hval⟩
      obtain ⟨z, hil, rfl, hz, htk, hzm⟩ := str_mem hj
      refine ⟨_, rfl, p, q, ns, 2, rfl, by decide, by decide, P5, fun r1 H6 _ _ P6 K6 => ?_⟩
      have hkv6 := K6 _ _ hkv (by simpa using nod)
      refine ⟨rfl, _, rfl, _, rfl, od, _, rfl, DPut.k (k := .inr z) hkv6 (smallL (by omega)), ?_⟩
      refine ⟨_, _, fun x => if x = z then decide (V.int r1 = V.int 1) else on x, rfl, P6.own nod nodq, (K5.trans K6).then_own hod, upd_same, ?_, fun x hx => ?_⟩
      · have := putK_le kvs (.inr z) (.bl (decide (V.int r1 = V.int 1)))
        omega
      · rw [valV_put]
        dsimp only
        by_cases e : x = z
        · subst e
          rw [if_pos rfl, if_pos rfl]
        · rw [if_neg (fun q => e (Sum.inr.inj q)), if_neg e]
          rw [htk, List.mem_append, List.mem_singleton] at hx
          exact hval x (hx.elim id fun q => absurd q e)
    rintro σ H5 ⟨o5, kvo, on, rfl, P5, K5, hko, hlo, hvo⟩
    rw [List.length_map, List.take_length] at hvo
    -- how many are seen
    refine ⟨_, rfl, p, q, ns, 6, rfl, by decide, by decide, P5, fun m0 H6 m00 m01 P6 K6 => ?_⟩
    refine ⟨fun σ H' => ∃ m : Int, σ = [some (.ref a), some (.ref p), some (.ref la), some (.ref lb), some (.ref td), o5, some (.ref od), some (.int m), none, none, none, none, none] ∧ 0 ≤ m ∧ m ≤ 200 ∧ Pool H' p q ns ∧ Keep [p] H5 H', ?_, ?_⟩
    · refine ⟨_, rfl, p, q, ns, 4, rfl, by decide, by decide, P6, fun r H7 _ _ P7 K7 => ⟨rfl, _, rfl, iteD (fun _ => ?_) (fun _ => ⟨m0, rfl, m00, by omega, P7, K6.trans K7⟩)⟩⟩
      exact ⟨_, rfl, p, q, ns, 100, rfl, by decide, by decide, P7, fun r2 H8 z0 z1 P8 K8 => ⟨_, _, rfl, rfl, _, rfl, by omega, by omega, P8, (K6.trans K7).trans K8⟩⟩
    rintro σ H7 ⟨m, rfl, m0', m1', P7, K7⟩
    refine ⟨_, rfl, m, rfl, by omega, by omega, fun L hL => ?_⟩
    have nLp : L ≠ p := P7.nep hL
    have nLq : L ≠ q := P7.neq hL
    refine lc_range (n := m.toNat) (fun i H' => ∃ seen : List Int, H' L = some (.lst (seen.map V.int)) ∧ seen.length = i ∧ SeenOk seen ∧ Pool H' p q ns ∧ Keep [p] H7 H')
      ⟨[], upd_same, rfl, (fun _ q => by cases q), P7.new hL, Keep.new hL⟩ ?_ ?_
    · rintro i H' hi ⟨seen, hD, hlen, hok, P8, K8⟩
      refine ⟨rfl, yes_then ⟨_, rfl, p, q, ns, rfl, P8, fun z H9 z0 z1 P9 K9 => ?_⟩⟩
      have g := K9 _ _ hD (by simpa using nLp)
      refine ⟨_, g, by rw [List.length_map]; exact smallL (by omega), seen ++ [z], by rw [List.map_append]; exact upd_same, by simp [hlen], ?_, P9.own nLp nLq, (K8.trans K9).then_own hL⟩
      intro y hy
      rcases List.mem_append.mp hy with q | q
      · exact hok y q
      · rw [List.mem_singleton.mp q]; exact ⟨z0, z1⟩
    rintro H8 ⟨seen, hD, hlen8, hsok, P8, K8⟩
    refine ⟨_, _, rfl, .inl ⟨SqL.of hD, fun st hst => ?_⟩⟩
    have nst := P8.nep hst
    have K58 : Keep [p] H5 (upd H8 st (.tup (seen.map V.int))) := (K7.trans K8).then_new hst
    have K48 : Keep [p] H4 (upd H8 st (.tup (seen.map V.int))) := K5.trans K58
    have W8 : LW (upd H8 st (.tup (seen.map V.int))) p q la lb td od st ns xs ys tb on seen :=
      ⟨P8.new hst, K48 _ _ hla4 (by simpa using nla), K48 _ _ hlb4 (by simpa using nlb), ⟨kvt, K48 _ _ hkt (by simpa using ntd), fun x hx => (hvt x hx).1⟩, ⟨kvo, K58 _ _ hko (by simpa using nod), hvo⟩, upd_same, nla, nlb, ntd, nod, nst⟩
    have htok : TbOk xs tb := fun x hx => (hvt x hx).2
    have hsl : seen.length ≤ 200 := by omega
    generalize upd H8 st (.tup (seen.map V.int)) = H9 at W8
    refine ⟨_, rfl, _, rfl, _, rfl, p, q, la, lb, ns, xs, ys, 12, rfl, by decide, by decide, W8.P, W8.a, W8.na, W8.b, W8.nb, by omega, by omega, fun v e H10 E10 o10 d10 P10 K10 => ?_⟩
    have W10 := W8.keep P10 K10
    have d10' : e.dep ≤ 12 := d10
    -- the program's code
    obtain ⟨kvo', ho1, ho2⟩ := W10.o
    refine ⟨_, rfl, _, rfl, _, _, rfl, SqL.of W10.a, fun l1 ob n1 hc hdn => ?_⟩
    have KA : Keep [] H10 (upd H10 l1 (.frz ob (.tup (xs.map V.str)))) := Keep.new n1
    refine ⟨_, rfl, od, kvo', rfl, .inl (KA _ _ ho1 (by simp)), fun d1 nd1 => ?_⟩
    have KB := KA.then_new (o := .dK kvo') nd1
    have e1 : l1 ≠ d1 := ne_of_none (H := upd H10 l1 (.frz ob (.tup (xs.map V.str)))) upd_same nd1
    refine ⟨v, l1, d1, e, xs, ys, on, rfl, E10.tk KB.tk, o10, d10', by decide, ⟨ob, by rw [upd_ne e1]; exact upd_same, hc, hdn⟩, ⟨kvo', upd_same, ho2⟩, fun cl cs H11 hcl C11 K11 => ?_⟩
    have W11 := W10.keep0 (KB.trans K11)
    have E11 := E10.tk (KB.trans K11).tk
    refine ⟨_, rfl, _, _, _, _, _, rfl, .ty _, .base (.lst hcl), kLL, _, rfl, iteF ?_⟩
    refine ⟨_, rfl, _, rfl, _, rfl, _, rfl, v, la, od, e, xs, ys, on, rfl, E11, o10, d10', by decide, W11.a, W11.o, fun c2 cs2 H12 hc2 C12 K12 => ?_⟩
    have W12 := W11.keep0 K12
    have hcl12 := K12 _ _ hcl (by simp)
    have C11' := C11.tk K12.tk
    have csmall := code_small on (e := e) (by omega)
    refine ⟨_, _, rfl, .inr ⟨cl, c2, _, _, rfl, rfl, .inl ⟨hcl12, hc2⟩, (paired_get (C11'.same (n := 0) C12)).1, by rw [C11'.len]; exact smallM (by omega), (paired_get (C11'.same (n := 0) C12)).2⟩, _, rfl, iteF ?_⟩
    -- the run
    refine ⟨_, rfl, _, rfl, la, rfl, ⟨_, SqL.of W12.a⟩, fun ce hce => ?_⟩
    refine lc_list (K := K) (a := la) (xs := xs.map V.str) (fun i H' => H' ce = some (.lst ((xs.take i).map fun x => V.int (tb x))) ∧ Keep [] H12 H')
      ⟨upd_same, Keep.new hce⟩ (fun i H' _ ⟨_, kk⟩ => SqL.of (kk _ _ W12.a (by simp))) ?_ ?_
    · rintro i x H' hi ⟨hD, kk⟩
      obtain ⟨z, hil, rfl, hz, htk, hzm⟩ := str_mem hi
      refine ⟨rfl, yes_then ⟨_, rfl, _, rfl, td, _, rfl, (W12.keep0 kk).t.get hzm, _, hD, by rw [List.length_map, List.length_take]; exact smallL (by omega), ?_, kk.then_own hce⟩⟩
      rw [htk, List.map_append]; exact upd_same
    rintro H13 ⟨hce13, K13⟩
    rw [List.length_map, List.take_length] at hce13
    have W13 := W12.keep0 K13
    have E13 := (E11.tk K12.tk).tk K13.tk
    refine ⟨_, rfl, cl, ce, st, cs, code on e, xs, tb, seen, [val tb on seen e], rfl, K13 _ _ hcl12 (by simp), C11'.tk K13.tk, code_ok on e o10, run_code (by omega) e [], hce13, W13.s, htok, hsok, by omega, csmall, fun sl H14 hsl14 K14 => ?_⟩
    have W14 := W13.keep0 K14
    have E14 := E13.tk K14.tk
    obtain ⟨kvo2, ho3, ho4⟩ := W14.o
    obtain ⟨kvt2, ht3, ht4⟩ := W14.t
    refine ⟨_, rfl, rfl, _, rfl, iteNT (by simp) ⟨_, rfl, _, rfl, _, rfl, td, kvt2, rfl, .inl ht3, fun t2 nt2 => ?_⟩⟩
    have KC : Keep [] H14 (upd H14 t2 (.dK kvt2)) := Keep.new nt2
    refine ⟨_, rfl, od, kvo2, rfl, .inl (KC _ _ ho3 (by simp)), fun o2 no2 => ?_⟩
    have KD := KC.then_new (o := .dK kvo2) no2
    have e2 : t2 ≠ o2 := ne_of_none (H := upd H14 t2 (.dK kvt2)) upd_same no2
    refine ⟨_, rfl, v, t2, o2, st, e, xs, ys, tb, on, seen, rfl, E14.tk KD.tk, o10, d10', ⟨⟨kvt2, by rw [upd_ne e2]; exact upd_same, ht4⟩, ⟨kvo2, upd_same, ho4⟩, SqT.of (KD _ _ W14.s (by simp)), htok, hsok, by omega⟩, ?_⟩
    refine ⟨by show 1 ≤ sizeLine; decide, fun fl nfl => ?_⟩
    refine ⟨_, _, rfl, .inr ⟨sl, fl, _, _, rfl, rfl, .inl ⟨(KD.then_new nfl) _ _ hsl14 (by simp), upd_same⟩, rfl, by show 1 ≤ sizeLine; decide, fun i x y hx hy => ?_⟩, k _⟩
    have hx' : ([V.int (val tb on seen e)] : List V)[i]? = some x := hx
    rw [hy] at hx'
    cases hx'
    have := List.mem_of_getElem? hy
    rw [List.mem_singleton] at this
    subst this
    exact sameV_atom (.inr (.inl ⟨_, rfl⟩))
end

theorem all_mk {l : PySem.W.OpenLaw} {w : World} {K : PySem.W.Frag} {h : Heap} {mg : Str → Option Value} {fa : Addr} (X : K.In h) (G : h.Ns mainGlobals mg) (hfa : mg "law" = some (.ref fa))
    {f_law_pool : Addr} {od_law_pool an_law_pool : Option Addr} {sl_law_pool : Array (Option Value)} {oc_law_pool kV_law_pool dc_law_pool pm_law_pool cd_law_pool ct_law_pool : Value}
    {f_law_draw : Addr} {od_law_draw an_law_draw : Option Addr} {sl_law_draw : Array (Option Value)} {oc_law_draw kV_law_draw dc_law_draw pm_law_draw cd_law_draw ct_law_draw : Value}
    {f_law_spend : Addr} {od_law_spend an_law_spend : Option Addr} {sl_law_spend : Array (Option Value)} {oc_law_spend kV_law_spend dc_law_spend pm_law_spend cd_law_spend ct_law_spend : Value}
    {f_law_few : Addr} {od_law_few an_law_few : Option Addr} {sl_law_few : Array (Option Value)} {oc_law_few kV_law_few dc_law_few pm_law_few cd_law_few ct_law_few : Value}
    {f_law_number : Addr} {od_law_number an_law_number : Option Addr} {sl_law_number : Array (Option Value)} {oc_law_number kV_law_number dc_law_number pm_law_number cd_law_number ct_law_number : Value}
    {f_law_same : Addr} {od_law_same an_law_same : Option Addr} {sl_law_same : Array (Option Value)} {oc_law_same kV_law_same dc_law_same pm_law_same cd_law_same ct_law_same : Value}
    {f_law_keys : Addr} {od_law_keys an_law_keys : Option Addr} {sl_law_keys : Array (Option Value)} {oc_law_keys kV_law_keys dc_law_keys pm_law_keys cd_law_keys ct_law_keys : Value}
    {f_law_name : Addr} {od_law_name an_law_name : Option Addr} {sl_law_name : Array (Option Value)} {oc_law_name kV_law_name dc_law_name pm_law_name cd_law_name ct_law_name : Value}
    {f_law_names : Addr} {od_law_names an_law_names : Option Addr} {sl_law_names : Array (Option Value)} {oc_law_names kV_law_names dc_law_names pm_law_names cd_law_names ct_law_names : Value}
    {f_combine : Addr} {od_combine an_combine : Option Addr} {sl_combine : Array (Option Value)} {oc_combine kV_combine dc_combine pm_combine cd_combine ct_combine : Value}
    {f_value_of : Addr} {od_value_of an_value_of : Option Addr} {sl_value_of : Array (Option Value)} {oc_value_of kV_value_of dc_value_of pm_value_of cd_value_of ct_value_of : Value}
    {T_value_of E_value_of : Addr} {oT_value_of : Value} {dT_value_of : Option Addr} {nT_value_of : Nat} {slT_value_of : Array (Option Value)}
    {f_expression_code : Addr} {od_expression_code an_expression_code : Option Addr} {sl_expression_code : Array (Option Value)} {oc_expression_code kV_expression_code dc_expression_code pm_expression_code cd_expression_code ct_expression_code : Value}
    {f_law_combine : Addr} {od_law_combine an_law_combine : Option Addr} {sl_law_combine : Array (Option Value)} {oc_law_combine kV_law_combine dc_law_combine pm_law_combine cd_law_combine ct_law_combine : Value}
    {f_law_expression : Addr} {od_law_expression an_law_expression : Option Addr} {sl_law_expression : Array (Option Value)} {oc_law_expression kV_law_expression dc_law_expression pm_law_expression cd_law_expression ct_law_expression : Value}
    {f_law_run : Addr} {od_law_run an_law_run : Option Addr} {sl_law_run : Array (Option Value)} {oc_law_run kV_law_run dc_law_run pm_law_run cd_law_run ct_law_run : Value}
    {f_law_code : Addr} {od_law_code an_law_code : Option Addr} {sl_law_code : Array (Option Value)} {oc_law_code kV_law_code dc_law_code pm_law_code cd_law_code ct_law_code : Value}
    {f_law : Addr} {od_law an_law : Option Addr} {sl_law : Array (Option Value)} {oc_law kV_law dc_law pm_law cd_law ct_law : Value}
    {t_GREATEST : Tok}
    {T_SIGNS : Addr} {nn_SIGNS : Nat} {sl_SIGNS : Array (Option Value)} {t_SIGNS0 t_SIGNS1 t_SIGNS2 t_SIGNS3 t_SIGNS4 t_SIGNS5 t_SIGNS6 : Tok}
    (a_law_pool : PySem.W.nsIn K mainGlobals "_law_pool" = some (some (.ref f_law_pool))) (l_law_pool : K.lookup f_law_pool = some ⟨oc_law_pool, od_law_pool, .func (PySem.W.fnOf "_law_pool" "_law_pool" (fnArgs s_law_pool) (fnBody s_law_pool) (fnScope s_law_pool) .none kV_law_pool dc_law_pool pm_law_pool an_law_pool cd_law_pool ct_law_pool), sl_law_pool⟩) (c_law_pool : PySem.W.codeIn K cd_law_pool "_law_pool" = true) (k_law_pool : PySem.W.keepIn K (.ref f_law_pool) = true)
    (a_law_draw : PySem.W.nsIn K mainGlobals "_law_draw" = some (some (.ref f_law_draw))) (l_law_draw : K.lookup f_law_draw = some ⟨oc_law_draw, od_law_draw, .func (PySem.W.fnOf "_law_draw" "_law_draw" (fnArgs s_law_draw) (fnBody s_law_draw) (fnScope s_law_draw) .none kV_law_draw dc_law_draw pm_law_draw an_law_draw cd_law_draw ct_law_draw), sl_law_draw⟩) (c_law_draw : PySem.W.codeIn K cd_law_draw "_law_draw" = true) (k_law_draw : PySem.W.keepIn K (.ref f_law_draw) = true)
    (a_law_spend : PySem.W.nsIn K mainGlobals "_law_spend" = some (some (.ref f_law_spend))) (l_law_spend : K.lookup f_law_spend = some ⟨oc_law_spend, od_law_spend, .func (PySem.W.fnOf "_law_spend" "_law_spend" (fnArgs s_law_spend) (fnBody s_law_spend) (fnScope s_law_spend) .none kV_law_spend dc_law_spend pm_law_spend an_law_spend cd_law_spend ct_law_spend), sl_law_spend⟩) (c_law_spend : PySem.W.codeIn K cd_law_spend "_law_spend" = true) (k_law_spend : PySem.W.keepIn K (.ref f_law_spend) = true)
    (a_law_few : PySem.W.nsIn K mainGlobals "_law_few" = some (some (.ref f_law_few))) (l_law_few : K.lookup f_law_few = some ⟨oc_law_few, od_law_few, .func (PySem.W.fnOf "_law_few" "_law_few" (fnArgs s_law_few) (fnBody s_law_few) (fnScope s_law_few) .none kV_law_few dc_law_few pm_law_few an_law_few cd_law_few ct_law_few), sl_law_few⟩) (c_law_few : PySem.W.codeIn K cd_law_few "_law_few" = true) (k_law_few : PySem.W.keepIn K (.ref f_law_few) = true)
    (a_law_number : PySem.W.nsIn K mainGlobals "_law_number" = some (some (.ref f_law_number))) (l_law_number : K.lookup f_law_number = some ⟨oc_law_number, od_law_number, .func (PySem.W.fnOf "_law_number" "_law_number" (fnArgs s_law_number) (fnBody s_law_number) (fnScope s_law_number) .none kV_law_number dc_law_number pm_law_number an_law_number cd_law_number ct_law_number), sl_law_number⟩) (c_law_number : PySem.W.codeIn K cd_law_number "_law_number" = true) (k_law_number : PySem.W.keepIn K (.ref f_law_number) = true)
    (a_law_same : PySem.W.nsIn K mainGlobals "_law_same" = some (some (.ref f_law_same))) (l_law_same : K.lookup f_law_same = some ⟨oc_law_same, od_law_same, .func (PySem.W.fnOf "_law_same" "_law_same" (fnArgs s_law_same) (fnBody s_law_same) (fnScope s_law_same) .none kV_law_same dc_law_same pm_law_same an_law_same cd_law_same ct_law_same), sl_law_same⟩) (c_law_same : PySem.W.codeIn K cd_law_same "_law_same" = true) (k_law_same : PySem.W.keepIn K (.ref f_law_same) = true)
    (a_law_keys : PySem.W.nsIn K mainGlobals "_law_keys" = some (some (.ref f_law_keys))) (l_law_keys : K.lookup f_law_keys = some ⟨oc_law_keys, od_law_keys, .func (PySem.W.fnOf "_law_keys" "_law_keys" (fnArgs s_law_keys) (fnBody s_law_keys) (fnScope s_law_keys) .none kV_law_keys dc_law_keys pm_law_keys an_law_keys cd_law_keys ct_law_keys), sl_law_keys⟩) (c_law_keys : PySem.W.codeIn K cd_law_keys "_law_keys" = true) (k_law_keys : PySem.W.keepIn K (.ref f_law_keys) = true)
    (a_law_name : PySem.W.nsIn K mainGlobals "_law_name" = some (some (.ref f_law_name))) (l_law_name : K.lookup f_law_name = some ⟨oc_law_name, od_law_name, .func (PySem.W.fnOf "_law_name" "_law_name" (fnArgs s_law_name) (fnBody s_law_name) (fnScope s_law_name) .none kV_law_name dc_law_name pm_law_name an_law_name cd_law_name ct_law_name), sl_law_name⟩) (c_law_name : PySem.W.codeIn K cd_law_name "_law_name" = true) (k_law_name : PySem.W.keepIn K (.ref f_law_name) = true)
    (a_law_names : PySem.W.nsIn K mainGlobals "_law_names" = some (some (.ref f_law_names))) (l_law_names : K.lookup f_law_names = some ⟨oc_law_names, od_law_names, .func (PySem.W.fnOf "_law_names" "_law_names" (fnArgs s_law_names) (fnBody s_law_names) (fnScope s_law_names) .none kV_law_names dc_law_names pm_law_names an_law_names cd_law_names ct_law_names), sl_law_names⟩) (c_law_names : PySem.W.codeIn K cd_law_names "_law_names" = true) (k_law_names : PySem.W.keepIn K (.ref f_law_names) = true)
    (a_combine : PySem.W.nsIn K mainGlobals "combine" = some (some (.ref f_combine))) (l_combine : K.lookup f_combine = some ⟨oc_combine, od_combine, .func (PySem.W.fnOf "combine" "combine" (fnArgs s_combine) (fnBody s_combine) (fnScope s_combine) .none kV_combine dc_combine pm_combine an_combine cd_combine ct_combine), sl_combine⟩) (c_combine : PySem.W.codeIn K cd_combine "combine" = true) (k_combine : PySem.W.keepIn K (.ref f_combine) = true)
    (a_value_of : PySem.W.nsIn K mainGlobals "value_of" = some (some (.ref f_value_of))) (l_value_of : K.lookup f_value_of = some ⟨oc_value_of, od_value_of, .func (PySem.W.fnOf "value_of" "value_of" (fnArgs s_value_of) (fnBody s_value_of) (fnScope s_value_of) (.ref T_value_of) kV_value_of dc_value_of pm_value_of an_value_of cd_value_of ct_value_of), sl_value_of⟩) (c_value_of : PySem.W.codeIn K cd_value_of "value_of" = true) (k_value_of : PySem.W.keepIn K (.ref f_value_of) = true)
    (lT_value_of : K.lookup T_value_of = some ⟨oT_value_of, dT_value_of, .seq #[.ref E_value_of] nT_value_of, slT_value_of⟩)
    (a_expression_code : PySem.W.nsIn K mainGlobals "expression_code" = some (some (.ref f_expression_code))) (l_expression_code : K.lookup f_expression_code = some ⟨oc_expression_code, od_expression_code, .func (PySem.W.fnOf "expression_code" "expression_code" (fnArgs s_expression_code) (fnBody s_expression_code) (fnScope s_expression_code) .none kV_expression_code dc_expression_code pm_expression_code an_expression_code cd_expression_code ct_expression_code), sl_expression_code⟩) (c_expression_code : PySem.W.codeIn K cd_expression_code "expression_code" = true) (k_expression_code : PySem.W.keepIn K (.ref f_expression_code) = true)
    (a_law_combine : PySem.W.nsIn K mainGlobals "_law_combine" = some (some (.ref f_law_combine))) (l_law_combine : K.lookup f_law_combine = some ⟨oc_law_combine, od_law_combine, .func (PySem.W.fnOf "_law_combine" "_law_combine" (fnArgs s_law_combine) (fnBody s_law_combine) (fnScope s_law_combine) .none kV_law_combine dc_law_combine pm_law_combine an_law_combine cd_law_combine ct_law_combine), sl_law_combine⟩) (c_law_combine : PySem.W.codeIn K cd_law_combine "_law_combine" = true) (k_law_combine : PySem.W.keepIn K (.ref f_law_combine) = true)
    (a_law_expression : PySem.W.nsIn K mainGlobals "_law_expression" = some (some (.ref f_law_expression))) (l_law_expression : K.lookup f_law_expression = some ⟨oc_law_expression, od_law_expression, .func (PySem.W.fnOf "_law_expression" "_law_expression" (fnArgs s_law_expression) (fnBody s_law_expression) (fnScope s_law_expression) .none kV_law_expression dc_law_expression pm_law_expression an_law_expression cd_law_expression ct_law_expression), sl_law_expression⟩) (c_law_expression : PySem.W.codeIn K cd_law_expression "_law_expression" = true) (k_law_expression : PySem.W.keepIn K (.ref f_law_expression) = true)
    (a_law_run : PySem.W.nsIn K mainGlobals "_law_run" = some (some (.ref f_law_run))) (l_law_run : K.lookup f_law_run = some ⟨oc_law_run, od_law_run, .func (PySem.W.fnOf "_law_run" "_law_run" (fnArgs s_law_run) (fnBody s_law_run) (fnScope s_law_run) .none kV_law_run dc_law_run pm_law_run an_law_run cd_law_run ct_law_run), sl_law_run⟩) (c_law_run : PySem.W.codeIn K cd_law_run "_law_run" = true) (k_law_run : PySem.W.keepIn K (.ref f_law_run) = true)
    (a_law_code : PySem.W.nsIn K mainGlobals "_law_code" = some (some (.ref f_law_code))) (l_law_code : K.lookup f_law_code = some ⟨oc_law_code, od_law_code, .func (PySem.W.fnOf "_law_code" "_law_code" (fnArgs s_law_code) (fnBody s_law_code) (fnScope s_law_code) .none kV_law_code dc_law_code pm_law_code an_law_code cd_law_code ct_law_code), sl_law_code⟩) (c_law_code : PySem.W.codeIn K cd_law_code "_law_code" = true) (k_law_code : PySem.W.keepIn K (.ref f_law_code) = true)
    (a_law : PySem.W.nsIn K mainGlobals "law" = some (some (.ref f_law))) (l_law : K.lookup f_law = some ⟨oc_law, od_law, .func (PySem.W.fnOf "law" "law" (fnArgs s_law) (fnBody s_law) (fnScope s_law) .none kV_law dc_law pm_law an_law cd_law ct_law), sl_law⟩) (c_law : PySem.W.codeIn K cd_law "law" = true) (k_law : PySem.W.keepIn K (.ref f_law) = true)
    (z_GREATEST : PySem.W.nsIn K mainGlobals "GREATEST" = some (some (.int 65535 t_GREATEST)))
    (z_SIGNS : PySem.W.nsIn K mainGlobals "SIGNS" = some (some (.ref T_SIGNS)))
    (lT_SIGNS : K.lookup T_SIGNS = some ⟨.type "tuple", none, .seq #[.str "+" t_SIGNS0, .str "-" t_SIGNS1, .str "*" t_SIGNS2, .str "/" t_SIGNS3, .str "mod" t_SIGNS4, .str "<" t_SIGNS5, .str "=" t_SIGNS6] nn_SIGNS, sl_SIGNS⟩)
    (z_bool : PySem.W.nsIn K mainGlobals "bool" = some none)
    (z_dict : PySem.W.nsIn K mainGlobals "dict" = some none)
    (z_int : PySem.W.nsIn K mainGlobals "int" = some none)
    (z_isinstance : PySem.W.nsIn K mainGlobals "isinstance" = some none)
    (z_len : PySem.W.nsIn K mainGlobals "len" = some none)
    (z_list : PySem.W.nsIn K mainGlobals "list" = some none)
    (z_max : PySem.W.nsIn K mainGlobals "max" = some none)
    (z_min : PySem.W.nsIn K mainGlobals "min" = some none)
    (z_range : PySem.W.nsIn K mainGlobals "range" = some none)
    (z_str : PySem.W.nsIn K mainGlobals "str" = some none)
    (z_tuple : PySem.W.nsIn K mainGlobals "tuple" = some none)
    : ∃ fd : FuncData, (∀ (s : Shared) (v : Value), BindsTo s fd ⟨[v], []⟩ [("script", v)]) ∧ ∀ base : Heap, K.In base → base.Ns mainGlobals mg → FnOk l.prog w K mg base C8.CX0 17 fa fd ["script"] (sp_law K) := by
  have e := hfa.symm.trans (PySem.W.mg_of X G a_law)
  cases e
  have T : Txt K mg T_SIGNS := ⟨PySem.W.mg_none_of X G z_bool, PySem.W.mg_none_of X G z_dict, PySem.W.mg_none_of X G z_int, PySem.W.mg_none_of X G z_isinstance, PySem.W.mg_none_of X G z_len, PySem.W.mg_none_of X G z_list, PySem.W.mg_none_of X G z_max, PySem.W.mg_none_of X G z_min, PySem.W.mg_none_of X G z_range, PySem.W.mg_none_of X G z_str, PySem.W.mg_none_of X G z_tuple, ⟨_, PySem.W.mg_of X G z_GREATEST, ⟨_, rfl⟩⟩, ⟨_, PySem.W.mg_of X G z_SIGNS, rfl⟩, fun H => .inr ⟨_, _, _, lT_SIGNS, rfl, rfl, by show 7 ≤ sizeLine; decide, .cons ⟨_, rfl⟩ (.cons ⟨_, rfl⟩ (.cons ⟨_, rfl⟩ (.cons ⟨_, rfl⟩ (.cons ⟨_, rfl⟩ (.cons ⟨_, rfl⟩ (.cons ⟨_, rfl⟩ (.nil)))))))⟩, ⟨_, lT_SIGNS, rfl, rfl⟩, True.intro⟩
  have D_law_pool : C8.Def K mg "_law_pool" s_law_pool _ _ := ⟨⟨⟨_, _, _, _, _, _, _, _, _, _, rfl, l_law_pool, c_law_pool⟩⟩, PySem.W.mg_of X G a_law_pool, k_law_pool⟩
  have b_law_pool : Binds K _ ["script", "budget"] [] := C8.Fun.binds D_law_pool.fn rfl fun _ _ _ _ _ _ us hl => match us, hl with | [_, _], _ => rfl
  have D_law_draw : C8.Def K mg "_law_draw" s_law_draw _ _ := ⟨⟨⟨_, _, _, _, _, _, _, _, _, _, rfl, l_law_draw, c_law_draw⟩⟩, PySem.W.mg_of X G a_law_draw, k_law_draw⟩
  have b_law_draw : Binds K _ ["pool", "size"] [] := C8.Fun.binds D_law_draw.fn rfl fun _ _ _ _ _ _ us hl => match us, hl with | [_, _], _ => rfl
  have D_law_spend : C8.Def K mg "_law_spend" s_law_spend _ _ := ⟨⟨⟨_, _, _, _, _, _, _, _, _, _, rfl, l_law_spend, c_law_spend⟩⟩, PySem.W.mg_of X G a_law_spend, k_law_spend⟩
  have b_law_spend : Binds K _ ["pool"] [] := C8.Fun.binds D_law_spend.fn rfl fun _ _ _ _ _ _ us hl => match us, hl with | [_], _ => rfl
  have D_law_few : C8.Def K mg "_law_few" s_law_few _ _ := ⟨⟨⟨_, _, _, _, _, _, _, _, _, _, rfl, l_law_few, c_law_few⟩⟩, PySem.W.mg_of X G a_law_few, k_law_few⟩
  have b_law_few : Binds K _ ["pool", "most"] [] := C8.Fun.binds D_law_few.fn rfl fun _ _ _ _ _ _ us hl => match us, hl with | [_, _], _ => rfl
  have D_law_number : C8.Def K mg "_law_number" s_law_number _ _ := ⟨⟨⟨_, _, _, _, _, _, _, _, _, _, rfl, l_law_number, c_law_number⟩⟩, PySem.W.mg_of X G a_law_number, k_law_number⟩
  have b_law_number : Binds K _ ["pool"] [] := C8.Fun.binds D_law_number.fn rfl fun _ _ _ _ _ _ us hl => match us, hl with | [_], _ => rfl
  have D_law_same : C8.Def K mg "_law_same" s_law_same _ _ := ⟨⟨⟨_, _, _, _, _, _, _, _, _, _, rfl, l_law_same, c_law_same⟩⟩, PySem.W.mg_of X G a_law_same, k_law_same⟩
  have b_law_same : Binds K _ ["actual", "due"] [] := C8.Fun.binds D_law_same.fn rfl fun _ _ _ _ _ _ us hl => match us, hl with | [_, _], _ => rfl
  have D_law_keys : C8.Def K mg "_law_keys" s_law_keys _ _ := ⟨⟨⟨_, _, _, _, _, _, _, _, _, _, rfl, l_law_keys, c_law_keys⟩⟩, PySem.W.mg_of X G a_law_keys, k_law_keys⟩
  have b_law_keys : Binds K _ [] [] := C8.Fun.binds D_law_keys.fn rfl fun _ _ _ _ _ _ us hl => match us, hl with | [], _ => rfl
  have D_law_name : C8.Def K mg "_law_name" s_law_name _ _ := ⟨⟨⟨_, _, _, _, _, _, _, _, _, _, rfl, l_law_name, c_law_name⟩⟩, PySem.W.mg_of X G a_law_name, k_law_name⟩
  have b_law_name : Binds K _ ["pool", "taken"] [] := C8.Fun.binds D_law_name.fn rfl fun _ _ _ _ _ _ us hl => match us, hl with | [_, _], _ => rfl
  have D_law_names : C8.Def K mg "_law_names" s_law_names _ _ := ⟨⟨⟨_, _, _, _, _, _, _, _, _, _, rfl, l_law_names, c_law_names⟩⟩, PySem.W.mg_of X G a_law_names, k_law_names⟩
  have b_law_names : Binds K _ ["pool", "most"] [] := C8.Fun.binds D_law_names.fn rfl fun _ _ _ _ _ _ us hl => match us, hl with | [_, _], _ => rfl
  have D_combine : C8.Def K mg "combine" s_combine _ _ := ⟨⟨⟨_, _, _, _, _, _, _, _, _, _, rfl, l_combine, c_combine⟩⟩, PySem.W.mg_of X G a_combine, k_combine⟩
  have b_combine : Binds K _ ["sign", "left", "right"] [] := C8.Fun.binds D_combine.fn rfl fun _ _ _ _ _ _ us hl => match us, hl with | [_, _, _], _ => rfl
  have D_value_of : C8.Def K mg "value_of" s_value_of _ _ := ⟨⟨⟨_, _, _, _, _, _, _, _, _, _, rfl, l_value_of, c_value_of⟩⟩, PySem.W.mg_of X G a_value_of, k_value_of⟩
  have FD_value_of : FunD K "value_of" "value_of" (fnArgs s_value_of) (fnBody s_value_of) (fnScope s_value_of) [.ref E_value_of] [] f_value_of _ := ⟨⟨_, _, _, _, _, _, _, _, _, _, rfl, l_value_of, c_value_of, .inr ⟨by simp, _, _, [_], _, rfl, lT_value_of, rfl, .cons rfl .nil⟩, .inl rfl⟩, k_value_of⟩
  obtain ⟨ds2_value_of, v2_value_of, b2_value_of⟩ := FD_value_of.binds1 (ps := ["expression", "table", "on", "seen"]) 4 1 (by simp) rfl (fun _ _ _ _ _ _ _ us its hu hi => match us, hu, its, hi with | [_, _, _, _], _, [_], _ => ⟨_, rfl, rfl⟩)
  have D_expression_code : C8.Def K mg "expression_code" s_expression_code _ _ := ⟨⟨⟨_, _, _, _, _, _, _, _, _, _, rfl, l_expression_code, c_expression_code⟩⟩, PySem.W.mg_of X G a_expression_code, k_expression_code⟩
  have b_expression_code : Binds K _ ["expression", "slots", "on"] [] := C8.Fun.binds D_expression_code.fn rfl fun _ _ _ _ _ _ us hl => match us, hl with | [_, _, _], _ => rfl
  have D_law_combine : C8.Def K mg "_law_combine" s_law_combine _ _ := ⟨⟨⟨_, _, _, _, _, _, _, _, _, _, rfl, l_law_combine, c_law_combine⟩⟩, PySem.W.mg_of X G a_law_combine, k_law_combine⟩
  have b_law_combine : Binds K _ ["sign", "a", "b"] [] := C8.Fun.binds D_law_combine.fn rfl fun _ _ _ _ _ _ us hl => match us, hl with | [_, _, _], _ => rfl
  have D_law_expression : C8.Def K mg "_law_expression" s_law_expression _ _ := ⟨⟨⟨_, _, _, _, _, _, _, _, _, _, rfl, l_law_expression, c_law_expression⟩⟩, PySem.W.mg_of X G a_law_expression, k_law_expression⟩
  have b_law_expression : Binds K _ ["pool", "names", "picks", "deep"] [] := C8.Fun.binds D_law_expression.fn rfl fun _ _ _ _ _ _ us hl => match us, hl with | [_, _, _, _], _ => rfl
  have D_law_run : C8.Def K mg "_law_run" s_law_run _ _ := ⟨⟨⟨_, _, _, _, _, _, _, _, _, _, rfl, l_law_run, c_law_run⟩⟩, PySem.W.mg_of X G a_law_run, k_law_run⟩
  have b_law_run : Binds K _ ["code", "cells", "seen"] [] := C8.Fun.binds D_law_run.fn rfl fun _ _ _ _ _ _ us hl => match us, hl with | [_, _, _], _ => rfl
  have D_law_code : C8.Def K mg "_law_code" s_law_code _ _ := ⟨⟨⟨_, _, _, _, _, _, _, _, _, _, rfl, l_law_code, c_law_code⟩⟩, PySem.W.mg_of X G a_law_code, k_law_code⟩
  have b_law_code : Binds K _ ["due", "slots", "on"] [] := C8.Fun.binds D_law_code.fn rfl fun _ _ _ _ _ _ us hl => match us, hl with | [_, _, _], _ => rfl
  have F_law : C8.Fun K "law" "law" s_law _ _ := ⟨⟨_, _, _, _, _, _, _, _, _, _, rfl, l_law, c_law⟩⟩
  refine ⟨PySem.W.fnOf "law" "law" (fnArgs s_law) (fnBody s_law) (fnScope s_law) .none kV_law dc_law pm_law an_law cd_law ct_law, fun s v => .of_eq rfl, fun base _ _ => ?_⟩
  have c_law_pool := ok_law_pool (P := l.prog) (w := w) (base := base) D_law_pool b_law_pool T
  have c_law_draw := ok_law_draw (P := l.prog) (w := w) (base := base) D_law_draw b_law_draw T
  have c_law_few := ok_law_few D_law_few b_law_few T c_law_draw
  have c_law_number := ok_law_number D_law_number b_law_number T c_law_draw
  have c_law_spend := ok_law_spend (P := l.prog) (w := w) (base := base) D_law_spend b_law_spend T (k := 0)
  have c_law_keys := ok_law_keys (P := l.prog) (w := w) (base := base) D_law_keys b_law_keys T
  have c_law_name := ok_law_name D_law_name b_law_name T c_law_draw c_law_few c_law_keys
  have c_law_names := ok_law_names D_law_names b_law_names T c_law_few c_law_name
  have c_law_same := same_all (P := l.prog) (w := w) (base := base) D_law_same b_law_same T 3
  have c_combine := ok_combine (P := l.prog) (w := w) (base := base) D_combine b_combine T (k := 0)
  have c_value_of := value_all D_value_of v2_value_of b2_value_of T c_combine 12
  have c_expression_code := code_all (P := l.prog) (w := w) (base := base) D_expression_code b_expression_code T 12
  have c_law_code := lcode_all (P := l.prog) (w := w) (base := base) D_law_code b_law_code T 12
  have c_law_combine := ok_law_combine (P := l.prog) (w := w) (base := base) D_law_combine b_law_combine T (k := 0)
  have c_law_run := ok_law_run D_law_run b_law_run T c_law_same c_law_combine
  have c_law_expression := expr_all D_law_expression b_law_expression T c_law_draw c_law_spend c_law_number 12
  exact ok_law F_law T c_law_pool c_law_draw c_law_number c_law_names c_law_expression c_law_same c_expression_code c_law_code c_law_run c_value_of
theorem walk {l : PySem.W.OpenLaw} {q : Program} {loose : List Str} {XP : (Str → Option Value) → Heap → Prop} {YP : World → Heap → Prop} {d : DefRec} {K : Params → PySem.W.Frag} (hn : l.most = some 63) (hdf : d.params.defaults = [])
    (hY : ∀ (w : World) (h : Heap), YP w h → (K w.params).In h)
    (F : ∀ (w : World) (mg : Str → Option Value) (fa : Addr) (h : Heap), (K w.params).In h → h.Ns mainGlobals mg → mg d.name = some (.ref fa) →
      ∃ fd : FuncData, (∀ (s : Shared) (u : Value), BindsTo s fd ⟨[u], []⟩ [("script", u)]) ∧ ∀ base : Heap, (K w.params).In base → base.Ns mainGlobals mg → FnOk l.prog w (K w.params) mg base C8.CX0 17 fa fd ["script"] (sp_law (K w.params))) :
    PySem.W.WalkO q loose XP YP l.row.toRowW d [] (fun f vs => PySem.call f vs) :=
  L2.walk_ofB (n := 63) (k := 17) (x := "script") (CX := fun _ => C8.CX0) (sp := fun w => sp_law (K w.params)) hn (by decide) hdf ⟨rfl, by decide, by decide⟩ hY F (fun _ _ a ns hl hb _ hS => ⟨a, ns, rfl, hS, fun _ => rfl⟩) fun _ _ _ _ _ z => z
end My
open PySem PySem.W PyProof.Rows
set_option maxRecDepth 100000 in
set_option maxHeartbeats 0 in
theorem PySem.Challenge.cw_bothgain_k70_code_of_an_expression_holds : PySem.Challenge.rw_bothgain_k70_code_of_an_expression.Holds := by
  w_on; o_law; k_head; (case hw => w_witness2)
  k_fill
  refine My.walk (l := PySem.Challenge.rw_bothgain_k70_code_of_an_expression) rfl rfl (fun w h Y => PySem.W.kIn_of Y) ?F
  case F =>
    intro w mg fa h KX G hmg
    refine' My.all_mk KX G hmg ?a_law_pool ?l_law_pool ?c_law_pool ?k_law_pool ?a_law_draw ?l_law_draw ?c_law_draw ?k_law_draw ?a_law_spend ?l_law_spend ?c_law_spend ?k_law_spend ?a_law_few ?l_law_few ?c_law_few ?k_law_few ?a_law_number ?l_law_number ?c_law_number ?k_law_number ?a_law_same ?l_law_same ?c_law_same ?k_law_same ?a_law_keys ?l_law_keys ?c_law_keys ?k_law_keys ?a_law_name ?l_law_name ?c_law_name ?k_law_name ?a_law_names ?l_law_names ?c_law_names ?k_law_names ?a_combine ?l_combine ?c_combine ?k_combine ?a_value_of ?l_value_of ?c_value_of ?k_value_of ?lT_value_of ?a_expression_code ?l_expression_code ?c_expression_code ?k_expression_code ?a_law_combine ?l_law_combine ?c_law_combine ?k_law_combine ?a_law_expression ?l_law_expression ?c_law_expression ?k_law_expression ?a_law_run ?l_law_run ?c_law_run ?k_law_run ?a_law_code ?l_law_code ?c_law_code ?k_law_code ?a_law ?l_law ?c_law ?k_law ?z_GREATEST ?z_SIGNS ?lT_SIGNS ?z_bool ?z_dict ?z_int ?z_isinstance ?z_len ?z_list ?z_max ?z_min ?z_range ?z_str ?z_tuple
    (case a_law_pool => k_is)
    (case l_law_pool => k_is)
    (case c_law_pool => k_is)
    (case k_law_pool => k_is)
    (case a_law_draw => k_is)
    (case l_law_draw => k_is)
    (case c_law_draw => k_is)
    (case k_law_draw => k_is)
    (case a_law_spend => k_is)
    (case l_law_spend => k_is)
    (case c_law_spend => k_is)
    (case k_law_spend => k_is)
    (case a_law_few => k_is)
    (case l_law_few => k_is)
    (case c_law_few => k_is)
    (case k_law_few => k_is)
    (case a_law_number => k_is)
    (case l_law_number => k_is)
    (case c_law_number => k_is)
    (case k_law_number => k_is)
    (case a_law_same => k_is)
    (case l_law_same => k_is)
    (case c_law_same => k_is)
    (case k_law_same => k_is)
    (case a_law_keys => k_is)
    (case l_law_keys => k_is)
    (case c_law_keys => k_is)
    (case k_law_keys => k_is)
    (case a_law_name => k_is)
    (case l_law_name => k_is)
    (case c_law_name => k_is)
    (case k_law_name => k_is)
    (case a_law_names => k_is)
    (case l_law_names => k_is)
    (case c_law_names => k_is)
    (case k_law_names => k_is)
    (case a_combine => k_is)
    (case l_combine => k_is)
    (case c_combine => k_is)
    (case k_combine => k_is)
    (case a_value_of => k_is)
    (case l_value_of => k_is)
    (case c_value_of => k_is)
    (case k_value_of => k_is)
    (case lT_value_of => k_is)
    (case a_expression_code => k_is)
    (case l_expression_code => k_is)
    (case c_expression_code => k_is)
    (case k_expression_code => k_is)
    (case a_law_combine => k_is)
    (case l_law_combine => k_is)
    (case c_law_combine => k_is)
    (case k_law_combine => k_is)
    (case a_law_expression => k_is)
    (case l_law_expression => k_is)
    (case c_law_expression => k_is)
    (case k_law_expression => k_is)
    (case a_law_run => k_is)
    (case l_law_run => k_is)
    (case c_law_run => k_is)
    (case k_law_run => k_is)
    (case a_law_code => k_is)
    (case l_law_code => k_is)
    (case c_law_code => k_is)
    (case k_law_code => k_is)
    (case a_law => k_is)
    (case l_law => k_is)
    (case c_law => k_is)
    (case k_law => k_is)
    (case z_GREATEST => k_is)
    (case z_SIGNS => k_is)
    (case lT_SIGNS => k_is)
    (case z_bool => k_is)
    (case z_dict => k_is)
    (case z_int => k_is)
    (case z_isinstance => k_is)
    (case z_len => k_is)
    (case z_list => k_is)
    (case z_max => k_is)
    (case z_min => k_is)
    (case z_range => k_is)
    (case z_str => k_is)
    (case z_tuple => k_is)

