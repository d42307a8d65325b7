
import PyProof.Rows.All
import Wide.All
import OpenK.AllK
import Wide.FinOn
import HandS.ForMost
import HandS.Codes
import HandS.IsInst
import HandS.EndBits
import HandS.Walk
import HandS.DeepEq
import HandS.Gcd
import HandS.Wide
import HandS.Defaults
import HandS.OwnEq
import KE.IntTextText
import PySem.Challenge.RW_bothgain_k11_names_and_numbers
set_option Elab.async false
set_option linter.all false
set_option maxRecDepth 100000
set_option maxHeartbeats 4000000

namespace My
open PySem L2 C8 SX
/-! own base: tests, heaps -/
theorem bo_len : bootBuiltins "len" = some (.builtin "len") := by decide +kernel
theorem bo_isinstance : bootBuiltins "isinstance" = some (.builtin "isinstance") := by decide +kernel
theorem bo_min : bootBuiltins "min" = some (.builtin "min") := by decide +kernel
theorem bo_max : bootBuiltins "max" = some (.builtin "max") := by decide +kernel
theorem bo_abs : bootBuiltins "abs" = some (.builtin "abs") := by decide +kernel
theorem bo_int : bootBuiltins "int" = some (.type "int") := by decide +kernel
theorem bo_str : bootBuiltins "str" = some (.type "str") := by decide +kernel
theorem bo_bool : bootBuiltins "bool" = some (.type "bool") := by decide +kernel
theorem bo_list : bootBuiltins "list" = some (.type "list") := by decide +kernel
theorem bo_ord : bootBuiltins "ord" = some (.builtin "ord") := by decide +kernel
theorem bo_chr : bootBuiltins "chr" = some (.builtin "chr") := by decide +kernel
theorem bo_sum : bootBuiltins "sum" = some (.builtin "sum") := by decide +kernel
theorem bo_all : bootBuiltins "all" = some (.builtin "all") := by decide +kernel
theorem bo_any : bootBuiltins "any" = some (.builtin "any") := by decide +kernel
theorem bo_sorted : bootBuiltins "sorted" = some (.builtin "sorted") := by decide +kernel
theorem bo_tuple : bootBuiltins "tuple" = some (.type "tuple") := by decide +kernel
theorem iteD {p A B : Prop} [Decidable p] (h1 : p → A) (h2 : ¬ p → B) : if decide p = true then A else B := by
  by_cases h : p
  · rw [decide_eq_true h]; exact iteT (h1 h)
  · rw [decide_eq_false h]; exact iteF (h2 h)
theorem iteN {p A B : Prop} [Decidable p] (h1 : ¬ p → A) (h2 : p → B) : if (!decide p) = true then A else B := by
  by_cases h : p
  · rw [decide_eq_true h]; exact iteF (h2 h)
  · rw [decide_eq_false h]; exact iteT (h1 h)
theorem iteDT {p A B : Prop} [Decidable p] (h : p) (k : A) : if decide p = true then A else B := iteD (fun _ => k) fun z => absurd h z
theorem iteDF {p A B : Prop} [Decidable p] (h : ¬ p) (k : B) : if decide p = true then A else B := iteD (fun z => absurd z h) fun _ => k
theorem iteNT {p A B : Prop} [Decidable p] (h : ¬ p) (k : A) : if (!decide p) = true then A else B := iteN (fun _ => k) fun z => absurd z h
theorem iteNF {p A B : Prop} [Decidable p] (h : p) (k : B) : if (!decide p) = true then A else B := iteN (fun z => absurd h z) fun _ => k
theorem iteB {b : Bool} {A B : Prop} (h1 : b = true → A) (h2 : b = false → B) : if b = true then A else B := by
  cases b with
  | true => exact iteT (h1 rfl)
  | false => exact iteF (h2 rfl)
/-- in a comprehension without a test -/
theorem yes_then {σ : St} {H : Hp} {F G : Hp → Prop} (h : F H) : tYes σ H (fun b H3 => if b = true then F H3 else G H3) := h
/-- all that was tracked stands, but at W -/
def Keep (W : List Addr) (H H' : Hp) : Prop := ∀ b o, H b = some o → b ∉ W → H' b = some o
theorem Keep.refl (W : List Addr) (H : Hp) : Keep W H H := fun _ _ h _ => h
theorem Keep.trans {W : List Addr} {H H1 H2 : Hp} (a : Keep W H H1) (b : Keep W H1 H2) : Keep W H H2 := fun c o h w => b c o (a c o h w) w
theorem Keep.mono {W W' : List Addr} {H H1 : Hp} (a : Keep W H H1) (h : ∀ b, b ∈ W → b ∈ W') : Keep W' H H1 := fun c o q w => a c o q fun z => w (h c z)
theorem Keep.new {W : List Addr} {H : Hp} {p : Addr} {o : HO} (h : H p = none) : Keep W H (upd H p o) := fun b u q _ => by
  rw [upd_ne (ne_of_none q h)]; exact q
theorem Keep.at_ {W : List Addr} {H : Hp} {p : Addr} {o : HO} (h : p ∈ W) : Keep W H (upd H p o) := fun b u q w => by
  rw [upd_ne (fun z => w (by rw [z]; exact h))]; exact q
theorem Keep.then_new {W : List Addr} {H H1 : Hp} {p : Addr} {o : HO} (a : Keep W H H1) (h : H1 p = none) : Keep W H (upd H1 p o) := a.trans (Keep.new h)
theorem Keep.then_at {W : List Addr} {H H1 : Hp} {p : Addr} {o : HO} (a : Keep W H H1) (h : p ∈ W) : Keep W H (upd H1 p o) := a.trans (Keep.at_ h)
/-- what was new since H is not among the kept -/
theorem Keep.then_own {W : List Addr} {H H1 : Hp} {p : Addr} {o : HO} (a : Keep W H H1) (h : H p = none) : Keep W H (upd H1 p o) := fun b u q w => by
  rw [upd_ne (ne_of_none q h)]; exact a b u q w
theorem Keep.free {H H' : Hp} (e : Keep [] H H') {l : Addr} (h : H' l = none) : H l = none := by
  cases q : H l with
  | none => rfl
  | some o => rw [e l o q (by simp)] at h; cases h
theorem Keep.free1 {H H' : Hp} {p : Addr} {o : HO} (e : Keep [p] H H') (hp : H' p = some o) {l : Addr} (h : H' l = none) : H l = none := by
  cases q : H l with
  | none => rfl
  | some u =>
    by_cases z : l = p
    · subst z; rw [hp] at h; cases h
    · rw [e l u q (by simpa using z)] at h; cases h
theorem Keep.seqL {W : List Addr} {K : PySem.W.Frag} {H H' : Hp} {a : Addr} {xs : List V} (e : Keep W H H') (h : SqL K H a xs) (w : a ∉ W) : SqL K H' a xs := by
  rcases h with (h | ⟨o, h⟩) | h
  · exact .inl (.inl (e _ _ h w))
  · exact .inl (.inr ⟨o, e _ _ h w⟩)
  · exact .inr h
theorem Keep.seqT {W : List Addr} {K : PySem.W.Frag} {H H' : Hp} {a : Addr} {xs : List V} (e : Keep W H H') (h : SqT K H a xs) (w : a ∉ W) : SqT K H' a xs := by
  rcases h with (h | ⟨o, h⟩) | h
  · exact .inl (.inl (e _ _ h w))
  · exact .inl (.inr ⟨o, e _ _ h w⟩)
  · exact .inr h
theorem Keep.same {H H' : Hp} (e : Keep [] H H') : Same H H' := fun b o h => e b o h (by simp)
theorem ints_get {ns : List Int} {i : Nat} {v : V} (h : (ns.map V.int)[i]? = some v) : ∃ z, ns[i]? = some z ∧ v = V.int z := by
  rw [List.getElem?_map] at h
  cases e : ns[i]? with
  | none => rw [e] at h; cases h
  | some z => rw [e] at h; exact ⟨z, rfl, (Option.some.inj h).symm⟩
theorem strs_get {ns : List Str} {i : Nat} {v : V} (h : (ns.map V.str)[i]? = some v) : ∃ z, ns[i]? = some z ∧ v = V.str z := by
  rw [List.getElem?_map] at h
  cases e : ns[i]? with
  | none => rw [e] at h; cases h
  | some z => rw [e] at h; exact ⟨z, rfl, (Option.some.inj h).symm⟩
theorem smallM {n : Nat} (h : n ≤ 1000000) : n ≤ sizeLine := Nat.le_trans h (by decide)
theorem smallL {n : Nat} (h : n ≤ 1000000) : n < sizeLine := Nat.lt_of_le_of_lt h (by decide)
/-- a promise that asks the impossible: any def at all keeps it -/
def spNo : Sp := fun _ _ _ _ => False
/-! the same rules with the written part named (within a comprehension) -/
section
variable {X : Cx} {K : PySem.W.Frag}
theorem pe_fldK {e : Expr} {f : Str} {pos : Pos} {ta : TE} (he : PE X e ta) (hb : attributeBase e f X.env (eval e X.env) = eval e X.env) (hK : X.K = K := by rfl) : PE X (.Attribute e f pos) (tFld K ta f) := hK ▸ pe_fld he hb
theorem ix_listK (hK : X.K = K := by rfl) : IxR X (rIxL K) := hK ▸ ix_list
theorem ix_tupK (hK : X.K = K := by rfl) : IxR X (rIxT K) := hK ▸ ix_tup
theorem sl_listK (hK : X.K = K := by rfl) : SlR X (rSlL K) := hK ▸ sl_list
theorem sl_tupK (hK : X.K = K := by rfl) : SlR X (rSlT K) := hK ▸ sl_tup
theorem call_len_seqK (hK : X.K = K := by rfl) : CallR X (.builtin "len") (fun xs H Q => ∃ p ys, xs = [.ref p] ∧ (SqL K H p ys ∨ SqT K H p ys) ∧ Q (.int ys.length) H) := hK ▸ call_len_seq
theorem call_list_ofK (hK : X.K = K := by rfl) : CallR X (.type "list") (fun xs H Q => ∃ p ys, xs = [.ref p] ∧ (SqL K H p ys ∨ SqT K H p ys) ∧ ∀ l, H l = none → Q (.ref l) (upd H l (.lst ys))) := hK ▸ call_list_of
theorem call_isiK2 (hK : X.K = K := by rfl) : CallR X (.builtin "isinstance") (rIsi K) := hK ▸ call_isi
end
/-- behind the making of an instance -/
theorem keep_made {H H2 : Hp} {x dx : Addr} {o : HO} (hx : H x = none) (hd : H dx = none) (k : Keep [x] (upd (upd H dx (.own x)) x o) H2) : Keep [] H H2 := fun b u e _ =>
  k b u (by rw [upd_ne (ne_of_none e hx), upd_ne (ne_of_none e hd)]; exact e) (by simpa using ne_of_none e hx)
theorem kitSelf {K : PySem.W.Frag} {C : Addr} : PySem.W.kitOne K (.ref C) (.ref C) = some true := by
  unfold PySem.W.kitOne
  simp
/-- a call without arguments -/
theorem pe_c0 {X : Cx} {x : Str} {p pos : Pos} {k j : Nat} {sp : Sp} {dvs : List V} (c : C8.Cal X.prog X.w X.K X.mg X.base k x sp dvs) (hr : Room j X.A) (hk : k ≤ j) (hg : Gl X x) (hdb : (x == ("__debug__" : Str)) = false := by decide) :
    PE X (.Call (.Name x p) [] [] pos) (tCall sp dvs C8.E0 tNil) := by
  obtain ⟨f, fd, ps, ds, F, hm, kp, b, d⟩ := c.ex
  exact pe_call0 F (hr.mono hk) hg hm kp b d C8.pass0 hdb

/-! the text by places -/
def top (i : Nat) : Stmt := PySem.Challenge.pw_bothgain_k11_names_and_numbers.main.body.getD i (.Pass ⟨0, 0, 0, 0⟩)
abbrev s_law_pool : Stmt := top 9
theorem sc_law_pool : FnScope ["script", "budget"] ["script", "budget"] (fnScope s_law_pool) := fnScope_by (by decide +kernel)
abbrev s_law_draw : Stmt := top 10
theorem sc_law_draw : FnScope ["pool", "size", "cell", "value"] ["pool", "size"] (fnScope s_law_draw) := fnScope_by (by decide +kernel)
abbrev s_law_few : Stmt := top 12
theorem sc_law_few : FnScope ["pool", "most", "few"] ["pool", "most"] (fnScope s_law_few) := fnScope_by (by decide +kernel)
abbrev s_law_same : Stmt := top 14
theorem sc_law_same : FnScope ["actual", "due", "k"] ["actual", "due"] (fnScope s_law_same) := fnScope_by (by decide +kernel)
abbrev s_is_name : Stmt := top 6
theorem sc_is_name : FnScope ["word", "char"] ["word"] (fnScope s_is_name) := fnScope_by (by decide +kernel)
abbrev s_number_of : Stmt := top 7
theorem sc_number_of : FnScope ["word", "char", "number"] ["word"] (fnScope s_number_of) := fnScope_by (by decide +kernel)
abbrev s_law_keys : Stmt := top 15
theorem sc_law_keys : FnScope ["text"] [] (fnScope s_law_keys) := fnScope_by (by decide +kernel)
abbrev s_law_spoilt : Stmt := top 16
theorem sc_law_spoilt : FnScope ["pool", "word", "others", "k", "place"] ["pool", "word"] (fnScope s_law_spoilt) := fnScope_by (by decide +kernel)
abbrev s_law_word : Stmt := top 17
theorem sc_law_word : FnScope ["pool", "kind", "word", "number", "signs", "size", "k"] ["pool"] (fnScope s_law_word) := fnScope_by (by decide +kernel)
abbrev s_law_is_name : Stmt := top 18
theorem sc_law_is_name : FnScope ["word", "good", "k", "letter"] ["word"] (fnScope s_law_is_name) := fnScope_by (by decide +kernel)
abbrev s_law_number_of : Stmt := top 19
theorem sc_law_number_of : FnScope ["word", "number", "char"] ["word"] (fnScope s_law_number_of) := fnScope_by (by decide +kernel)
abbrev s_law : Stmt := top 20
theorem sc_law : FnScope ["script", "pool", "words", "word", "k"] ["script"] (fnScope s_law) := fnScope_by (by decide +kernel)
/-- what the walk asks of the module -/
structure Txt (K : PySem.W.Frag) (mg : Str → Option Value) (T_KEYWORDS : Addr) : Prop where
  n_bool : mg "bool" = none
  n_int : mg "int" = none
  n_isinstance : mg "isinstance" = none
  n_len : mg "len" = none
  n_list : mg "list" = none
  n_min : mg "min" = none
  n_ord : mg "ord" = none
  n_range : mg "range" = none
  n_str : mg "str" = none
  n_tuple : mg "tuple" = none
  v_LETTERS : ∃ u, mg "LETTERS" = some u ∧ RelV (.str "abcdefghijklmnopqrstuvwxyz") u
  v_DIGITS : ∃ u, mg "DIGITS" = some u ∧ RelV (.str "0123456789") u
  v_LONGEST_NAME : ∃ u, mg "LONGEST_NAME" = some u ∧ RelV (.int 12) u
  v_GREATEST : ∃ u, mg "GREATEST" = some u ∧ RelV (.int 65535) u
  v_KEYWORDS : ∃ u, mg "KEYWORDS" = some u ∧ RelV (.ref T_KEYWORDS) u
  q_KEYWORDS : ∀ H : Hp, SqT K H T_KEYWORDS ((["option", "on", "off", "var", "round", "end", "set", "if", "else", "when", "draw", "first", "second", "show", "both", "pay", "take", "pick", "mod", "player", "keep", "lot", "while", "answer", "view", "long"] : List Str).map V.str)
  ok : True
/-! the law's draws -/
def Pool (H : Hp) (p q : Addr) (ns : List Int) : Prop := ∃ (i1 i2 i3 i4 i5 : Int), H p = some (.lst [.ref q, .int i1, .int i2, .int i3, .int i4, .int i5]) ∧ H q = some (.lst (ns.map V.int)) ∧ q ≠ p ∧ 0 ≤ i1
theorem Pool.some {H : Hp} {p q : Addr} {ns : List Int} (h : Pool H p q ns) : ∃ o, H p = Option.some o := by
  obtain ⟨i1, i2, i3, i4, i5, h, _⟩ := h
  exact ⟨_, h⟩
theorem Pool.some2 {H : Hp} {p q : Addr} {ns : List Int} (h : Pool H p q ns) : ∃ o, H q = Option.some o := by
  obtain ⟨i1, i2, i3, i4, i5, _, h, _⟩ := h
  exact ⟨_, h⟩
theorem Pool.keep {H H' : Hp} {p q : Addr} {ns : List Int} {W : List Addr} (h : Pool H p q ns) (k : Keep W H H') (w : ∀ b, b ∈ W → H b = none) : Pool H' p q ns := by
  obtain ⟨i1, i2, i3, i4, i5, h1, h2, h3, h4⟩ := h
  have no : ∀ b o, H b = Option.some o → b ∉ W := fun b o e z => by rw [w b z] at e; cases e
  exact ⟨i1, i2, i3, i4, i5, k _ _ h1 (no _ _ h1), k _ _ h2 (no _ _ h2), h3, h4⟩
theorem Pool.keep0 {H H' : Hp} {p q : Addr} {ns : List Int} (h : Pool H p q ns) (k : Keep [] H H') : Pool H' p q ns := h.keep k fun _ z => by cases z
theorem Pool.new {H : Hp} {p q a : Addr} {ns : List Int} {o : HO} (h : Pool H p q ns) (n : H a = none) : Pool (upd H a o) p q ns := h.keep0 (Keep.new n)
theorem Pool.own {H : Hp} {p q a : Addr} {ns : List Int} {o : HO} (h : Pool H p q ns) (h1 : a ≠ p) (h2 : a ≠ q) : Pool (upd H a o) p q ns := by
  obtain ⟨i1, i2, i3, i4, i5, g1, g2, g3, g4⟩ := h
  exact ⟨i1, i2, i3, i4, i5, by rw [upd_ne h1.symm]; exact g1, by rw [upd_ne h2.symm]; exact g2, g3, g4⟩
theorem Pool.free {H H' : Hp} {p q l : Addr} {ns : List Int} (P : Pool H' p q ns) (e : Keep [p] H H') (h : H' l = none) : H l = none := by
  obtain ⟨o, ho⟩ := P.some
  exact e.free1 ho h
theorem Pool.nep {H : Hp} {p q l : Addr} {ns : List Int} (P : Pool H p q ns) (h : H l = none) : l ≠ p := by
  obtain ⟨o, ho⟩ := P.some
  exact (ne_of_none ho h).symm
theorem Pool.neq {H : Hp} {p q l : Addr} {ns : List Int} (P : Pool H p q ns) (h : H l = none) : l ≠ q := by
  obtain ⟨o, ho⟩ := P.some2
  exact (ne_of_none ho h).symm
def sp_law_pool (K : PySem.W.Frag) : Sp := fun vs H Q _ => ∃ (a : Addr) (ns : List Int) (b : Int), vs = [.ref a, .int b] ∧ SqL K H a (ns.map V.int) ∧
  ∀ p q H', H p = none → Pool H' p q ns → Keep [] H H' → Q (.ref p) H'
def sp_law_draw : Sp := fun vs H Q _ => ∃ (p q : Addr) (ns : List Int) (size : Int), vs = [.ref p, .int size] ∧ 0 < size ∧ size < 1073741824 ∧ Pool H p q ns ∧
  ∀ r H', 0 ≤ r → r < size → Pool H' p q ns → Keep [p] H H' → Q (.int r) H'
section
variable {P : Program} {w : World} {K : PySem.W.Frag} {mg : Str → Option Value} {base : Heap} {T_KEYWORDS : Addr}
theorem ok_law_pool {f : Addr} {fd : FuncData} (D : C8.Def K mg "_law_pool" s_law_pool f fd) (b : Binds K fd ["script", "budget"] []) (T : Txt K mg T_KEYWORDS) : C8.Cal P w K mg base 1 "_law_pool" (sp_law_pool K) [] := by
  refine cal0 D b .nil sc_law_pool (fun vs H Q E h => ?_) (fun cdv A outer s H vs Q E hr h => ?_)
  · obtain ⟨a, ns, b, rfl, _⟩ := h
    rfl
  · obtain ⟨a, ns, b, rfl, hS, k⟩ := h
    refine ⟨_, (pss_one (ps_ret (pe_lst (pa_cons (pe_callTy call_list_of (by rfl) T.n_list bo_list (pa_cons (pv 0) pa_nil)) (pa_cons pe_int (pa_cons pe_int (pa_cons pe_int (pa_cons pe_int (pa_cons (pv 1) pa_nil))))))))), ?_⟩
    refine ⟨_, rfl, _, _, rfl, .inl hS, fun l hl => ⟨_, rfl, (by show 6 ≤ sizeLine; decide), fun p hp => ?_⟩⟩
    have hlp : l ≠ p := ne_of_none (H := upd H l (.lst (ns.map V.int))) upd_same hp
    have hp0 : H p = none := (Keep.new (W := []) hl).free hp
    refine k p l _ hp0 ⟨_, _, _, _, _, upd_same, (by rw [upd_ne hlp]; exact upd_same), hlp, Int.le_refl 0⟩ ((Keep.new hl).then_new hp)
theorem ok_law_draw {f : Addr} {fd : FuncData} (D : C8.Def K mg "_law_draw" s_law_draw f fd) (b : Binds K fd ["pool", "size"] []) (T : Txt K mg T_KEYWORDS) : C8.Cal P w K mg base 1 "_law_draw" sp_law_draw [] := by
  refine cal0 D b .nil sc_law_draw (fun vs H Q E h => ?_) (fun cdv A outer s H vs Q E hr h => ?_)
  · obtain ⟨p, q, ns, size, rfl, _⟩ := h
    rfl
  · obtain ⟨p, q, ns, size, rfl, hs0, hs1, ⟨i1, i2, i3, i4, i5, h1, h2, hqp, hi1⟩, k⟩ := h
    have hbig : (2147483647 : Int) > 0 := by decide
    refine ⟨_, (pss_cut (ps_if (PW.pt (pw_and (pt_cmpR op_le (pe_ix ix_list (pv 0) pe_int (fun _ _ => rfl)) pe_int (nomark _)) (pw_and (pt_cmpR op_le (pe_ix ix_list (pv 0) pe_int (fun _ _ => rfl)) pe_int (nomark _)) (pw_and1 (pt_cmpR op_lt (pe_ix ix_list (pv 0) pe_int (fun _ _ => rfl)) (pe_callB call_len_seq (by rfl) T.n_len bo_len (pa_cons (pe_ix ix_list (pv 0) pe_int (fun _ _ => rfl)) pa_nil)) (nomark _))))))
  (pss_cons (ps_set (i := 2) sc_law_draw.nd rfl (by first | exact Or.inl rfl | exact Or.inr rfl) (pe_ix ix_list (pe_ix ix_list (pv 0) pe_int (fun _ _ => rfl)) (pe_ix ix_list (pv 0) pe_int (fun _ _ => rfl)) (fun _ _ => rfl)))
  (pss_cons (ps_asg (pe_op op_add (pe_ix ix_list (pv 0) pe_int (fun _ _ => rfl)) pe_int) (pg_sub (pv 0) pe_int set_list))
  (pss_cons (ps_asg (pe_op op_mod (pe_callTy call_int1 (by rfl) T.n_int bo_int (pa_cons (pe_op op_add (pe_op op_mul (pe_ix ix_list (pv 0) pe_int (fun _ _ => rfl)) pe_int) (pv 2)) pa_nil)) pe_int) (pg_sub (pv 0) pe_int set_list))
  (pss_cons (ps_asg pe_int (pg_sub (pv 0) pe_int set_list))
  (pss_one (ps_if (pt_cmpR op_ge (pv 2) (pe_op op_pow pe_int pe_int) (nomark _))
    (pss_one (ps_asg (pv 2) (pg_sub (pv 0) pe_int set_list)))
    pss_nil))))))
  pss_nil)
(pss_cons (ps_if (pt_cmpR op_gt (pe_ix ix_list (pv 0) pe_int (fun _ _ => rfl)) pe_int (nomark _))
  (pss_cons (ps_set (i := 3) sc_law_draw.nd rfl (by first | exact Or.inl rfl | exact Or.inr rfl) (pe_op op_mod (pe_callTy call_int1 (by rfl) T.n_int bo_int (pa_cons (pe_ix ix_list (pv 0) pe_int (fun _ _ => rfl)) pa_nil)) (pv 1)))
  (pss_cons (ps_asg (pe_op op_fdiv (pe_ix ix_list (pv 0) pe_int (fun _ _ => rfl)) (pv 1)) (pg_sub (pv 0) pe_int set_list))
  (pss_cons (ps_asg pe_int (pg_sub (pv 0) pe_int set_list))
  (pss_one (ps_ret (pv 3))))))
  pss_nil)
(pss_cons (ps_asg (pe_op op_sub (pe_ix ix_list (pv 0) pe_int (fun _ _ => rfl)) pe_int) (pg_sub (pv 0) pe_int set_list))
(pss_cons (ps_asg (pe_op op_mod (pe_callTy call_int1 (by rfl) T.n_int bo_int (pa_cons (pe_op op_add (pe_op op_mul (pe_ix ix_list (pv 0) pe_int (fun _ _ => rfl)) pe_int) pe_int) pa_nil)) pe_int) (pg_sub (pv 0) pe_int set_list))
(pss_one (ps_ret (pe_op op_mod (pe_op op_mod (pe_callTy call_int1 (by rfl) T.n_int bo_int (pa_cons (pe_op op_add (pe_op op_mul (pe_ix ix_list (pv 0) pe_int (fun _ _ => rfl)) pe_int) pe_int) pa_nil)) pe_int) (pv 1)))))))), ?_⟩
    -- the state between the statements
    refine ⟨fun σ H' => ∃ (c : Option V) (j1 j2 j3 j4 j5 : Int), σ = [some (.ref p), some (.int size), c, none] ∧ H' p = some (.lst [.ref q, .int j1, .int j2, .int j3, .int j4, .int j5]) ∧ Keep [p] H H' ∧ 0 ≤ j1, ?_, ?_⟩
    · have stay : ∃ (c : Option V) (j1 j2 j3 j4 j5 : Int), ([some (.ref p), some (.int size), none, none] : List (Option V)) = [some (.ref p), some (.int size), c, none] ∧ H p = some (.lst [.ref q, .int j1, .int j2, .int j3, .int j4, .int j5]) ∧ Keep [p] H H ∧ 0 ≤ j1 :=
        ⟨_, i1, i2, i3, i4, i5, rfl, h1, Keep.refl _ _, hi1⟩
      refine ⟨_, rfl, _, _, _, _, rfl, rfl, SqL.of h1, rfl, _, _, rfl, rfl, _, rfl, iteD (fun _ => ?_) (fun _ => stay)⟩
      refine ⟨_, rfl, _, _, _, _, rfl, rfl, SqL.of h1, rfl, _, _, rfl, rfl, _, rfl, iteD (fun _ => ?_) (fun _ => stay)⟩
      refine ⟨_, rfl, _, _, _, _, rfl, rfl, SqL.of h1, rfl, _, rfl, _, _, _, _, rfl, rfl, SqL.of h1, rfl, _, _, rfl, .inl (SqL.of h2), _, _, rfl, rfl, _, rfl, iteD (fun hlt => ?_) (fun _ => stay)⟩
      obtain ⟨j, rfl⟩ : ∃ j : Nat, i1 = (j : Int) := ⟨i1.toNat, by omega⟩
      rw [List.length_map] at hlt
      have hj : j < ns.length := by omega
      have hc : (ns.map V.int)[j]? = some (.int ns[j]) := by rw [List.getElem?_map, List.getElem?_eq_getElem hj]; rfl
      refine ⟨_, rfl, _, _, _, _, rfl, rfl, SqL.of h1, rfl, _, rfl, _, _, _, _, rfl, rfl, SqL.of h1, rfl, _, _, _, _, rfl, rfl, SqL.of h2, atI_nat hc, ?_⟩
      refine ⟨_, rfl, _, _, _, _, rfl, rfl, SqL.of h1, rfl, _, _, rfl, rfl, _, rfl, _, _, _, _, rfl, rfl, h1, rfl, ?_⟩
      refine ⟨_, rfl, _, _, _, _, rfl, rfl, SqL.of upd_same, rfl, _, _, rfl, rfl, .inr ⟨by decide, by decide⟩, _, rfl, _, _, rfl, rfl, .inl ⟨_, rfl, _, _, rfl, rfl, hbig, _, rfl, _, _, _, _, rfl, rfl, upd_same, rfl, ?_⟩⟩
      refine ⟨_, rfl, _, _, _, _, rfl, rfl, upd_same, rfl, ?_⟩
      have kk : Keep [p] H (upd (upd (upd H p (.lst (List.set [.ref q, .int (j : Int), .int i2, .int i3, .int i4, .int i5] 1 (.int ((j : Int) + 1))))) p
        (.lst (List.set (List.set [.ref q, .int (j : Int), .int i2, .int i3, .int i4, .int i5] 1 (.int ((j : Int) + 1))) 3 (.int ((i3 * 31 + ns[j]) % 2147483647))))) p
        (.lst (List.set (List.set (List.set [.ref q, .int (j : Int), .int i2, .int i3, .int i4, .int i5] 1 (.int ((j : Int) + 1))) 3 (.int ((i3 * 31 + ns[j]) % 2147483647))) 4 (.int 7)))) :=
        ((Keep.at_ (List.mem_singleton.mpr rfl)).then_at (List.mem_singleton.mpr rfl)).then_at (List.mem_singleton.mpr rfl)
      refine ⟨_, rfl, _, _, rfl, rfl, ⟨by decide, by decide, by decide⟩, _, _, rfl, rfl, _, rfl, iteD (fun _ => ?_) (fun _ => ?_)⟩
      · refine ⟨_, rfl, _, rfl, _, _, _, _, rfl, rfl, upd_same, rfl, ?_⟩
        exact ⟨_, _, _, _, _, _, rfl, upd_same, kk.then_at (List.mem_singleton.mpr rfl), by omega⟩
      · exact ⟨_, _, _, _, _, _, rfl, upd_same, kk, by omega⟩
    · rintro σ' H' ⟨c, j1, j2, j3, j4, j5, rfl, g1, kk, hj1⟩
      have g2 : H' q = some (.lst (ns.map V.int)) := kk q _ h2 (by simpa using hqp)
      refine ⟨_, rfl, _, _, _, _, rfl, rfl, SqL.of g1, rfl, _, _, rfl, rfl, _, rfl, iteD (fun _ => ?_) (fun _ => ?_)⟩
      · refine ⟨_, rfl, _, _, _, _, rfl, rfl, SqL.of g1, rfl, .inl ⟨_, rfl, _, rfl, _, _, rfl, rfl, hs0, ?_⟩⟩
        refine ⟨_, rfl, _, _, _, _, rfl, rfl, SqL.of g1, rfl, _, rfl, _, _, rfl, rfl, ⟨hs0, hs1⟩, _, rfl, _, _, _, _, rfl, rfl, g1, rfl, ?_⟩
        refine ⟨_, rfl, _, _, _, _, rfl, rfl, upd_same, rfl, ?_⟩
        refine ⟨_, rfl, ?_⟩
        refine k _ _ (Int.emod_nonneg _ (by omega)) (Int.emod_lt_of_pos _ hs0) ⟨_, _, _, _, _, upd_same, ?_, hqp, hj1⟩ ((kk.then_at (List.mem_singleton.mpr rfl)).then_at (List.mem_singleton.mpr rfl))
        rw [upd_ne hqp, upd_ne hqp]; exact g2
      · refine ⟨_, rfl, _, _, _, _, rfl, rfl, SqL.of g1, rfl, _, _, rfl, rfl, _, rfl, _, _, _, _, rfl, rfl, g1, rfl, ?_⟩
        refine ⟨_, rfl, _, _, _, _, rfl, rfl, SqL.of upd_same, rfl, _, _, rfl, rfl, .inr ⟨by decide, by decide⟩, _, _, rfl, rfl, .inl ⟨_, rfl, _, _, rfl, rfl, hbig, _, rfl, _, _, _, _, rfl, rfl, upd_same, rfl, ?_⟩⟩
        refine ⟨_, rfl, _, _, _, _, rfl, rfl, SqL.of upd_same, rfl, _, _, rfl, rfl, .inr ⟨by decide, by decide⟩, _, _, rfl, rfl, .inl ⟨_, rfl, _, _, rfl, rfl, hbig, _, rfl, _, _, rfl, rfl, hs0, ?_⟩⟩
        refine k _ _ (Int.emod_nonneg _ (by omega)) (Int.emod_lt_of_pos _ hs0) ⟨_, _, _, _, _, upd_same, ?_, hqp, hj1⟩ ((kk.then_at (List.mem_singleton.mpr rfl)).then_at (List.mem_singleton.mpr rfl))
        rw [upd_ne hqp, upd_ne hqp]; exact g2
end

/-! the law's small draws -/
def sp_law_few : Sp := fun vs H Q _ => ∃ (p q : Addr) (ns : List Int) (most : Int), vs = [.ref p, .int most] ∧ 0 ≤ most ∧ most < 1000000 ∧ Pool H p q ns ∧
  ∀ r H', 0 ≤ r → r ≤ most → Pool H' p q ns → Keep [p] H H' → Q (.int r) H'
section
variable {P : Program} {w : World} {K : PySem.W.Frag} {mg : Str → Option Value} {base : Heap} {T_KEYWORDS : Addr}
theorem ok_law_few {f : Addr} {fd : FuncData} (D : C8.Def K mg "_law_few" s_law_few f fd) (b : Binds K fd ["pool", "most"] []) (T : Txt K mg T_KEYWORDS) (c_law_draw : C8.Cal P w K mg base 1 "_law_draw" sp_law_draw []) : C8.Cal P w K mg base 2 "_law_few" sp_law_few [] := by
  refine cal0 D b .nil sc_law_few (fun vs H Q E h => ?_) (fun cdv A outer s H vs Q E hr h => ?_)
  · obtain ⟨p, q, ns, m, rfl, _⟩ := h
    rfl
  · obtain ⟨p, q, ns, m, rfl, m0, m1, hP, k⟩ := h
    refine ⟨_, (pss_cons (ps_set (i := 2) sc_law_few.nd rfl (by first | exact Or.inl rfl | exact Or.inr rfl) (pe_c c_law_draw hr (by first | exact Nat.le_refl _ | decide) rfl (pa_cons (pv 0) (pa_cons pe_int pa_nil))))
(pss_cons (ps_if (pt_cmpR op_eq (pv 2) pe_int (nomark _))
  (pss_one (ps_ret (pe_c c_law_draw hr (by first | exact Nat.le_refl _ | decide) rfl (pa_cons (pv 0) (pa_cons (pe_op op_add (pv 1) pe_int) pa_nil)))))
  pss_nil)
(pss_one (ps_ret (pe_callB (call_min2 rfl) (by rfl) T.n_min bo_min (pa_cons (pv 2) (pa_cons (pv 1) pa_nil))))))), ?_⟩
    refine ⟨_, rfl, p, q, ns, 4, rfl, by decide, by decide, hP, fun r H1 r0 r1 P1 K1 => ?_⟩
    refine ⟨_, rfl, rfl, _, rfl, iteD (fun _ => ?_) (fun _ => ?_)⟩
    · refine ⟨_, rfl, _, rfl, _, _, rfl, rfl, p, q, ns, _, rfl, by omega, by omega, P1, fun r2 H2 z0 z1 P2 K2 => ?_⟩
      exact k _ _ z0 (by omega) P2 (K1.trans K2)
    · refine ⟨_, rfl, _, rfl, _, _, rfl, k _ _ ?_ ?_ P1 K1⟩
      · split <;> omega
      · split <;> omega
end

/-! the law's look whether two values are the same: only the answer True is told -/
def SameV : Nat → Hp → V → V → Prop
  | 0, _, _, _ => False
  | n + 1, H, a, d => (a = d ∧ ((∃ x, d = .str x) ∨ (∃ i, d = .int i) ∨ (∃ b, d = .bl b) ∨ d = .non)) ∨
    ∃ p q xs ys, a = .ref p ∧ d = .ref q ∧ ((H p = some (.lst xs) ∧ H q = some (.lst ys)) ∨ (H p = some (.tup xs) ∧ H q = some (.tup ys))) ∧ xs.length = ys.length ∧ xs.length ≤ sizeLine ∧
      ∀ (i : Nat) x y, xs[i]? = some x → ys[i]? = some y → SameV n H x y
def sp_law_same (n : Nat) : Sp := fun vs H Q _ => ∃ a d, vs = [a, d] ∧ SameV n H a d ∧ Q (.bl true) H
theorem sameV_strs {n : Nat} {H : Hp} {p q : Addr} {ys : List Str} (h1 : H p = some (.lst (ys.map V.str))) (h2 : H q = some (.lst (ys.map V.str))) (hl : ys.length ≤ sizeLine) : SameV (n + 2) H (.ref p) (.ref q) := by
  refine .inr ⟨p, q, _, _, rfl, rfl, .inl ⟨h1, h2⟩, rfl, by rw [List.length_map]; exact hl, fun i x y hx hy => ?_⟩
  rw [hx] at hy; cases hy
  obtain ⟨z, _, rfl⟩ := strs_get hx
  exact .inl ⟨rfl, .inl ⟨z, rfl⟩⟩
theorem sameV_str {n : Nat} {H : Hp} (x : Str) : SameV (n + 1) H (.str x) (.str x) := .inl ⟨rfl, .inl ⟨x, rfl⟩⟩
section
variable {K : PySem.W.Frag}
theorem kLT : PySem.W.kitOne K (.type "list") (.type "tuple") = some false := kit_ty (by decide +kernel)
theorem kLL : PySem.W.kitOne K (.type "list") (.type "list") = some true := kit_ty (by decide +kernel)
theorem kTT : PySem.W.kitOne K (.type "tuple") (.type "tuple") = some true := kit_ty (by decide +kernel)
theorem kTL : PySem.W.kitOne K (.type "tuple") (.type "list") = some false := kit_ty (by decide +kernel)
theorem kST : PySem.W.kitOne K (.type "str") (.type "tuple") = some false := kit_ty (by decide +kernel)
theorem kSL : PySem.W.kitOne K (.type "str") (.type "list") = some false := kit_ty (by decide +kernel)
theorem kSB : PySem.W.kitOne K (.type "str") (.type "bool") = some false := kit_ty (by decide +kernel)
theorem kSI : PySem.W.kitOne K (.type "str") (.type "int") = some false := kit_ty (by decide +kernel)
theorem kSS : PySem.W.kitOne K (.type "str") (.type "str") = some true := kit_ty (by decide +kernel)
theorem kIT : PySem.W.kitOne K (.type "int") (.type "tuple") = some false := kit_ty (by decide +kernel)
theorem kIL : PySem.W.kitOne K (.type "int") (.type "list") = some false := kit_ty (by decide +kernel)
theorem kIB : PySem.W.kitOne K (.type "int") (.type "bool") = some false := kit_ty (by decide +kernel)
theorem kII : PySem.W.kitOne K (.type "int") (.type "int") = some true := kit_ty (by decide +kernel)
theorem kBT : PySem.W.kitOne K (.type "bool") (.type "tuple") = some false := kit_ty (by decide +kernel)
theorem kBL : PySem.W.kitOne K (.type "bool") (.type "list") = some false := kit_ty (by decide +kernel)
theorem kBB : PySem.W.kitOne K (.type "bool") (.type "bool") = some true := kit_ty (by decide +kernel)
theorem kBI : PySem.W.kitOne K (.type "bool") (.type "int") = some true := kit_ty (by decide +kernel)
theorem kNT : PySem.W.kitOne K (.type "NoneType") (.type "tuple") = some false := kit_ty (by decide +kernel)
theorem kNL : PySem.W.kitOne K (.type "NoneType") (.type "list") = some false := kit_ty (by decide +kernel)
theorem kNB : PySem.W.kitOne K (.type "NoneType") (.type "bool") = some false := kit_ty (by decide +kernel)
theorem kNI : PySem.W.kitOne K (.type "NoneType") (.type "int") = some false := kit_ty (by decide +kernel)
end
theorem paired_strs {K : PySem.W.Frag} {H : Hp} {n : Nat} : ∀ ys : List Str, Paired (EqV K H (n + 1)) (ys.map V.str) (ys.map V.str)
  | [] => .nil
  | y :: r => .cons (.inl ⟨rfl, rfl⟩) (paired_strs r)
theorem canLay_intsL : ∀ l : List Int, PyData.canLayAll0 (l.map PyData.int) = true
  | [] => rfl
  | a :: r => by simp [PyData.canLayAll0, PyData.canLay0, canLay_intsL r]
theorem depth_intsL : ∀ l : List Int, PyData.depthAll (l.map PyData.int) ≤ 1
  | [] => by simp [PyData.depthAll]
  | a :: r => by
    have := depth_intsL r
    simp only [List.map_cons, PyData.depthAll, PyData.depth]
    omega
theorem shaped_ints (ys : List Int) : SeqAt.shaped (.list (ys.map PyData.int)) = true := by
  unfold SeqAt.shaped
  have h := depth_intsL ys
  rw [Bool.and_eq_true]
  refine ⟨by simp only [PyData.canLay0]; exact canLay_intsL ys, decide_eq_true ?_⟩
  simp only [PyData.depth]
  omega
theorem eqv_ints (ys : List Int) : PyData.eqv (.list (ys.map PyData.int)) (.list (ys.map PyData.int)) = true := SeqAt.eqv_refl _ (SeqAt.canLay_of_shaped (shaped_ints ys))
theorem dp_ints {K : PySem.W.Frag} {H : Hp} : ∀ (ys : List Int), DpAll K H (ys.map V.int) (ys.map PyData.int)
  | [] => .nil
  | y :: r => .cons (.int y) (dp_ints r)

section
variable {P : Program} {w : World} {K : PySem.W.Frag} {mg : Str → Option Value} {base : Heap} {T_KEYWORDS : Addr}
theorem ok_law_same0 {f : Addr} {fd : FuncData} (D : C8.Def K mg "_law_same" s_law_same f fd) (b : Binds K fd ["actual", "due"] []) : C8.Cal P w K mg base 0 "_law_same" (sp_law_same 0) [] :=
  ⟨f, fd, ["actual", "due"], [], ⟨fun vs H Q E h => (by obtain ⟨a, d, rfl, _⟩ := h; rfl), fun A outer s H args us vs Q E _ _ _ _ h => (by obtain ⟨a, d, _, z, _⟩ := h; exact z.elim)⟩, D.mgf, D.kp, b, .nil⟩
theorem ok_law_same {f : Addr} {fd : FuncData} (D : C8.Def K mg "_law_same" s_law_same f fd) (b : Binds K fd ["actual", "due"] []) (T : Txt K mg T_KEYWORDS) {n k : Nat} (c_law_same : C8.Cal P w K mg base k "_law_same" (sp_law_same n) []) :
    C8.Cal P w K mg base (k + 1) "_law_same" (sp_law_same (n + 1)) [] := by
  refine cal0 D b .nil sc_law_same (fun vs H Q E h => ?_) (fun cdv A outer s H vs Q E hr h => ?_)
  · obtain ⟨a, d, rfl, _⟩ := h
    rfl
  · obtain ⟨a, d, rfl, hs, k⟩ := h
    have hu := hu_of hr
    refine ⟨_, (pss_cons (ps_if (PW.pt (pw_or (pt_val (pe_callB call_isi (by rfl) T.n_isinstance bo_isinstance (pa_cons (pv 1) (pa_cons (pe_bltn (v := .ty "tuple") (by rfl) T.n_tuple bo_tuple rfl) pa_nil)))) (pw_or1 (pt_val (pe_callB call_isi (by rfl) T.n_isinstance bo_isinstance (pa_cons (pv 1) (pa_cons (pe_bltn (v := .ty "list") (by rfl) T.n_list bo_list rfl) pa_nil)))))))
  (pss_cons (ps_if (PW.pt (pw_or (pt_cmpR op_ne (pe_callB call_isi (by rfl) T.n_isinstance bo_isinstance (pa_cons (pv 1) (pa_cons (pe_bltn (v := .ty "tuple") (by rfl) T.n_tuple bo_tuple rfl) pa_nil))) (pe_callB call_isi (by rfl) T.n_isinstance bo_isinstance (pa_cons (pv 0) (pa_cons (pe_bltn (v := .ty "tuple") (by rfl) T.n_tuple bo_tuple rfl) pa_nil))) (nomark _)) (pw_or1 (pt_cmpR op_ne (pe_callB call_isi (by rfl) T.n_isinstance bo_isinstance (pa_cons (pv 1) (pa_cons (pe_bltn (v := .ty "list") (by rfl) T.n_list bo_list rfl) pa_nil))) (pe_callB call_isi (by rfl) T.n_isinstance bo_isinstance (pa_cons (pv 0) (pa_cons (pe_bltn (v := .ty "list") (by rfl) T.n_list bo_list rfl) pa_nil))) (nomark _)))))
    (pss_one (ps_ret pe_bl))
    pss_nil)
  (pss_cons (ps_if (pt_cmpR op_ne (pe_callB call_len_seq (by rfl) T.n_len bo_len (pa_cons (pv 0) pa_nil)) (pe_callB call_len_seq (by rfl) T.n_len bo_len (pa_cons (pv 1) pa_nil)) (nomark _))
    (pss_one (ps_ret pe_bl))
    pss_nil)
  (pss_cons (ps_for PassesOwn.never rfl (pi_range1 (by rfl) T.n_range (pa_cons (pe_callB call_len_seq (by rfl) T.n_len bo_len (pa_cons (pv 1) pa_nil)) pa_nil)) (pg_name (i := 2) sc_law_same.nd rfl (by first | exact Or.inl rfl | exact Or.inr rfl))
    (pss_one (ps_if (pt_not (pt_val (pe_c c_law_same hr (by first | exact Nat.le_refl _ | decide) rfl (pa_cons (pe_ix ix_seq (pv 0) (pv 2) (fun _ _ => rfl)) (pa_cons (pe_ix ix_seq (pv 1) (pv 2) (fun _ _ => rfl)) pa_nil)))))
      (pss_one (ps_ret pe_bl))
      pss_nil)))
  (pss_one (ps_ret pe_bl)))))
  pss_nil)
(pss_cons (ps_if (PW.pt (pw_or (pt_cmpR op_isN (pv 1) pe_non (nomark _)) (pw_or1 (pt_val (pe_callB call_isi (by rfl) T.n_isinstance bo_isinstance (pa_cons (pv 1) (pa_cons (pe_bltn (v := .ty "bool") (by rfl) T.n_bool bo_bool rfl) pa_nil)))))))
  (pss_one (ps_ret (pe_and (pe_cmpR op_eq (pe_cmpR op_isN (pv 0) pe_non (nomark _)) (pe_cmpR op_isN (pv 1) pe_non (nomark _)) (nomark _)) (pe_and (pe_or (pe_cmpR op_isN (pv 1) pe_non (nomark _)) (pe_one (pe_callB call_isi (by rfl) T.n_isinstance bo_isinstance (pa_cons (pv 0) (pa_cons (pe_bltn (v := .ty "bool") (by rfl) T.n_bool bo_bool rfl) pa_nil))))) (pe_one (pe_cmpR op_eq (pv 0) (pv 1) (nomark _)))))))
  pss_nil)
(pss_cons (ps_if (pt_val (pe_callB call_isi (by rfl) T.n_isinstance bo_isinstance (pa_cons (pv 1) (pa_cons (pe_bltn (v := .ty "int") (by rfl) T.n_int bo_int rfl) pa_nil))))
  (pss_one (ps_ret (pe_and (pe_callB call_isi (by rfl) T.n_isinstance bo_isinstance (pa_cons (pv 0) (pa_cons (pe_bltn (v := .ty "int") (by rfl) T.n_int bo_int rfl) pa_nil))) (pe_and (pe_not (pe_callB call_isi (by rfl) T.n_isinstance bo_isinstance (pa_cons (pv 0) (pa_cons (pe_bltn (v := .ty "bool") (by rfl) T.n_bool bo_bool rfl) pa_nil)))) (pe_one (pe_cmpR op_eq (pv 0) (pv 1) (nomark _)))))))
  pss_nil)
(pss_one (ps_ret (pe_and (pe_callB call_isi (by rfl) T.n_isinstance bo_isinstance (pa_cons (pv 0) (pa_cons (pe_bltn (v := .ty "str") (by rfl) T.n_str bo_str rfl) pa_nil))) (pe_one (pe_cmpR op_eq (pv 0) (pv 1) (nomark _))))))))), ?_⟩
    -- the part behind the lengths, for lists and for tuples
    rcases hs with ⟨rfl, ⟨x, rfl⟩ | ⟨x, rfl⟩ | ⟨x, rfl⟩ | rfl⟩ | ⟨p, q, xs, ys, rfl, rfl, hh, hl, hz, hall⟩
    · refine ⟨_, rfl, _, _, _, _, _, rfl, .ty _, .base (.str x), kST, _, rfl, iteF ⟨_, rfl, _, _, _, _, _, rfl, .ty _, .base (.str x), kSL, _, rfl, iteF ?_⟩⟩
      refine ⟨_, rfl, rfl, _, rfl, iteDF (by simp) ⟨_, rfl, _, _, _, _, _, rfl, .ty _, .base (.str x), kSB, _, rfl, iteF ?_⟩⟩
      refine ⟨_, rfl, _, _, _, _, _, rfl, .ty _, .base (.str x), kSI, _, rfl, iteF ?_⟩
      refine ⟨_, rfl, _, _, _, _, _, rfl, .ty _, .base (.str x), kSS, _, rfl, iteT ⟨_, rfl, _, rfl, rfl, ?_⟩⟩
      rw [decide_eq_true rfl]; exact k
    · refine ⟨_, rfl, _, _, _, _, _, rfl, .ty _, .base (.int x), kIT, _, rfl, iteF ⟨_, rfl, _, _, _, _, _, rfl, .ty _, .base (.int x), kIL, _, rfl, iteF ?_⟩⟩
      refine ⟨_, rfl, rfl, _, rfl, iteDF (by simp) ⟨_, rfl, _, _, _, _, _, rfl, .ty _, .base (.int x), kIB, _, rfl, iteF ?_⟩⟩
      refine ⟨_, rfl, _, _, _, _, _, rfl, .ty _, .base (.int x), kII, _, rfl, iteT ?_⟩
      refine ⟨_, rfl, _, _, _, _, _, rfl, .ty _, .base (.int x), kII, _, rfl, iteT ⟨_, rfl, _, _, _, _, _, rfl, .ty _, .base (.int x), kIB, _, rfl, _, rfl, iteT ⟨_, rfl, _, rfl, rfl, ?_⟩⟩⟩
      rw [decide_eq_true rfl]; exact k
    · refine ⟨_, rfl, _, _, _, _, _, rfl, .ty _, .base (.bl x), kBT, _, rfl, iteF ⟨_, rfl, _, _, _, _, _, rfl, .ty _, .base (.bl x), kBL, _, rfl, iteF ?_⟩⟩
      refine ⟨_, rfl, rfl, _, rfl, iteDF (by simp) ⟨_, rfl, _, _, _, _, _, rfl, .ty _, .base (.bl x), kBB, _, rfl, iteT ?_⟩⟩
      refine ⟨_, rfl, rfl, _, rfl, rfl, rfl, _, rfl, iteDT (by simp) ?_⟩
      refine ⟨_, rfl, rfl, _, rfl, iteDF (by simp) ?_⟩
      refine ⟨_, rfl, _, _, _, _, _, rfl, .ty _, .base (.bl x), kBB, ?_⟩
      refine ⟨_, rfl, iteT ⟨_, rfl, _, rfl, rfl, ?_⟩⟩
      rw [decide_eq_true rfl]; exact k
    · refine ⟨_, rfl, _, _, _, _, _, rfl, .ty _, .base .non, kNT, _, rfl, iteF ⟨_, rfl, _, _, _, _, _, rfl, .ty _, .base .non, kNL, _, rfl, iteF ?_⟩⟩
      refine ⟨_, rfl, rfl, _, rfl, iteDT (by simp) ?_⟩
      refine ⟨_, rfl, rfl, _, rfl, rfl, rfl, _, rfl, iteDT (by simp) ?_⟩
      refine ⟨_, rfl, rfl, _, rfl, iteDT (by simp) ?_⟩
      refine ⟨_, rfl, iteT ⟨_, rfl, _, rfl, rfl, ?_⟩⟩
      rw [decide_eq_true rfl]; exact k
    · obtain ⟨t, b1, b2, ty1, ty2, k1, k2, hb, sq⟩ : ∃ (t : Value) (b1 b2 : Bool), TyX K H (.ref p) t ∧ TyX K H (.ref q) t ∧ PySem.W.kitOne K t (.type "tuple") = some b1 ∧ PySem.W.kitOne K t (.type "list") = some b2 ∧ (b1 = true ∨ b2 = true) ∧
          ((SqL K H p xs ∧ SqL K H q ys) ∨ (SqT K H p xs ∧ SqT K H q ys)) := by
        rcases hh with ⟨h1, h2⟩ | ⟨h1, h2⟩
        · exact ⟨_, _, _, .base (.lst h1), .base (.lst h2), kLT, kLL, .inr rfl, .inl ⟨SqL.of h1, SqL.of h2⟩⟩
        · exact ⟨_, _, _, .base (.tup h1), .base (.tup h2), kTT, kTL, .inl rfl, .inr ⟨SqT.of h1, SqT.of h2⟩⟩
      have sqp : SqL K H p xs ∨ SqT K H p xs := sq.elim (fun z => .inl z.1) fun z => .inr z.1
      have sqq : SqL K H q ys ∨ SqT K H q ys := sq.elim (fun z => .inl z.2) fun z => .inr z.2
      have bz : (ys.length : Int) < 2 ^ 62 := by
        have e : sizeLine = 16777216 := sizeLine_eq
        have : ys.length ≤ 16777216 := by omega
        omega
      -- the part behind the first test
      have rest : ∀ {D : Ends} {t1 : TS}, t1 D [some (.ref p), some (.ref q), none] H → t1 D [some (.ref p), some (.ref q), none] H := fun z => z
      refine ⟨_, rfl, _, _, _, _, _, rfl, .ty _, ty2, k1, _, rfl, iteB (fun e1 => ?_) (fun e1 => ⟨_, rfl, _, _, _, _, _, rfl, .ty _, ty2, k2, _, rfl, iteB (fun e2 => ?_) (fun e2 => ?_)⟩)⟩
      rotate_left 2
      · rcases hb with z | z
        · rw [e1] at z; cases z
        · rw [e2] at z; cases z
      all_goals
        refine ⟨_, rfl, _, _, _, _, _, rfl, .ty _, ty2, k1, _, rfl, _, _, _, _, _, rfl, .ty _, ty1, k1, rfl, _, rfl, iteNF (by simp) ?_⟩
        refine ⟨_, rfl, _, _, _, _, _, rfl, .ty _, ty2, k2, _, rfl, _, _, _, _, _, rfl, .ty _, ty1, k2, rfl, _, rfl, iteNF (by simp) ?_⟩
        refine ⟨_, rfl, _, _, rfl, sqp, _, rfl, _, _, rfl, sqq, rfl, _, rfl, iteNF (by rw [hl]) ?_⟩
        refine ⟨_, rfl, _, _, rfl, sqq, _, rfl, by omega, bz, for_range (lo := 0) (n := ys.length) (fun i σ H' => ∃ kv, σ = [some (.ref p), some (.ref q), kv] ∧ H' = H) ⟨none, rfl, rfl⟩ ?_ ?_⟩
        · rintro i σ H' hi ⟨kv, rfl, rfl⟩
          have hx : xs[i]? = some (xs[i]'(by omega)) := List.getElem?_eq_getElem _
          have hy : ys[i]? = some ys[i] := List.getElem?_eq_getElem _
          have e0 : (0 : Int) + (i : Int) = (i : Int) := by omega
          rw [e0]
          rcases sq with ⟨s1, s2⟩ | ⟨s1, s2⟩
          · refine ⟨_, rfl, _, rfl, .inl ⟨_, _, _, _, rfl, rfl, s1, atI_nat hx, _, rfl, _, rfl, .inl ⟨_, _, _, _, rfl, rfl, s2, atI_nat hy, ?_⟩⟩⟩
            exact ⟨_, _, rfl, hall i _ _ hx hy, _, rfl, iteF ⟨_, rfl, rfl⟩⟩
          · refine ⟨_, rfl, _, rfl, .inr (.inl ⟨_, _, _, _, rfl, rfl, s1, atI_nat hx, _, rfl, _, rfl, .inr (.inl ⟨_, _, _, _, rfl, rfl, s2, atI_nat hy, ?_⟩)⟩)⟩
            exact ⟨_, _, rfl, hall i _ _ hx hy, _, rfl, iteF ⟨_, rfl, rfl⟩⟩
        · rintro σ H' ⟨kv, rfl, rfl⟩
          exact k
end

/-! the plain law of names and numbers -/
def isL (c : Nat) : Bool := decide (97 ≤ c ∧ c ≤ 122)
def isD (c : Nat) : Bool := decide (48 ≤ c ∧ c ≤ 57)
abbrev kwL : List Str := ["option", "on", "off", "var", "round", "end", "set", "if", "else", "when", "draw", "first", "second", "show", "both", "pay", "take", "pick", "mod", "player", "keep", "lot", "while", "answer", "view", "long"]
def kwB (z : Str) : Bool := inV (.str z) (kwL.map V.str)
def nameB (z : Str) : Bool := decide (1 ≤ z.length ∧ z.length ≤ 12) && !(kwB z) && isL ((TL.tl z).headD 0) && (TL.tl z).all (fun c => isL c || isD c)
def numGood (z : Str) : Bool := decide (1 ≤ z.length ∧ z.length ≤ 5) && (TL.tl z).all isD && (decide (z.length = 1) || decide ((TL.tl z).headD 0 ≠ 48)) && decide (NumText.digitsVal (TL.tl z) ≤ 65535)
def numV (z : Str) : V := if numGood z = true then .int ((NumText.digitsVal (TL.tl z) : Nat) : Int) else .non
theorem letters_eq : (("abcdefghijklmnopqrstuvwxyz" : Str).cps.toList) = [97, 98, 99, 100, 101, 102, 103, 104, 105, 106, 107, 108, 109, 110, 111, 112, 113, 114, 115, 116, 117, 118, 119, 120, 121, 122] := by decide +kernel
theorem digits_eq : (("0123456789" : Str).cps.toList) = [48, 49, 50, 51, 52, 53, 54, 55, 56, 57] := by decide +kernel
theorem mem_letters (c : Nat) : decide (c ∈ (("abcdefghijklmnopqrstuvwxyz" : Str).cps.toList)) = isL c := by
  rw [letters_eq]
  unfold isL
  by_cases h : 97 ≤ c ∧ c ≤ 122
  · rw [decide_eq_true h]
    refine decide_eq_true ?_
    simp only [List.mem_cons, List.not_mem_nil, or_false]
    omega
  · rw [decide_eq_false h]
    refine decide_eq_false ?_
    simp only [List.mem_cons, List.not_mem_nil, or_false]
    omega
theorem mem_digits (c : Nat) : decide (c ∈ (("0123456789" : Str).cps.toList)) = isD c := by
  rw [digits_eq]
  unfold isD
  by_cases h : 48 ≤ c ∧ c ≤ 57
  · rw [decide_eq_true h]
    refine decide_eq_true ?_
    simp only [List.mem_cons, List.not_mem_nil, or_false]
    omega
  · rw [decide_eq_false h]
    refine decide_eq_false ?_
    simp only [List.mem_cons, List.not_mem_nil, or_false]
    omega
theorem lt_one (a b : Nat) : (([a] : List Nat) < [b]) ↔ a < b := by
  constructor
  · intro h
    cases h with
    | rel h => exact h
    | cons h => cases h
  · intro h; exact List.Lex.rel h
theorem le_sign (a : Str) (b c : Nat) (ha : a.cps.toList = [b]) : (!decide ((⟨#[c]⟩ : Str).cps.toList < a.cps.toList)) = decide (b ≤ c) := by
  rw [ha]
  show (!decide (([c] : List Nat) < [b])) = decide (b ≤ c)
  by_cases h : b ≤ c
  · rw [decide_eq_true h, decide_eq_false (fun z => by have := (lt_one _ _).mp z; omega)]; rfl
  · rw [decide_eq_false h, decide_eq_true ((lt_one _ _).mpr (by omega))]; rfl
theorem ge_sign (a : Str) (b c : Nat) (ha : a.cps.toList = [b]) : (!decide (a.cps.toList < (⟨#[c]⟩ : Str).cps.toList)) = decide (c ≤ b) := by
  rw [ha]
  show (!decide (([b] : List Nat) < [c])) = decide (c ≤ b)
  by_cases h : c ≤ b
  · rw [decide_eq_true h, decide_eq_false (fun z => by have := (lt_one _ _).mp z; omega)]; rfl
  · rw [decide_eq_false h, decide_eq_true ((lt_one _ _).mpr (by omega))]; rfl
theorem cp_a : ("a" : Str).cps.toList = [97] := by decide +kernel
theorem cp_z : ("z" : Str).cps.toList = [122] := by decide +kernel
theorem cp_0 : ("0" : Str).cps.toList = [48] := by decide +kernel
theorem cp_9 : ("9" : Str).cps.toList = [57] := by decide +kernel
theorem and_isL (c : Nat) : (decide (97 ≤ c) && decide (c ≤ 122)) = isL c := by unfold isL; rw [Bool.decide_and]
theorem and_isD (c : Nat) : (decide (48 ≤ c) && decide (c ≤ 57)) = isD c := by unfold isD; rw [Bool.decide_and]
theorem len_cps (z : Str) : (TL.tl z).length = z.length := (TL.len_tl z).symm
theorem allD {l : List Nat} : l.all isD = true ↔ NumText.AllDigits l := by
  rw [List.all_eq_true]
  constructor
  · intro h c hc; exact of_decide_eq_true (h c hc)
  · intro h c hc; exact decide_eq_true (h c hc)
theorem digits_lt : ∀ (l : List Nat), NumText.AllDigits l → NumText.digitsVal l < 10 ^ l.length := by
  have gen : ∀ (l : List Nat) (a k : Nat), NumText.AllDigits l → a < 10 ^ k → l.foldl (fun acc c => acc * 10 + (c - 48)) a < 10 ^ (k + l.length) := by
    intro l
    induction l with
    | nil => intro a k _ h; exact h
    | cons c r ih =>
      intro a k hd h
      have hc : 48 ≤ c ∧ c ≤ 57 := hd c (List.mem_cons_self ..)
      have h1 : a * 10 + (c - 48) < 10 ^ (k + 1) := by rw [Nat.pow_succ]; omega
      have := ih (a * 10 + (c - 48)) (k + 1) (fun z hz => hd z (List.mem_cons_of_mem _ hz)) h1
      rw [List.length_cons, show k + (r.length + 1) = k + 1 + r.length by omega]
      exact this
  intro l hd
  have := gen l 0 0 hd (by decide)
  rw [Nat.zero_add] at this
  exact this
theorem digits_ge : ∀ (l : List Nat) (a : Nat), a * 10 ^ l.length ≤ l.foldl (fun acc c => acc * 10 + (c - 48)) a
  | [], a => by simp
  | c :: r, a => by
    have h := digits_ge r (a * 10 + (c - 48))
    rw [List.length_cons, Nat.pow_succ, Nat.mul_comm (10 ^ r.length) 10, ← Nat.mul_assoc]
    exact Nat.le_trans (Nat.mul_le_mul_right _ (by omega)) h
/-- a written number is its digits' text exactly if no zero leads -/
theorem num_text {l : List Nat} (hd : NumText.AllDigits l) (hl : 0 < l.length) (h0 : l.length = 1 ∨ l.headD 0 ≠ 48) : TL.numL (NumText.digitsVal l) = l := by
  obtain ⟨n, hn⟩ : ∃ n, l.length = n + 1 := ⟨l.length - 1, by omega⟩
  have h := NumText.toDigits_digitsVal n l hn hd (by
    rcases h0 with h | h
    · left; omega
    · right
      cases l with
      | nil => simp at hl
      | cons c r =>
        have hc : 48 ≤ c ∧ c ≤ 57 := hd c (List.mem_cons_self ..)
        have h' : c ≠ 48 := h
        exact ⟨c, r, rfl, by omega⟩)
  unfold TL.numL
  rw [h, List.map_map]
  conv => rhs; rw [← List.map_id l]
  refine List.map_congr_left fun c hc => ?_
  have hb := hd c hc
  show (Char.ofNat c).toNat = c
  have : ∀ c, c ≤ 57 → (Char.ofNat c).toNat = c := by decide +kernel
  exact this c hb.2
theorem num_lead {l : List Nat} (hd : NumText.AllDigits l) (h : TL.numL (NumText.digitsVal l) = l) : 0 < l.length ∧ (l.length = 1 ∨ l.headD 0 ≠ 48) := by
  have hne := TL.numL_ne (NumText.digitsVal l)
  rw [h] at hne
  refine ⟨List.length_pos_iff.mpr hne, ?_⟩
  cases l with
  | nil => exact absurd rfl hne
  | cons c r =>
    by_cases hc : c = 48
    · left
      subst hc
      rw [NumText.digitsVal_zero] at h
      -- the text of the rest's value is one sign longer than it can be
      cases r with
      | nil => rfl
      | cons d r2 =>
        exfalso
        have hlen := congrArg List.length h
        have hv : NumText.digitsVal (d :: r2) < 10 ^ (d :: r2).length := digits_lt _ fun z hz => hd z (List.mem_cons_of_mem _ hz)
        have := TL.numL_len (k := (d :: r2).length) (by simp) hv
        rw [hlen] at this
        simp at this; omega
    · right; exact hc
theorem digits_big {l : List Nat} (hd : NumText.AllDigits l) (h0 : l.headD 0 ≠ 48) (hl : 6 ≤ l.length) : 65535 < NumText.digitsVal l := by
  cases l with
  | nil => simp at hl
  | cons c r =>
    have hc : 48 ≤ c ∧ c ≤ 57 := hd c (List.mem_cons_self ..)
    have h' : c ≠ 48 := h0
    have h1 := digits_ge r (c - 48) 
    have h2 : NumText.digitsVal (c :: r) = r.foldl (fun acc c => acc * 10 + (c - 48)) (c - 48) := by
      show r.foldl _ (0 * 10 + (c - 48)) = _
      rw [Nat.zero_mul, Nat.zero_add]
    rw [h2]
    have h3 : 10 ^ 5 ≤ 10 ^ r.length := Nat.pow_le_pow_right (by decide) (by simp at hl; omega)
    have h4 : 1 * 10 ^ 5 ≤ (c - 48) * 10 ^ r.length := Nat.mul_le_mul (by omega) h3
    have h5 : (10 : Nat) ^ 5 = 100000 := by decide
    omega

set_option exponentiation.threshold 100000
def sp_is_name : Sp := fun vs H Q _ => ∃ z : Str, vs = [.str z] ∧ z.length ≤ 1000 ∧ Q (.bl (nameB z)) H
def sp_number_of : Sp := fun vs H Q _ => ∃ z : Str, vs = [.str z] ∧ z.length ≤ 1000 ∧ Q (numV z) H
def sp_law_number_of : Sp := fun vs H Q _ => ∃ z : Str, vs = [.str z] ∧ z.length ≤ 500 ∧ Q (numV z) H
def sp_law_keys : Sp := fun vs H Q _ => vs = [] ∧ ∀ l H', H l = none → H' l = some (.lst (kwL.map V.str)) → Keep [] H H' → Q (.ref l) H'
theorem and4 {a b c d : Bool} (h : a = true → b = true → c = true → d = true → False) : (a && b && c && d) = false := by
  cases a <;> cases b <;> cases c <;> cases d <;> simp_all
section
variable {P : Program} {w : World} {K : PySem.W.Frag} {mg : Str → Option Value} {base : Heap} {T_KEYWORDS : Addr}
theorem ok_is_name {f : Addr} {fd : FuncData} (D : C8.Def K mg "is_name" s_is_name f fd) (b : Binds K fd ["word"] []) (T : Txt K mg T_KEYWORDS) : C8.Cal P w K mg base 1 "is_name" sp_is_name [] := by
  refine cal0 D b .nil sc_is_name (fun vs H Q E h => ?_) (fun cdv A outer s H vs Q E hr h => ?_)
  · obtain ⟨z, rfl, _⟩ := h
    rfl
  · obtain ⟨z, rfl, hz, k⟩ := h
    refine ⟨_, (pss_cons (ps_if (PW.pt (pw_or (pt_cmpR op_in_seq (pv 0) (pe_gc rfl T.v_KEYWORDS) (by rfl)) (pw_or1 (pt_not (pt_chain op_le op_le pe_int (pe_callB call_len_str (by rfl) T.n_len bo_len (pa_cons (pv 0) pa_nil)) (pe_gc rfl T.v_LONGEST_NAME))))))
  (pss_one (ps_ret pe_bl))
  pss_nil)
(pss_cons (ps_if (pt_cmpR op_notIn_sign (pe_ix ix_str (pv 0) pe_int (fun _ _ => rfl)) (pe_gc rfl T.v_LETTERS) (by rfl))
  (pss_one (ps_ret pe_bl))
  pss_nil)
(pss_cons (ps_for PassesOwn.never rfl (pi_str (pv 0)) (pg_name (i := 1) sc_is_name.nd rfl (by first | exact Or.inl rfl | exact Or.inr rfl))
  (pss_one (ps_if (PW.pt (pw_and (pt_cmpR op_notIn_sign (pv 1) (pe_gc rfl T.v_LETTERS) (by rfl)) (pw_and1 (pt_cmpR op_notIn_sign (pv 1) (pe_gc rfl T.v_DIGITS) (by rfl)))))
    (pss_one (ps_ret pe_bl))
    pss_nil)))
(pss_one (ps_ret pe_bl))))), ?_⟩
    have no : nameB z = false → Q (.bl false) H := fun e => by rw [e] at k; exact k
    have kk : (if false = true then !inV (V.str z) (kwL.map V.str) else inV (V.str z) (kwL.map V.str)) = kwB z := rfl
    refine ⟨_, rfl, _, _, rfl, .inr (T.q_KEYWORDS H), rfl, by rfl, _, rfl, iteB (fun e => ?_) (fun e => ?_)⟩
    · refine no ?_
      have e' : kwB z = true := e
      unfold nameB; rw [e']; simp
    have e' : kwB z = false := e
    refine ⟨_, rfl, z, rfl, smallM (by omega), _, _, rfl, rfl, _, rfl, iteD (fun h1 => ?_) (fun h1 => ⟨_, rfl, iteT (no ?_)⟩)⟩
    rotate_left
    · unfold nameB
      rw [decide_eq_false (fun q => h1 (by omega))]; simp
    refine ⟨_, _, rfl, rfl, _, rfl, iteN (fun h2 => no ?_) (fun h2 => ?_)⟩
    · unfold nameB
      rw [decide_eq_false (fun q => h2 (by omega))]; simp
    have hl : 1 ≤ z.length ∧ z.length ≤ 12 := ⟨by omega, by omega⟩
    have hl2 : 0 < (TL.tl z).length := by rw [len_cps]; omega
    obtain ⟨c0, r, hcs⟩ : ∃ c r, TL.tl z = c :: r := by
      cases q : TL.tl z with
      | nil => rw [q] at hl2; simp at hl2
      | cons c r => exact ⟨c, r, rfl⟩
    have hhd : (TL.tl z).headD 0 = c0 := by rw [hcs]; rfl
    refine ⟨_, rfl, _, _, c0, rfl, rfl, smallM (by omega), (by show atI (TL.tl z) 0 = some c0; rw [hcs]; exact atI_nat (j := 0) rfl), _, _, rfl, rfl, _, rfl, iteB (fun e1 => no ?_) (fun e1 => ?_)⟩
    · rw [mem_letters] at e1
      have e2 : isL c0 = false := by simpa using e1
      unfold nameB; rw [hhd, e2]; simp
    rw [mem_letters] at e1
    have e2 : isL c0 = true := by simpa using e1
    refine ⟨_, rfl, _, rfl, for_it walk_str (fun i σ H' => H' = H ∧ (∃ o, σ = [some (.str z), o]) ∧ ∀ j c, j < i → (TL.tl z)[j]? = some c → (isL c || isD c) = true)
      ⟨rfl, ⟨none, rfl⟩, fun j c q => absurd q (Nat.not_lt_zero _)⟩ (fun _ _ _ _ _ => trivial) ?_ ?_⟩
    · rintro i x σ H' H'' hi ⟨rfl, ⟨o, rfl⟩, hall⟩ ⟨rfl, c, hc, rfl⟩
      have hcc : (TL.tl z)[i]? = some c := by rw [← hc]; exact Array.getElem?_toList
      have step : (isL c || isD c) = true → ∀ j c', j < i + 1 → (TL.tl z)[j]? = some c' → (isL c' || isD c') = true := fun h j c' hj hg => by
        by_cases q : j < i
        · exact hall j c' q hg
        · have : j = i := by omega
          subst this
          rw [hcc] at hg; cases hg; exact h
      refine ⟨_, rfl, _, _, rfl, rfl, _, rfl, iteB (fun e3 => ?_) (fun e3 => ?_)⟩
      · rw [mem_letters] at e3
        refine ⟨_, rfl, _, _, rfl, rfl, _, rfl, iteB (fun e4 => no ?_) (fun e4 => ?_)⟩
        · rw [mem_digits] at e4
          have : (TL.tl z).all (fun c => isL c || isD c) = false := by
            refine Bool.eq_false_iff.mpr fun q => ?_
            have := List.all_eq_true.mp q c (List.mem_of_getElem? hcc)
            simp_all
          unfold nameB; rw [this]; simp
        · rw [mem_digits] at e4
          exact ⟨rfl, ⟨_, rfl⟩, step (by simp_all)⟩
      · rw [mem_letters] at e3
        exact ⟨rfl, ⟨_, rfl⟩, step (by simp_all)⟩
    · rintro σ H' ⟨rfl, ⟨o, rfl⟩, hall⟩
      have : nameB z = true := by
        unfold nameB
        rw [decide_eq_true hl, e', hhd, e2]
        have : (TL.tl z).all (fun c => isL c || isD c) = true := List.all_eq_true.mpr fun c hc => by
          obtain ⟨j, hj, rfl⟩ := List.getElem_of_mem hc
          refine hall j _ ?_ (List.getElem?_eq_getElem hj)
          have : z.cps.size = (TL.tl z).length := by rw [Array.length_toList]
          omega
        rw [this]; rfl
      rw [this] at k; exact k
theorem ok_number_of {f : Addr} {fd : FuncData} (D : C8.Def K mg "number_of" s_number_of f fd) (b : Binds K fd ["word"] []) (T : Txt K mg T_KEYWORDS) : C8.Cal P w K mg base 1 "number_of" sp_number_of [] := by
  refine cal0 D b .nil sc_number_of (fun vs H Q E h => ?_) (fun cdv A outer s H vs Q E hr h => ?_)
  · obtain ⟨z, rfl, _⟩ := h
    rfl
  · obtain ⟨z, rfl, hz, k⟩ := h
    refine ⟨_, (pss_cons (ps_if (pt_not (pt_chain op_le op_le pe_int (pe_callB call_len_str (by rfl) T.n_len bo_len (pa_cons (pv 0) pa_nil)) (pe_callB call_len_str (by rfl) T.n_len bo_len (pa_cons (pe_callTy call_str_int (by rfl) T.n_str bo_str (pa_cons (pe_gc rfl T.v_GREATEST) pa_nil)) pa_nil))))
  (pss_one (ps_ret pe_non))
  pss_nil)
(pss_cons (ps_for PassesOwn.never rfl (pi_str (pv 0)) (pg_name (i := 1) sc_number_of.nd rfl (by first | exact Or.inl rfl | exact Or.inr rfl))
  (pss_one (ps_if (pt_cmpR op_notIn_sign (pv 1) (pe_gc rfl T.v_DIGITS) (by rfl))
    (pss_one (ps_ret pe_non))
    pss_nil)))
(pss_cons (ps_if (PW.pt (pw_and (pt_cmpR op_eq (pe_ix ix_str (pv 0) pe_int (fun _ _ => rfl)) pe_str (nomark _)) (pw_and1 (pt_cmpR op_gt (pe_callB call_len_str (by rfl) T.n_len bo_len (pa_cons (pv 0) pa_nil)) pe_int (nomark _)))))
  (pss_one (ps_ret pe_non))
  pss_nil)
(pss_cons (ps_set (i := 2) sc_number_of.nd rfl (by first | exact Or.inl rfl | exact Or.inr rfl) (pe_callTy call_int_str (by rfl) T.n_int bo_int (pa_cons (pv 0) pa_nil)))
(pss_cons (ps_if (pt_cmpR op_gt (pv 2) (pe_gc rfl T.v_GREATEST) (nomark _))
  (pss_one (ps_ret pe_non))
  pss_nil)
(pss_one (ps_ret (pv 2)))))))), ?_⟩
    have no : numGood z = false → Q .non H := fun e => by unfold numV at k; rw [e] at k; exact k
    have e5 : (Str.ofString (toString (65535 : Int))).length = 5 := by decide +kernel
    refine ⟨_, rfl, z, rfl, smallM (by omega), _, _, rfl, rfl, _, rfl, iteD (fun h1 => ?_) (fun h1 => ⟨_, rfl, iteT (no ?_)⟩)⟩
    rotate_left
    · unfold numGood
      rw [decide_eq_false (fun q => h1 (by omega))]; simp
    refine ⟨_, rfl, by decide +kernel, _, rfl, by rw [e5]; exact smallM (by decide), _, _, rfl, rfl, _, rfl, iteN (fun h2 => no ?_) (fun h2 => ?_)⟩
    · rw [e5] at h2
      unfold numGood
      rw [decide_eq_false (fun q => h2 (by omega))]; simp
    rw [e5] at h2
    have hl : 1 ≤ z.length ∧ z.length ≤ 5 := ⟨by omega, by omega⟩
    refine ⟨_, rfl, _, rfl, for_it walk_str (fun i σ H' => H' = H ∧ (∃ o, σ = [some (.str z), o, none]) ∧ ∀ j c, j < i → (TL.tl z)[j]? = some c → isD c = true)
      ⟨rfl, ⟨none, rfl⟩, fun j c q => absurd q (Nat.not_lt_zero _)⟩ (fun _ _ _ _ _ => trivial) ?_ ?_⟩
    · rintro i x σ H' H'' hi ⟨rfl, ⟨o, rfl⟩, hall⟩ ⟨rfl, c, hc, rfl⟩
      have hcc : (TL.tl z)[i]? = some c := by rw [← hc]; exact Array.getElem?_toList
      refine ⟨_, rfl, _, _, rfl, rfl, _, rfl, iteB (fun e4 => no ?_) (fun e4 => ?_)⟩
      · rw [mem_digits] at e4
        have : (TL.tl z).all isD = false := by
          refine Bool.eq_false_iff.mpr fun q => ?_
          have := List.all_eq_true.mp q c (List.mem_of_getElem? hcc)
          simp_all
        unfold numGood; rw [this]; simp
      · rw [mem_digits] at e4
        refine ⟨rfl, ⟨_, rfl⟩, fun j c' hj hg => ?_⟩
        by_cases q : j < i
        · exact hall j c' q hg
        · have : j = i := by omega
          subst this
          rw [hcc] at hg; cases hg; simp_all
    · rintro σ H' ⟨rfl, ⟨o, rfl⟩, hall⟩
      have hA : (TL.tl z).all isD = true := List.all_eq_true.mpr fun c hc => by
        obtain ⟨j, hj, rfl⟩ := List.getElem_of_mem hc
        refine hall j _ ?_ (List.getElem?_eq_getElem hj)
        have : z.cps.size = (TL.tl z).length := by rw [Array.length_toList]
        omega
      have hl2 : 0 < (TL.tl z).length := by rw [len_cps]; omega
      obtain ⟨c0, r, hcs⟩ : ∃ c r, TL.tl z = c :: r := by
        cases q : TL.tl z with
        | nil => rw [q] at hl2; simp at hl2
        | cons c r => exact ⟨c, r, rfl⟩
      have hhd : (TL.tl z).headD 0 = c0 := by rw [hcs]; rfl
      have e48 : ((⟨#[c0]⟩ : Str) = "0") ↔ c0 = 48 := by
        constructor
        · intro q
          have := congrArg (fun x : Str => x.cps.toList) q
          rw [cp_0] at this
          exact (List.cons.inj this).1
        · intro q; subst q; decide +kernel
      have hint : PySem.intText? z = some ((NumText.digitsVal (TL.tl z) : Nat) : Int) := by
        have := int_S (a := TL.tl z) (by
          rw [List.all_eq_true] at hA ⊢
          intro c hc
          have := hA c hc
          unfold isD at this
          rw [← Bool.decide_and]; exact this) (by rw [hcs]; simp) (by rw [len_cps]; omega)
        rw [S_tl] at this
        exact this
      -- behind the look for a leading zero
      have tail : (z.length = 1 ∨ c0 ≠ 48) → ∀ (D : Ends), D = { nx := fun _ H' => Q .non H', rt := Q } → True := fun _ _ _ => trivial
      have lead : ¬ (z.length = 1 ∨ c0 ≠ 48) → Q .non H' := fun q => no (by
        unfold numGood
        rw [hhd, decide_eq_false (p := z.length = 1) (fun x => q (.inl x)), decide_eq_false (p := c0 ≠ 48) (fun x => q (.inr x))]; simp)
      refine ⟨_, rfl, _, _, c0, rfl, rfl, smallM (by omega), (by show atI (TL.tl z) 0 = some c0; rw [hcs]; exact atI_nat (j := 0) rfl), rfl, _, rfl, iteD (fun e1 => ?_) (fun e1 => ?_)⟩
      · refine ⟨_, rfl, z, rfl, smallM (by omega), _, _, rfl, rfl, _, rfl, iteD (fun e2 => lead ?_) (fun e2 => ?_)⟩
        · rintro (q | q)
          · omega
          · exact q (e48.mp (V.str.inj e1))
        · have hlead : z.length = 1 ∨ c0 ≠ 48 := .inl (by omega)
          refine ⟨_, rfl, _, _, rfl, hint, by omega, _, rfl, _, _, rfl, rfl, _, rfl, iteD (fun e3 => no ?_) (fun e3 => ?_)⟩
          · unfold numGood; rw [decide_eq_false (p := NumText.digitsVal (TL.tl z) ≤ 65535) (by omega)]; simp
          · have : numGood z = true := by
              unfold numGood
              rw [decide_eq_true hl, hA, hhd, decide_eq_true (p := NumText.digitsVal (TL.tl z) ≤ 65535) (by omega), decide_eq_true (p := z.length = 1) (by omega)]; rfl
            unfold numV at k; rw [this] at k
            exact ⟨_, rfl, k⟩
      · have hlead : c0 ≠ 48 := fun q => e1 (congrArg V.str (e48.mpr q))
        refine ⟨_, rfl, _, _, rfl, hint, by omega, _, rfl, _, _, rfl, rfl, _, rfl, iteD (fun e3 => no ?_) (fun e3 => ?_)⟩
        · unfold numGood; rw [decide_eq_false (p := NumText.digitsVal (TL.tl z) ≤ 65535) (by omega)]; simp
        · have : numGood z = true := by
            unfold numGood
            rw [decide_eq_true hl, hA, hhd, decide_eq_true (p := NumText.digitsVal (TL.tl z) ≤ 65535) (by omega), decide_eq_true (p := c0 ≠ 48) hlead]; simp
          unfold numV at k; rw [this] at k
          exact ⟨_, rfl, k⟩
theorem ok_law_number_of {f : Addr} {fd : FuncData} (D : C8.Def K mg "_law_number_of" s_law_number_of f fd) (b : Binds K fd ["word"] []) (T : Txt K mg T_KEYWORDS) : C8.Cal P w K mg base 1 "_law_number_of" sp_law_number_of [] := by
  refine cal0 D b .nil sc_law_number_of (fun vs H Q E h => ?_) (fun cdv A outer s H vs Q E hr h => ?_)
  · obtain ⟨z, rfl, _⟩ := h
    rfl
  · obtain ⟨z, rfl, hz, k⟩ := h
    refine ⟨_, (pss_cons (ps_set (i := 1) sc_law_number_of.nd rfl (by first | exact Or.inl rfl | exact Or.inr rfl) pe_int)
(pss_cons (ps_for PassesOwn.never rfl (pi_str (pv 0)) (pg_name (i := 2) sc_law_number_of.nd rfl (by first | exact Or.inl rfl | exact Or.inr rfl))
  (pss_cons (ps_if (pt_not (pt_chain op_le_str op_le_str pe_str (pv 2) pe_str))
    (pss_one (ps_ret pe_non))
    pss_nil)
  (pss_one (ps_set (i := 1) sc_law_number_of.nd rfl (by first | exact Or.inl rfl | exact Or.inr rfl) (pe_op op_sub (pe_op op_add (pe_op op_mul (pv 1) pe_int) (pe_callB call_ord (by rfl) T.n_ord bo_ord (pa_cons (pv 2) pa_nil))) pe_int)))))
(pss_cons (ps_if (PW.pt (pw_or (pt_cmpR op_ne (pe_callTy call_str_int (by rfl) T.n_str bo_str (pa_cons (pv 1) pa_nil)) (pv 0) (nomark _)) (pw_or1 (pt_cmpR op_gt (pv 1) pe_int (nomark _)))))
  (pss_one (ps_ret pe_non))
  pss_nil)
(pss_one (ps_ret (pv 1)))))), ?_⟩
    have no : numGood z = false → Q .non H := fun e => by unfold numV at k; rw [e] at k; exact k
    refine ⟨_, rfl, _, rfl, for_it walk_str (fun i σ H' => H' = H ∧ (∃ o, σ = [some (.str z), some (.int ((NumText.digitsVal ((TL.tl z).take i) : Nat) : Int)), o]) ∧ ((TL.tl z).take i).all isD = true)
      ⟨rfl, ⟨none, rfl⟩, rfl⟩ (fun _ _ _ _ _ => trivial) ?_ ?_⟩
    · rintro i x σ H' H'' hi ⟨rfl, ⟨o, rfl⟩, hall⟩ ⟨rfl, c, hc, rfl⟩
      have hcc : (TL.tl z)[i]? = some c := by rw [← hc]; exact Array.getElem?_toList
      have bad : isD c = false → Q .non H'' := fun q => no (by
        have : (TL.tl z).all isD = false := by
          refine Bool.eq_false_iff.mpr fun q' => ?_
          have := List.all_eq_true.mp q' c (List.mem_of_getElem? hcc)
          rw [q] at this; cases this
        unfold numGood; rw [this]; simp)
      refine ⟨_, rfl, _, _, rfl, rfl, _, rfl, iteB (fun e1 => ?_) (fun e1 => ?_)⟩
      · rw [le_sign "0" 48 c cp_0] at e1
        refine ⟨_, _, rfl, rfl, _, rfl, iteB (fun e2 => ?_) (fun e2 => ?_)⟩
        · have e2' : (!decide (("9" : Str).cps.toList < (⟨#[c]⟩ : Str).cps.toList)) = false := by simpa using e2
          rw [ge_sign "9" 57 c cp_9] at e2'
          exact bad (by unfold isD; refine decide_eq_false fun q => ?_; have := of_decide_eq_false e2'; omega)
        · have e2' : (!decide (("9" : Str).cps.toList < (⟨#[c]⟩ : Str).cps.toList)) = true := by simpa using e2
          rw [ge_sign "9" 57 c cp_9] at e2'
          have h1 := of_decide_eq_true e1
          have h2 := of_decide_eq_true e2'
          refine ⟨_, rfl, _, _, rfl, rfl, .inr ⟨by decide, by decide⟩, _, rfl, _, rfl, rfl, _, _, rfl, rfl, _, _, rfl, rfl, ?_⟩
          have et : (TL.tl z).take (i + 1) = (TL.tl z).take i ++ [c] := by rw [List.take_add_one, hcc]; rfl
          refine ⟨rfl, ⟨some (.str ⟨#[c]⟩), ?_⟩, ?_⟩
          · rw [et, NumText.digitsVal_snoc]
            have : ((NumText.digitsVal ((TL.tl z).take i) : Nat) : Int) * 10 + ((((⟨#[c]⟩ : Str).cps.getD 0 0 : Nat)) : Int) - 48 = ((NumText.digitsVal ((TL.tl z).take i) * 10 + (c - 48) : Nat) : Int) := by
              have : (⟨#[c]⟩ : Str).cps.getD 0 0 = c := rfl
              rw [this]; omega
            rw [← this]; rfl
          · rw [et, List.all_append, hall]
            simp only [List.all_cons, List.all_nil, Bool.and_true, Bool.true_and]
            unfold isD; exact decide_eq_true ⟨h1, h2⟩
      · rw [le_sign "0" 48 c cp_0] at e1
        refine ⟨_, rfl, iteT (bad ?_)⟩
        unfold isD; refine decide_eq_false fun q => ?_; have := of_decide_eq_false e1; omega
    · rintro σ H' ⟨rfl, ⟨o, rfl⟩, hall⟩
      have hsz : z.cps.size = (TL.tl z).length := by rw [Array.length_toList]
      rw [hsz, List.take_length] at hall ⊢
      have hD := allD.mp hall
      have hlt := digits_lt _ hD
      have hlog : ((NumText.digitsVal (TL.tl z) : Nat) : Int).natAbs.log2 < 1920 := by
        rw [Int.natAbs_natCast]
        refine PySem.Flt.log2_lt_of (by decide) (Nat.lt_of_lt_of_le hlt ?_)
        have h1 : (10 : Nat) ^ (TL.tl z).length ≤ 10 ^ 500 := Nat.pow_le_pow_right (by decide) (by rw [len_cps]; omega)
        have h2 : (10 : Nat) ^ 500 ≤ 2 ^ 1920 := by decide +kernel
        omega
      refine ⟨_, rfl, _, rfl, hlog, _, rfl, rfl, _, rfl, iteN (fun e1 => no ?_) (fun e1 => ?_)⟩
      · rw [num_S] at e1
        unfold numGood
        by_cases q1 : 1 ≤ z.length ∧ z.length ≤ 5
        · by_cases q2 : z.length = 1 ∨ (TL.tl z).headD 0 ≠ 48
          · exfalso
            refine e1 (congrArg V.str ?_)
            rw [num_text hD (by rw [len_cps]; omega) (by rw [len_cps]; exact q2)]
          · rw [decide_eq_false (p := z.length = 1) (fun x => q2 (.inl x)), decide_eq_false (p := (TL.tl z).headD 0 ≠ 48) (fun x => q2 (.inr x))]; simp
        · rw [decide_eq_false q1]; simp
      · rw [num_S] at e1
        have e1' : TL.numL (NumText.digitsVal (TL.tl z)) = TL.tl z := by
          have := V.str.inj e1
          exact congrArg (fun x : Str => x.cps.toList) this
        obtain ⟨q1, q2⟩ := num_lead hD e1'
        rw [len_cps] at q1 q2
        refine ⟨_, rfl, _, _, rfl, rfl, _, rfl, iteD (fun e3 => no ?_) (fun e3 => ?_)⟩
        · unfold numGood; rw [decide_eq_false (p := NumText.digitsVal (TL.tl z) ≤ 65535) (by omega)]; simp
        · have hlen : z.length ≤ 5 := by
            rcases q2 with q2 | q2
            · omega
            · by_cases q6 : 6 ≤ z.length
              · have := digits_big hD q2 (by rw [len_cps]; exact q6)
                omega
              · omega
          have : numGood z = true := by
            unfold numGood
            rw [decide_eq_true (p := 1 ≤ z.length ∧ z.length ≤ 5) ⟨by omega, hlen⟩, hall, decide_eq_true (p := NumText.digitsVal (TL.tl z) ≤ 65535) (by omega)]
            rcases q2 with q2 | q2
            · rw [decide_eq_true q2]; rfl
            · rw [decide_eq_true q2]; simp
          unfold numV at k; rw [this] at k
          exact ⟨_, rfl, k⟩
end

/-! texts: joined, split at blanks -/
theorem joinL_len (s : List Nat) : ∀ l : List (List Nat), (TL.joinL s l).length ≤ (l.map (·.length)).sum + l.length * s.length
  | [] => by simp [TL.joinL]
  | [p] => by simp [TL.joinL]
  | p :: q :: r => by
    have ih := joinL_len s (q :: r)
    show (p ++ (s ++ TL.joinL s (q :: r))).length ≤ _
    rw [List.length_append, List.length_append, List.map_cons, List.sum_cons, List.length_cons (a := p), Nat.add_mul, Nat.one_mul]
    omega
theorem lens_tl (ys : List Str) : (ys.map TL.tl).map (·.length) = ys.map (·.length) := by
  rw [List.map_map]
  exact List.map_congr_left fun y _ => (TL.len_tl y).symm
theorem join_len (y : Str) (ys : List Str) : (Txt.join y ys).length ≤ (ys.map (·.length)).sum + ys.length * y.length := by
  rw [TL.len_tl, TL.join_eq, TL.tl_join]
  have h := joinL_len (TL.tl y) (ys.map TL.tl)
  rw [lens_tl, List.length_map, ← TL.len_tl] at h
  exact h
theorem pre32 (c : Nat) (r : List Nat) : TL.pre [32] (c :: r) = decide (c = 32) := by
  unfold TL.pre
  show ([c] == [32]) = _
  by_cases h : c = 32
  · subst h; rfl
  · rw [decide_eq_false h]
    refine Bool.eq_false_iff.mpr fun q => h ?_
    have := eq_of_beq q
    exact (List.cons.inj this).1
theorem spl32_hit (acc r : List Nat) : TL.spl [32] 0 acc (32 :: r) = acc :: TL.spl [32] 0 [] r := TL.spl_hit (by rw [pre32]; rfl)
theorem spl32_miss {c : Nat} (h : ¬ c = 32) (acc r : List Nat) : TL.spl [32] 0 acc (c :: r) = TL.spl [32] 0 (acc ++ [c]) r := TL.spl_miss (by rw [pre32, decide_eq_false h])
theorem spl32_ne (l : List Nat) : ∀ acc, TL.spl [32] 0 acc l ≠ [] := by
  induction l with
  | nil => intro acc; rw [TL.spl_nil]; simp
  | cons c r ih =>
    intro acc
    by_cases h : c = 32
    · subst h; rw [spl32_hit]; simp
    · rw [spl32_miss h]; exact ih _
theorem join_spl32 (l : List Nat) : ∀ acc, TL.joinL [32] (TL.spl [32] 0 acc l) = acc ++ l := by
  induction l with
  | nil => intro acc; rw [TL.spl_nil, List.append_nil]; rfl
  | cons c r ih =>
    intro acc
    by_cases h : c = 32
    · subst h
      rw [spl32_hit]
      have e := ih []
      cases q : TL.spl [32] 0 [] r with
      | nil => exact absurd q (spl32_ne r [])
      | cons a b =>
        rw [q] at e
        show acc ++ ([32] ++ TL.joinL [32] (a :: b)) = _
        rw [e]; simp
    · rw [spl32_miss h, ih]; simp
theorem sum_spl32 (l : List Nat) : ∀ acc, ((TL.spl [32] 0 acc l).map (·.length)).sum + (TL.spl [32] 0 acc l).length = acc.length + l.length + 1 := by
  induction l with
  | nil => intro acc; rw [TL.spl_nil]; simp
  | cons c r ih =>
    intro acc
    by_cases h : c = 32
    · subst h
      rw [spl32_hit]
      have e := ih []
      simp only [List.map_cons, List.sum_cons, List.length_cons, List.length_nil] at e ⊢
      omega
    · rw [spl32_miss h, ih]; simp; omega
/-- the words of a text -/
def wordsOf (t : Str) : List Str := if t.length = 0 then [] else (TL.spl [32] 0 [] (TL.tl t)).map S
theorem sp_eq : (" " : Str) = S [32] := by decide +kernel
theorem tl_sp : TL.tl (" " : Str) = [32] := by decide +kernel
theorem split_words_eq (t : Str) : Txt.split t " " = (TL.spl [32] 0 [] (TL.tl t)).map S := by
  have e := split_S (a := TL.tl t) (b := [32]) (by simp) (by decide)
  rw [S_tl] at e
  rw [sp_eq]; exact e
theorem nil_of_len {t : Str} (h : t.length = 0) : TL.tl t = [] := by
  rw [TL.len_tl] at h
  exact List.eq_nil_of_length_eq_zero h
theorem join_words_eq (t : Str) : Txt.join " " (wordsOf t) = t := by
  refine TL.ext_tl ?_
  rw [TL.join_eq, TL.tl_join, tl_sp]
  unfold wordsOf
  split
  · rename_i h; rw [nil_of_len h]; rfl
  · rw [map_S_tl, join_spl32]; rfl
theorem words_sum (t : Str) : ((wordsOf t).map (·.length)).sum + (wordsOf t).length ≤ t.length + 1 := by
  unfold wordsOf
  split
  · simp
  · rw [lens, List.length_map, sum_spl32, TL.len_tl]; simp

/-- the law's own look, sign by sign -/
def okTo (l : List Nat) : Nat → Bool
  | 0 => true
  | i + 1 => okTo l i && (isL (l.getD i 0) || (decide (0 < i) && isD (l.getD i 0)))
theorem okTo_iff (l : List Nat) : ∀ n, okTo l n = true ↔ ∀ j, j < n → (isL (l.getD j 0) || (decide (0 < j) && isD (l.getD j 0))) = true
  | 0 => ⟨fun _ j h => absurd h (Nat.not_lt_zero j), fun _ => rfl⟩
  | n + 1 => by
    show (okTo l n && (isL (l.getD n 0) || (decide (0 < n) && isD (l.getD n 0)))) = true ↔ _
    rw [Bool.and_eq_true, okTo_iff l n]
    constructor
    · rintro ⟨h1, h2⟩ j hj
      by_cases q : j < n
      · exact h1 j q
      · have : j = n := by omega
        subst this; exact h2
    · intro h
      exact ⟨fun j hj => h j (by omega), h n (by omega)⟩
theorem name_eqL (l : List Nat) (kb : Bool) : ((decide (1 ≤ l.length ∧ l.length ≤ 12) && !kb) && okTo l l.length) = (decide (1 ≤ l.length ∧ l.length ≤ 12) && !kb && isL (l.headD 0) && l.all (fun c => isL c || isD c)) := by
  by_cases h : 1 ≤ l.length ∧ l.length ≤ 12
  · rw [decide_eq_true h]
    cases kb with
    | true => rfl
    | false =>
      simp only [Bool.not_false, Bool.and_true, Bool.true_and]
      rw [Bool.eq_iff_iff, okTo_iff, Bool.and_eq_true, List.all_eq_true]
      have hget : ∀ j (hj : j < l.length), l.getD j 0 = l[j] := fun j hj => by rw [List.getD_eq_getElem?_getD, List.getElem?_eq_getElem hj]; rfl
      have hhd : l.headD 0 = l.getD 0 0 := by cases l <;> rfl
      constructor
      · intro hh
        constructor
        · have := hh 0 (by omega)
          rw [hhd]
          simpa using this
        · intro c hc
          obtain ⟨j, hj, e⟩ := List.getElem_of_mem hc
          have h9 := hh j hj
          rw [hget j hj, e] at h9
          cases e1 : isL c with
          | true => rfl
          | false =>
            rw [e1, Bool.false_or, Bool.and_eq_true] at h9
            rw [h9.2]; rfl
      · rintro ⟨h1, h2⟩ j hj
        have h9 := h2 _ (List.getElem_mem hj)
        rw [← hget j hj] at h9
        cases j with
        | zero =>
          rw [hhd] at h1
          rw [h1]; rfl
        | succ j =>
          rw [decide_eq_true (p := 0 < j + 1) (by omega), Bool.true_and]; exact h9
  · rw [decide_eq_false h]; rfl
theorem name_eq (z : Str) : ((decide (1 ≤ z.length ∧ z.length ≤ 12) && !(kwB z)) && okTo (TL.tl z) z.length) = nameB z := by
  have h := name_eqL (TL.tl z) (kwB z)
  rw [len_cps] at h
  exact h
def sp_law_is_name : Sp := fun vs H Q _ => ∃ z : Str, vs = [.str z] ∧ z.length ≤ 1000 ∧ ∀ H', Keep [] H H' → Q (.bl (nameB z)) H'
theorem ones_sum : ∀ l : List Str, (∀ y ∈ l, y.length = 1) → (l.map (·.length)).sum = l.length
  | [], _ => rfl
  | a :: r, h => by rw [List.map_cons, List.sum_cons, ones_sum r fun y hy => h y (List.mem_cons_of_mem _ hy), h a (List.mem_cons_self ..), List.length_cons]; omega
theorem kw_short : ∀ y, y ∈ kwL → y.length ≤ 6 := by decide +kernel
theorem keys_text : Txt.split (("option on off var round end set if else when draw first second show both pay take pick mod player keep lot" : Str) ++ (" while answer view long" : Str)) " " = kwL := by decide +kernel
def sp_law_word : Sp := fun vs H Q _ => ∃ p q ns, vs = [.ref p] ∧ Pool H p q ns ∧ ∀ (z : Str) H', z.length ≤ 200 → Pool H' p q ns → Keep [p] H H' → Q (.str z) H'
def sp_law_spoilt : Sp := fun vs H Q _ => ∃ (p q : Addr) (ns : List Int) (z : Str), vs = [.ref p, .str z] ∧ z.length ≤ 100 ∧ Pool H p q ns ∧ ∀ (y : Str) H', y.length ≤ z.length + 4 → Pool H' p q ns → Keep [p] H H' → Q (.str y) H'
theorem len_app (a b : Str) : (a ++ b).length = a.length + b.length := by rw [TL.len_tl, TL.tl_append, List.length_append, ← TL.len_tl, ← TL.len_tl]
section
variable {P : Program} {w : World} {K : PySem.W.Frag} {mg : Str → Option Value} {base : Heap} {T_KEYWORDS : Addr}
theorem ok_law_keys {f : Addr} {fd : FuncData} (D : C8.Def K mg "_law_keys" s_law_keys f fd) (b : Binds K fd [] []) (T : Txt K mg T_KEYWORDS) : C8.Cal P w K mg base 1 "_law_keys" sp_law_keys [] := by
  refine cal0 D b .nil sc_law_keys (fun vs H Q E h => ?_) (fun cdv A outer s H vs Q E hr h => ?_)
  · obtain ⟨rfl, _⟩ := h
    rfl
  · obtain ⟨rfl, k⟩ := h
    refine ⟨_, (pss_cons (ps_set (i := 0) sc_law_keys.nd rfl (by first | exact Or.inl rfl | exact Or.inr rfl) pe_str)
(pss_one (ps_ret (pe_split (pe_op op_add_str (pv 0) pe_str) pe_str)))), ?_⟩
    refine ⟨_, rfl, _, _, rfl, rfl, by decide +kernel, ⟨_, rfl⟩, _, _, rfl, rfl, by decide +kernel, by decide +kernel, fun p hp => k p _ hp ?_ (Keep.new hp)⟩
    rw [keys_text]; exact upd_same
theorem ok_law_is_name {f : Addr} {fd : FuncData} (D : C8.Def K mg "_law_is_name" s_law_is_name f fd) (b : Binds K fd ["word"] []) (T : Txt K mg T_KEYWORDS) (c_law_keys : C8.Cal P w K mg base 1 "_law_keys" sp_law_keys []) : C8.Cal P w K mg base 2 "_law_is_name" sp_law_is_name [] := by
  refine cal0 D b .nil sc_law_is_name (fun vs H Q E h => ?_) (fun cdv A outer s H vs Q E hr h => ?_)
  · obtain ⟨z, rfl, _⟩ := h
    rfl
  · obtain ⟨z, rfl, hz, k⟩ := h
    refine ⟨_, (pss_cut (ps_set (i := 1) sc_law_is_name.nd rfl (by first | exact Or.inl rfl | exact Or.inr rfl) (pe_and (pe_chain op_le op_le pe_int (pe_callB call_len_str (by rfl) T.n_len bo_len (pa_cons (pv 0) pa_nil)) pe_int) (pe_one (pe_cmpR op_notIn_seq (pv 0) (pe_c0 c_law_keys hr (by first | exact Nat.le_refl _ | decide) rfl) (by rfl)))))
(pss_cons (ps_for PassesOwn.never rfl (pi_range1 (by rfl) T.n_range (pa_cons (pe_callB call_len_str (by rfl) T.n_len bo_len (pa_cons (pv 0) pa_nil)) pa_nil)) (pg_name (i := 2) sc_law_is_name.nd rfl (by first | exact Or.inl rfl | exact Or.inr rfl))
  (pss_cut (ps_set (i := 3) sc_law_is_name.nd rfl (by first | exact Or.inl rfl | exact Or.inr rfl) (pe_chain op_le_str op_le_str pe_str (pe_ix ix_str (pv 0) (pv 2) (fun _ _ => rfl)) pe_str))
  (pss_one (ps_set (i := 1) sc_law_is_name.nd rfl (by first | exact Or.inl rfl | exact Or.inr rfl) (pe_and (pv 1) (pe_one (pe_or (pv 3) (pe_one (pe_and (pe_cmpR op_gt (pv 2) pe_int (nomark _)) (pe_one (pe_chain op_le_str op_le_str pe_str (pe_ix ix_str (pv 0) (pv 2) (fun _ _ => rfl)) pe_str)))))))))))
(pss_one (ps_ret (pv 1))))), ?_⟩
    have lenV : ∀ {P : Prop} [Decidable P], True := trivial
    refine ⟨fun σ H' => ∃ g0 : Bool, σ = [some (.str z), some (.bl g0), none, none] ∧ Keep [] H H' ∧ g0 = (decide (1 ≤ z.length ∧ z.length ≤ 12) && !(kwB z)), ?_, ?_⟩
    · refine ⟨_, rfl, z, rfl, smallM (by omega), _, _, rfl, rfl, _, rfl, iteD (fun h1 => ?_) (fun h1 => ⟨_, rfl, iteF ⟨_, rfl, Keep.refl _ _, ?_⟩⟩)⟩
      · refine ⟨_, _, rfl, rfl, _, rfl, iteD (fun h2 => ?_) (fun h2 => ⟨_, rfl, Keep.refl _ _, ?_⟩)⟩
        · refine ⟨_, rfl, rfl, fun l H1 nl hl K1 => ⟨_, _, rfl, .inl (SqL.of hl), rfl, by rfl, _, rfl, K1, ?_⟩⟩
          rw [decide_eq_true (p := 1 ≤ z.length ∧ z.length ≤ 12) (by omega)]
          rfl
        · rw [decide_eq_false (p := 1 ≤ z.length ∧ z.length ≤ 12) (by omega)]; rfl
      · rw [decide_eq_false (p := 1 ≤ z.length ∧ z.length ≤ 12) (by omega)]; rfl
    · rintro σ H1 ⟨g0, rfl, K1, hg0⟩
      refine ⟨_, rfl, z, rfl, smallM (by omega), _, rfl, by omega, by omega, for_range (lo := 0) (n := z.length) (fun i σ H' => H' = H1 ∧ ∃ o2 o3, σ = [some (.str z), some (.bl (g0 && okTo (TL.tl z) i)), o2, o3])
        ⟨rfl, none, none, by rw [show okTo (TL.tl z) 0 = true from rfl, Bool.and_true]⟩ ?_ ?_⟩
      · rintro i σ H' hi ⟨rfl, o2, o3, rfl⟩
        have e0 : (0 : Int) + (i : Int) = (i : Int) := by omega
        rw [e0]
        have hi' : i < (TL.tl z).length := by rw [len_cps]; exact hi
        have hc : (TL.tl z)[i]? = some ((TL.tl z)[i]) := List.getElem?_eq_getElem hi'
        have hgd : (TL.tl z).getD i 0 = (TL.tl z)[i] := by rw [List.getD_eq_getElem?_getD, hc]; rfl
        generalize (TL.tl z)[i] = c at hc hgd
        refine ⟨fun σ H'' => H'' = H' ∧ σ = [some (.str z), some (.bl (g0 && okTo (TL.tl z) i)), some (.int (i : Int)), some (.bl (isL c))], ?_, ?_⟩
        · refine ⟨_, rfl, _, rfl, _, _, c, rfl, rfl, smallM (by omega), atI_nat hc, _, _, rfl, rfl, _, rfl, iteB (fun e1 => ?_) (fun e1 => ?_)⟩
          · rw [le_sign "a" 97 c cp_a] at e1
            refine ⟨_, _, rfl, rfl, rfl, ?_⟩
            have : (!decide (("z" : Str).cps.toList < (⟨#[c]⟩ : Str).cps.toList)) = isL c := by
              rw [ge_sign "z" 122 c cp_z, ← and_isL, e1, Bool.true_and]
            rw [this]; rfl
          · rw [le_sign "a" 97 c cp_a] at e1
            refine ⟨rfl, ?_⟩
            have : isL c = false := by rw [← and_isL, e1, Bool.false_and]
            rw [this]; rfl
        · rintro σ H'' ⟨rfl, rfl⟩
          have ed : (!decide (("9" : Str).cps.toList < (⟨#[c]⟩ : Str).cps.toList)) = decide (c ≤ 57) := ge_sign "9" 57 c cp_9
          have fin : ∀ x : Bool, x = (g0 && okTo (TL.tl z) (i + 1)) → H'' = H'' ∧ ∃ o2 o3, ([some (.str z), some (.bl x), some (.int (i : Int)), some (.bl (isL c))] : List (Option V)) = [some (.str z), some (.bl (g0 && okTo (TL.tl z) (i + 1))), o2, o3] := fun x hx => by
            subst hx; exact ⟨rfl, _, _, rfl⟩
          have estep : okTo (TL.tl z) (i + 1) = (okTo (TL.tl z) i && (isL c || (decide (0 < i) && isD c))) := by
            show (okTo (TL.tl z) i && (isL ((TL.tl z).getD i 0) || (decide (0 < i) && isD ((TL.tl z).getD i 0)))) = _
            rw [hgd]
          refine ⟨_, rfl, _, rfl, iteB (fun eg => ?_) (fun eg => ?_)⟩
          · refine ⟨_, rfl, _, rfl, iteB (fun eL => ?_) (fun eL => ?_)⟩
            · refine fin true ?_
              rw [estep, ← Bool.and_assoc, eg, eL]; rfl
            · refine ⟨_, rfl, _, _, rfl, rfl, _, rfl, iteD (fun h0 => ?_) (fun h0 => ?_)⟩
              · refine ⟨_, rfl, _, rfl, _, _, c, rfl, rfl, smallM (by omega), atI_nat hc, _, _, rfl, rfl, _, rfl, iteB (fun e1 => ?_) (fun e1 => ?_)⟩
                · rw [le_sign "0" 48 c cp_0] at e1
                  refine ⟨_, _, rfl, rfl, ?_⟩
                  refine fin _ ?_
                  rw [estep, ← Bool.and_assoc, eg, eL, ed, ← and_isD, e1, decide_eq_true (p := 0 < i) (by omega)]; rfl
                · rw [le_sign "0" 48 c cp_0] at e1
                  refine fin false ?_
                  rw [estep, ← Bool.and_assoc, eg, eL, ← and_isD, e1, decide_eq_true (p := 0 < i) (by omega)]; rfl
              · refine fin false ?_
                rw [estep, ← Bool.and_assoc, eg, eL, decide_eq_false (p := 0 < i) (by omega)]; rfl
          · refine fin false ?_
            rw [estep, ← Bool.and_assoc, eg]; rfl
      · rintro σ H' ⟨rfl, o2, o3, rfl⟩
        refine ⟨_, rfl, ?_⟩
        have e : (g0 && okTo (TL.tl z) z.length) = nameB z := by
          rw [hg0]; exact name_eq z
        rw [e]
        exact k _ K1
theorem ok_law_spoilt {f : Addr} {fd : FuncData} (D : C8.Def K mg "_law_spoilt" s_law_spoilt f fd) (b : Binds K fd ["pool", "word"] []) (T : Txt K mg T_KEYWORDS) (c_law_draw : C8.Cal P w K mg base 1 "_law_draw" sp_law_draw []) (c_law_few : C8.Cal P w K mg base 2 "_law_few" sp_law_few []) :
    C8.Cal P w K mg base 3 "_law_spoilt" sp_law_spoilt [] := by
  refine cal0 D b .nil sc_law_spoilt (fun vs H Q E h => ?_) (fun cdv A outer s H vs Q E hr h => ?_)
  · obtain ⟨p, q, ns, z, rfl, _⟩ := h
    rfl
  · obtain ⟨p, q, ns, z, rfl, hz, hP, k⟩ := h
    refine ⟨_, (pss_cons (ps_set (i := 2) sc_law_spoilt.nd rfl (by first | exact Or.inl rfl | exact Or.inr rfl) pe_str)
(pss_cons (ps_for PassesOwn.never rfl (pi_range1 (by rfl) T.n_range (pa_cons (pe_op op_add pe_int (pe_c c_law_few hr (by first | exact Nat.le_refl _ | decide) rfl (pa_cons (pv 0) (pa_cons pe_int pa_nil)))) pa_nil)) (pg_name (i := 3) sc_law_spoilt.nd rfl (by first | exact Or.inl rfl | exact Or.inr rfl))
  (pss_cons (ps_set (i := 4) sc_law_spoilt.nd rfl (by first | exact Or.inl rfl | exact Or.inr rfl) (pe_c c_law_draw hr (by first | exact Nat.le_refl _ | decide) rfl (pa_cons (pv 0) (pa_cons (pe_op op_add (pe_callB call_len_str (by rfl) T.n_len bo_len (pa_cons (pv 1) pa_nil)) pe_int) pa_nil))))
  (pss_one (ps_set (i := 1) sc_law_spoilt.nd rfl (by first | exact Or.inl rfl | exact Or.inr rfl) (pe_op op_add_str (pe_op op_add_str (pe_slice sl_txt (pv 1) po_none (po_some (pv 4))) (pe_ix ix_str (pv 2) (pe_c c_law_draw hr (by first | exact Nat.le_refl _ | decide) rfl (pa_cons (pv 0) (pa_cons (pe_callB call_len_str (by rfl) T.n_len bo_len (pa_cons (pv 2) pa_nil)) pa_nil))) (fun _ _ => rfl))) (pe_slice sl_txt (pv 1) (po_some (pv 4)) po_none))))))
(pss_one (ps_ret (pv 1))))), ?_⟩
    refine ⟨_, rfl, p, q, ns, 3, rfl, by decide, by decide, hP, fun r H1 r0 r1 P1 K1 => ?_⟩
    refine ⟨_, _, rfl, rfl, _, rfl, by omega, by omega, for_range (lo := 0) (n := (1 + r).toNat) (fun i σ H' => ∃ (y oth : Str) (o3 o4 : Option V), σ = [some (.ref p), some (.str y), some (.str oth), o3, o4] ∧ oth.length = 59 ∧ y.length = z.length + i ∧ Pool H' p q ns ∧ Keep [p] H H')
      ⟨z, _, none, none, rfl, by decide +kernel, rfl, P1, K1⟩ ?_ ?_⟩
    · rintro i σ H2 hi ⟨y, oth, o3, o4, rfl, ho, hy, P2, K2⟩
      refine ⟨_, rfl, _, rfl, y, rfl, smallM (by omega), _, _, rfl, rfl, p, q, ns, _, rfl, by omega, by omega, P2, fun u H3 u0 u1 P3 K3 => ?_⟩
      obtain ⟨m, rfl⟩ : ∃ m : Nat, u = (m : Int) := ⟨u.toNat, by omega⟩
      have hyl : (TL.tl y).length = y.length := len_cps y
      have e1 : (Txt.slice y none (some (m : Int))).length = min m y.length := by
        have := slice_to (a := TL.tl y) (i := (m : Int)) (by omega)
        rw [S_tl] at this
        rw [this, S_len, List.length_take, hyl]; rfl
      have e2 : (Txt.slice y (some (m : Int)) none).length = y.length - m := by
        have := slice_from (a := TL.tl y) (i := (m : Int)) (by omega)
        rw [S_tl] at this
        rw [this, S_len, List.length_drop, hyl]; rfl
      refine ⟨_, rfl, _, rfl, _, rfl, y, rfl, smallM (by omega), ?_⟩
      refine ⟨_, rfl, _, rfl, _, rfl, oth, rfl, smallM (by omega), p, q, ns, _, rfl, by omega, by omega, P3, fun v H4 v0 v1 P4 K4 => ?_⟩
      obtain ⟨m2, rfl⟩ : ∃ m2 : Nat, v = (m2 : Int) := ⟨v.toNat, by omega⟩
      have hol : (TL.tl oth).length = oth.length := len_cps oth
      refine ⟨_, _, _, rfl, rfl, smallM (by omega), atI_nat (List.getElem?_eq_getElem (show m2 < (TL.tl oth).length by omega)), ?_⟩
      have l1 : ∀ c : Nat, (⟨#[c]⟩ : Str).length = 1 := fun _ => rfl
      refine ⟨_, _, rfl, rfl, by rw [e1, l1]; exact smallM (by omega), _, rfl, _, rfl, _, rfl, y, rfl, smallM (by omega), _, _, rfl, rfl, by rw [len_app, e1, e2, l1]; exact smallM (by omega), ?_⟩
      exact ⟨_, oth, _, _, rfl, ho, by rw [len_app, len_app, e1, e2, l1]; omega, P4, (K2.trans K3).trans K4⟩
    · rintro σ H2 ⟨y, oth, o3, o4, rfl, ho, hy, P2, K2⟩
      exact ⟨_, rfl, k _ _ (by omega) P2 K2⟩
theorem ok_law_word {f : Addr} {fd : FuncData} (D : C8.Def K mg "_law_word" s_law_word f fd) (b : Binds K fd ["pool"] []) (T : Txt K mg T_KEYWORDS) (c_law_draw : C8.Cal P w K mg base 1 "_law_draw" sp_law_draw []) (c_law_keys : C8.Cal P w K mg base 1 "_law_keys" sp_law_keys [])
    (c_law_spoilt : C8.Cal P w K mg base 3 "_law_spoilt" sp_law_spoilt []) : C8.Cal P w K mg base 4 "_law_word" sp_law_word [] := by
  refine cal0 D b .nil sc_law_word (fun vs H Q E h => ?_) (fun cdv A outer s H vs Q E hr h => ?_)
  · obtain ⟨p, q, ns, rfl, _⟩ := h
    rfl
  · obtain ⟨p, q, ns, rfl, hP, k⟩ := h
    refine ⟨_, (pss_cons (ps_set (i := 1) sc_law_word.nd rfl (by first | exact Or.inl rfl | exact Or.inr rfl) (pe_c c_law_draw hr (by first | exact Nat.le_refl _ | decide) rfl (pa_cons (pv 0) (pa_cons pe_int pa_nil))))
(pss_cons (ps_if (pt_cmpR op_eq (pv 1) pe_int (nomark _))
  (pss_cons (ps_set (i := 2) sc_law_word.nd rfl (by first | exact Or.inl rfl | exact Or.inr rfl) (pe_ix ix_list (pe_c0 c_law_keys hr (by first | exact Nat.le_refl _ | decide) rfl) (pe_c c_law_draw hr (by first | exact Nat.le_refl _ | decide) rfl (pa_cons (pv 0) (pa_cons pe_int pa_nil))) (fun _ _ => rfl)))
  (pss_one (ps_ret (pe_op op_add_str (pv 2) (pe_ix ix_tup (pe_tup (pa_cons pe_str (pa_cons pe_str (pa_cons pe_str (pa_cons pe_str pa_nil))))) (pe_c c_law_draw hr (by first | exact Nat.le_refl _ | decide) rfl (pa_cons (pv 0) (pa_cons pe_int pa_nil))) (fun _ _ => rfl))))))
  pss_nil)
(pss_cons (ps_if (pt_cmpR op_eq (pv 1) pe_int (nomark _))
  (pss_cons (ps_set (i := 3) sc_law_word.nd rfl (by first | exact Or.inl rfl | exact Or.inr rfl) (pe_c c_law_draw hr (by first | exact Nat.le_refl _ | decide) rfl (pa_cons (pv 0) (pa_cons pe_int pa_nil))))
  (pss_cut (ps_if (pt_cmpR op_eq (pe_c c_law_draw hr (by first | exact Nat.le_refl _ | decide) rfl (pa_cons (pv 0) (pa_cons pe_int pa_nil))) pe_int (nomark _))
    (pss_one (ps_set (i := 3) sc_law_word.nd rfl (by first | exact Or.inl rfl | exact Or.inr rfl) (pe_op op_add pe_int (pe_c c_law_draw hr (by first | exact Nat.le_refl _ | decide) rfl (pa_cons (pv 0) (pa_cons pe_int pa_nil))))))
    pss_nil)
  (pss_one (ps_ret (pe_op op_add_str (pe_ix ix_tup (pe_tup (pa_cons pe_str (pa_cons pe_str (pa_cons pe_str (pa_cons pe_str pa_nil))))) (pe_c c_law_draw hr (by first | exact Nat.le_refl _ | decide) rfl (pa_cons (pv 0) (pa_cons pe_int pa_nil))) (fun _ _ => rfl)) (pe_callTy call_str_int (by rfl) T.n_str bo_str (pa_cons (pv 3) pa_nil)))))))
  pss_nil)
(pss_cons (ps_set (i := 4) sc_law_word.nd rfl (by first | exact Or.inl rfl | exact Or.inr rfl) pe_str)
(pss_cons (ps_set (i := 5) sc_law_word.nd rfl (by first | exact Or.inl rfl | exact Or.inr rfl) (pe_ix ix_tup (pe_tup (pa_cons (pe_c c_law_draw hr (by first | exact Nat.le_refl _ | decide) rfl (pa_cons (pv 0) (pa_cons pe_int pa_nil))) (pa_cons (pe_c c_law_draw hr (by first | exact Nat.le_refl _ | decide) rfl (pa_cons (pv 0) (pa_cons pe_int pa_nil))) pa_nil))) (pe_callTy call_int1 (by rfl) T.n_int bo_int (pa_cons (pe_cmpR op_eq (pe_c c_law_draw hr (by first | exact Nat.le_refl _ | decide) rfl (pa_cons (pv 0) (pa_cons pe_int pa_nil))) pe_int (nomark _)) pa_nil)) (fun _ _ => rfl)))
(pss_cut (ps_if (pt_cmpR op_eq (pv 1) pe_int (nomark _))
  (pss_one (ps_set (i := 2) sc_law_word.nd rfl (by first | exact Or.inl rfl | exact Or.inr rfl) (pe_join pe_str (pe_lc (own := [("k", 6)]) (g := gName 6) (tt := tYes) rfl sc_law_word.nd (pi_range1 (by rfl) T.n_range (pa_cons (pv 5) pa_nil)) (blkOk_by (N := ["pool", "kind", "word", "number", "signs", "size", "k"]) (sc := fnScope s_law_word) (by decide +kernel)) (fun _ _ _ _ _ => pg_name (i := 6) sc_law_word.nd rfl (Or.inl rfl)) (fun _ _ _ _ _ => pts_nil) (fun _ _ _ _ _ => (pe_ix ix_str (pv 4) (pe_op op_add pe_int (pe_c c_law_draw hr (by first | exact Nat.le_refl _ | decide) rfl (pa_cons (pv 0) (pa_cons pe_int pa_nil)))) (fun _ _ => rfl)))))))
  (pss_one (ps_set (i := 2) sc_law_word.nd rfl (by first | exact Or.inl rfl | exact Or.inr rfl) (pe_join pe_str (pe_lc (own := [("k", 6)]) (g := gName 6) (tt := tYes) rfl sc_law_word.nd (pi_range1 (by rfl) T.n_range (pa_cons (pv 5) pa_nil)) (blkOk_by (N := ["pool", "kind", "word", "number", "signs", "size", "k"]) (sc := fnScope s_law_word) (by decide +kernel)) (fun _ _ _ _ _ => pg_name (i := 6) sc_law_word.nd rfl (Or.inl rfl)) (fun _ _ _ _ _ => pts_nil) (fun _ _ _ _ _ => (pe_ix ix_str (pv 4) (pe_c c_law_draw hr (by first | exact Nat.le_refl _ | decide) rfl (pa_cons (pv 0) (pa_cons pe_int pa_nil))) (fun _ _ => rfl))))))))
(pss_cons (ps_if (pt_cmpR op_eq (pe_c c_law_draw hr (by first | exact Nat.le_refl _ | decide) rfl (pa_cons (pv 0) (pa_cons pe_int pa_nil))) pe_int (nomark _))
  (pss_one (ps_ret (pe_c c_law_spoilt hr (by first | exact Nat.le_refl _ | decide) rfl (pa_cons (pv 0) (pa_cons (pv 2) pa_nil)))))
  pss_nil)
(pss_one (ps_ret (pv 2)))))))))), ?_⟩
    have tupfree : ∀ {H1 : Hp} {t : Addr} {o : HO}, H1 t = none → Keep [] H1 (upd H1 t o) := fun h => Keep.new h
    -- a fixed tuple of four short texts, one drawn
    refine ⟨_, rfl, p, q, ns, 5, rfl, by decide, by decide, hP, fun kind H1 _ _ P1 K1 => ?_⟩
    refine ⟨_, rfl, rfl, _, rfl, iteD (fun _ => ?_) (fun _ => ?_)⟩
    · -- a key word
      refine ⟨rfl, fun l H2 nl hl K2 => ?_⟩
      have P2 := P1.keep0 K2
      refine ⟨_, rfl, p, q, ns, 26, rfl, by decide, by decide, P2, fun r H3 r0 r1 P3 K3 => ?_⟩
      obtain ⟨m, rfl⟩ : ∃ m : Nat, r = (m : Int) := ⟨r.toNat, by omega⟩
      have nlp : l ≠ p := P1.nep nl
      have hl3 := K3 _ _ hl (by simpa using nlp)
      have hm : m < 26 := by omega
      have hkl : kwL.length = 26 := rfl
      have hw : (kwL.map V.str)[m]? = some (.str (kwL[m]'(by omega))) := by rw [List.getElem?_map, List.getElem?_eq_getElem (by omega)]; rfl
      have hwl : (kwL[m]'(by omega)).length ≤ 6 := kw_short _ (List.getElem_mem _)
      generalize (kwL[m]'(by omega)) = kw at hw hwl
      refine ⟨_, _, _, _, rfl, rfl, SqL.of hl3, atI_nat hw, ?_⟩
      refine ⟨_, rfl, by show 4 ≤ sizeLine; decide, fun t nt => ?_⟩
      have P4 := P3.new (o := .tup [.str "", .str "", .str "s", .str "1"]) nt
      refine ⟨_, rfl, p, q, ns, 4, rfl, by decide, by decide, P4, fun r2 H5 r20 r21 P5 K5 => ?_⟩
      obtain ⟨m2, rfl⟩ : ∃ m : Nat, r2 = (m : Int) := ⟨r2.toNat, by omega⟩
      have ntp : t ≠ p := P3.nep nt
      have ht5 := K5 _ _ (upd_same (H := H3) (a := t) (o := .tup [.str "", .str "", .str "s", .str "1"])) (by simpa using ntp)
      obtain ⟨y, hy, hyl⟩ : ∃ y : Str, ([V.str "", V.str "", V.str "s", V.str "1"] : List V)[m2]? = some (.str y) ∧ y.length ≤ 2 := by
        have hm2 : m2 < 4 := by omega
        match m2, hm2 with
        | 0, _ => exact ⟨_, rfl, by decide +kernel⟩
        | 1, _ => exact ⟨_, rfl, by decide +kernel⟩
        | 2, _ => exact ⟨_, rfl, by decide +kernel⟩
        | 3, _ => exact ⟨_, rfl, by decide +kernel⟩
      refine ⟨_, _, _, _, rfl, rfl, SqT.of ht5, atI_nat hy, _, _, rfl, rfl, smallM (by omega), ?_⟩
      exact k _ _ (by rw [len_app]; omega) P5 ((((K1.trans (K2.mono (by simp))).trans K3).trans ((tupfree nt).mono (by simp))).trans K5)
    · -- behind the first if
      refine ⟨_, rfl, rfl, _, rfl, iteD (fun _ => ?_) (fun _ => ?_)⟩
      · -- a number
        refine ⟨_, rfl, p, q, ns, 140001, rfl, by decide, by decide, P1, fun r H2 r0 r1 P2 K2 => ?_⟩
        refine ⟨fun σ H' => ∃ N : Nat, σ = [some (.ref p), some (.int kind), none, some (.int (N : Int)), none, none, none] ∧ N < 1000000 ∧ Pool H' p q ns ∧ Keep [p] H H', ?_, ?_⟩
        · refine ⟨_, rfl, p, q, ns, 3, rfl, by decide, by decide, P2, fun r2 H3 _ _ P3 K3 => ⟨rfl, _, rfl, iteD (fun _ => ?_) (fun _ => ?_)⟩⟩
          · refine ⟨_, rfl, p, q, ns, 11, rfl, by decide, by decide, P3, fun r4 H4 z0 z1 P4 K4 => ⟨_, _, rfl, rfl, (65530 + r4).toNat, ?_, by omega, P4, ((K1.trans K2).trans K3).trans K4⟩⟩
            have : (((65530 + r4).toNat : Nat) : Int) = 65530 + r4 := by omega
            rw [this]; rfl
          · refine ⟨r.toNat, ?_, by omega, P3, (K1.trans K2).trans K3⟩
            have : ((r.toNat : Nat) : Int) = r := by omega
            rw [this]; rfl
        · rintro σ H3 ⟨N, rfl, hN, P3, K3⟩
          refine ⟨by show 4 ≤ sizeLine; decide, fun t nt => ?_⟩
          have P4 := P3.new (o := .tup [.str "", .str "", .str "0", .str "00"]) nt
          refine ⟨_, rfl, p, q, ns, 4, rfl, by decide, by decide, P4, fun r2 H5 r20 r21 P5 K5 => ?_⟩
          obtain ⟨m2, rfl⟩ : ∃ m : Nat, r2 = (m : Int) := ⟨r2.toNat, by omega⟩
          have ntp : t ≠ p := P3.nep nt
          have ht5 := K5 _ _ (upd_same (H := H3) (a := t) (o := .tup [.str "", .str "", .str "0", .str "00"])) (by simpa using ntp)
          obtain ⟨y, hy, hyl⟩ : ∃ y : Str, ([V.str "", V.str "", V.str "0", V.str "00"] : List V)[m2]? = some (.str y) ∧ y.length ≤ 2 := by
            have hm2 : m2 < 4 := by omega
            match m2, hm2 with
            | 0, _ => exact ⟨_, rfl, by decide +kernel⟩
            | 1, _ => exact ⟨_, rfl, by decide +kernel⟩
            | 2, _ => exact ⟨_, rfl, by decide +kernel⟩
            | 3, _ => exact ⟨_, rfl, by decide +kernel⟩
          have hsl : (Str.ofString (toString ((N : Nat) : Int))).length ≤ 6 := by
            rw [num_S, S_len]; exact TL.numL_len (by decide) (by omega)
          refine ⟨_, _, _, _, rfl, rfl, SqT.of ht5, atI_nat hy, _, rfl, _, rfl, ?_, _, _, rfl, rfl, smallM (by omega), ?_⟩
          · rw [Int.natAbs_natCast]
            exact PySem.Flt.log2_lt_of (by decide) (Nat.lt_trans hN (by decide +kernel))
          · exact k _ _ (by rw [len_app]; omega) P5 ((K3.trans ((tupfree nt).mono (by simp))).trans K5)
      · -- signs drawn one by one
        refine ⟨_, rfl, p, q, ns, 15, rfl, by decide, by decide, P1, fun r1 H2 a0 a1 P2 K2 => ?_⟩
        refine ⟨_, rfl, p, q, ns, 61, rfl, by decide, by decide, P2, fun r2 H3 b0 b1 P3 K3 => ⟨by show 2 ≤ sizeLine; decide, fun t nt => ?_⟩⟩
        have P4 := P3.new (o := .tup [.int r1, .int r2]) nt
        refine ⟨_, rfl, p, q, ns, 4, rfl, by decide, by decide, P4, fun r3 H5 _ _ P5 K5 => ?_⟩
        have ntp : t ≠ p := P3.nep nt
        have ht5 := K5 _ _ (upd_same (H := H3) (a := t) (o := .tup [.int r1, .int r2])) (by simpa using ntp)
        obtain ⟨size, hs, hs0, hs1⟩ : ∃ size : Int, atI ([V.int r1, V.int r2] : List V) (if decide (V.int r3 = V.int 1) = true then 1 else 0) = some (.int size) ∧ 0 ≤ size ∧ size ≤ 60 := by
          by_cases e : V.int r3 = V.int 1
          · rw [decide_eq_true e]; exact ⟨r2, rfl, b0, by omega⟩
          · rw [decide_eq_false e]; exact ⟨r1, rfl, a0, by omega⟩
        have KA : Keep [p] H H5 := (((K1.trans K2).trans K3).trans ((tupfree nt).mono (by simp))).trans K5
        refine ⟨rfl, .inr ⟨_, rfl, _, _, _, _, rfl, rfl, SqT.of ht5, hs, ?_⟩⟩
        -- the signs' text by its length alone
        obtain ⟨sg, hsgv, hsg⟩ : ∃ sg : Str, sg = ("abcdefghijklmnopqrstuvwxyz0123456789" : Str) ∧ sg.length = 36 := ⟨_, rfl, by decide +kernel⟩
        rw [← hsgv]
        have K5 := KA
        refine ⟨fun σ H' => ∃ w : Str, σ = [some (.ref p), some (.int kind), some (.str w), none, some (.str sg), some (.int size), none] ∧ w.length ≤ 60 ∧ Pool H' p q ns ∧ Keep [p] H H', ?_, ?_⟩
        · refine ⟨_, rfl, rfl, _, rfl, iteD (fun _ => ?_) (fun _ => ?_)⟩
          · refine ⟨⟨_, rfl⟩, ⟨_, rfl, _, rfl, by omega, by omega, fun L hL => ?_⟩⟩
            have hL0 : H L = none := P5.free K5 hL
            have nLp : L ≠ p := P5.nep hL
            have nLq : L ≠ q := P5.neq hL
            refine lc_range (n := size.toNat) (fun i H' => ∃ ys : List Str, H' L = some (.lst (ys.map V.str)) ∧ ys.length = i ∧ (∀ y ∈ ys, y.length = 1) ∧ Pool H' p q ns ∧ Keep [p] H H')
              ⟨[], upd_same, rfl, (fun _ q => by cases q), P5.new hL, K5.then_own hL0⟩ ?_ ?_
            · rintro i H' hi ⟨ys, hD, hlen, hone, P6, K6⟩
              refine ⟨rfl, yes_then ⟨_, rfl, _, rfl, p, q, ns, 10, rfl, by decide, by decide, P6, fun u H7 u0 u1 P7 K7 => ?_⟩⟩
              have g := K7 _ _ hD (by simpa using nLp)
              refine ⟨_, _, rfl, rfl, ?_⟩
              obtain ⟨m, hm⟩ : ∃ m : Nat, 26 + u = (m : Int) := ⟨(26 + u).toNat, by omega⟩
              have hml : m < (TL.tl sg).length := by rw [len_cps, hsg]; omega
              refine ⟨_, _, _, rfl, rfl, smallM (by omega), (by show atI (TL.tl sg) (26 + u) = _; rw [hm]; exact atI_nat (List.getElem?_eq_getElem hml)), ?_⟩
              refine ⟨_, g, by rw [List.length_map]; exact smallL (by omega), ys ++ [⟨#[(TL.tl sg)[m]]⟩], by rw [List.map_append]; exact upd_same, by simp [hlen], ?_, P7.own nLp nLq, (K6.trans K7).then_own hL0⟩
              intro y hy
              rcases List.mem_append.mp hy with z | z
              · exact hone y z
              · rw [List.mem_singleton.mp z]; rfl
            · rintro H' ⟨ys, hD, hlen, hone, P6, K6⟩
              have hsum : (ys.map (·.length)).sum = ys.length := ones_sum ys hone
              have hjl := join_len ("" : Str) ys
              have e0 : ("" : Str).length = 0 := by decide +kernel
              rw [hsum, e0, Nat.mul_zero] at hjl
              exact ⟨_, _, ys, rfl, rfl, .inl (SqL.of hD), by rw [hsum, e0]; omega, _, rfl, by omega, P6, K6⟩
          · refine ⟨⟨_, rfl⟩, ⟨_, rfl, _, rfl, by omega, by omega, fun L hL => ?_⟩⟩
            have hL0 : H L = none := P5.free K5 hL
            have nLp : L ≠ p := P5.nep hL
            have nLq : L ≠ q := P5.neq hL
            refine lc_range (n := size.toNat) (fun i H' => ∃ ys : List Str, H' L = some (.lst (ys.map V.str)) ∧ ys.length = i ∧ (∀ y ∈ ys, y.length = 1) ∧ Pool H' p q ns ∧ Keep [p] H H')
              ⟨[], upd_same, rfl, (fun _ q => by cases q), P5.new hL, K5.then_own hL0⟩ ?_ ?_
            · rintro i H' hi ⟨ys, hD, hlen, hone, P6, K6⟩
              refine ⟨rfl, yes_then ⟨_, rfl, _, rfl, p, q, ns, 36, rfl, by decide, by decide, P6, fun u H7 u0 u1 P7 K7 => ?_⟩⟩
              have g := K7 _ _ hD (by simpa using nLp)
              obtain ⟨m, hm⟩ : ∃ m : Nat, u = (m : Int) := ⟨(u).toNat, by omega⟩
              have hml : m < (TL.tl sg).length := by rw [len_cps, hsg]; omega
              refine ⟨_, _, _, rfl, rfl, smallM (by omega), (by show atI (TL.tl sg) (u) = _; rw [hm]; exact atI_nat (List.getElem?_eq_getElem hml)), ?_⟩
              refine ⟨_, g, by rw [List.length_map]; exact smallL (by omega), ys ++ [⟨#[(TL.tl sg)[m]]⟩], by rw [List.map_append]; exact upd_same, by simp [hlen], ?_, P7.own nLp nLq, (K6.trans K7).then_own hL0⟩
              intro y hy
              rcases List.mem_append.mp hy with z | z
              · exact hone y z
              · rw [List.mem_singleton.mp z]; rfl
            · rintro H' ⟨ys, hD, hlen, hone, P6, K6⟩
              have hsum : (ys.map (·.length)).sum = ys.length := ones_sum ys hone
              have hjl := join_len ("" : Str) ys
              have e0 : ("" : Str).length = 0 := by decide +kernel
              rw [hsum, e0, Nat.mul_zero] at hjl
              exact ⟨_, _, ys, rfl, rfl, .inl (SqL.of hD), by rw [hsum, e0]; omega, _, rfl, by omega, P6, K6⟩
        · rintro σ H6 ⟨w, rfl, hw, P6, K6⟩
          refine ⟨_, rfl, p, q, ns, 3, rfl, by decide, by decide, P6, fun r8 H8 _ _ P8 K8 => ⟨rfl, _, rfl, iteD (fun _ => ?_) (fun _ => ?_)⟩⟩
          · exact ⟨_, rfl, _, rfl, p, q, ns, w, rfl, by omega, P8, fun y H9 hy P9 K9 => k y H9 (by omega) P9 ((K6.trans K8).trans K9)⟩
          · exact ⟨_, rfl, k _ _ (by omega) P8 (K6.trans K8)⟩
end

def sp_law (K : PySem.W.Frag) : Sp := fun vs H Q _ => ∃ (a : Addr) (ns : List Int), vs = [.ref a] ∧ SqL K H a (ns.map V.int) ∧ ∀ H', Q (.bl true) H'
theorem sameV_num {H : Hp} (z : Str) : SameV 1 H (numV z) (numV z) := by
  unfold numV
  split
  · exact .inl ⟨rfl, .inr (.inl ⟨_, rfl⟩)⟩
  · exact .inl ⟨rfl, .inr (.inr (.inr rfl))⟩
section
variable {P : Program} {w : World} {K : PySem.W.Frag} {mg : Str → Option Value} {base : Heap} {T_KEYWORDS : Addr}
theorem ok_law {f : Addr} {fd : FuncData} (F : C8.Fun K "law" "law" s_law f fd) (T : Txt K mg T_KEYWORDS) (c_law_same : C8.Cal P w K mg base 1 "_law_same" (sp_law_same 1) []) (c_law_pool : C8.Cal P w K mg base 1 "_law_pool" (sp_law_pool K) [])
    (c_law_word : C8.Cal P w K mg base 4 "_law_word" sp_law_word []) (c_is_name : C8.Cal P w K mg base 1 "is_name" sp_is_name []) (c_law_is_name : C8.Cal P w K mg base 2 "_law_is_name" sp_law_is_name [])
    (c_number_of : C8.Cal P w K mg base 1 "number_of" sp_number_of []) (c_law_number_of : C8.Cal P w K mg base 1 "_law_number_of" sp_law_number_of []) : FnOk P w K mg base C8.CX0 5 f fd ["script"] (sp_law K) := by
  refine C8.fn0 F sc_law (fun vs H Q E h => ?_) (fun cdv A outer s H vs Q E hr h => ?_)
  · obtain ⟨a, ns, rfl, _⟩ := h
    rfl
  · obtain ⟨a, ns, rfl, hS, k⟩ := h
    refine ⟨_, (pss_cons (ps_set (i := 1) sc_law.nd rfl (by first | exact Or.inl rfl | exact Or.inr rfl) (pe_c c_law_pool hr (by first | exact Nat.le_refl _ | decide) rfl (pa_cons (pv 0) (pa_cons pe_int pa_nil))))
(pss_cons (ps_setLc (i := 2) (own := [("k", 4)]) (g := gName 4) (tt := tYes) rfl sc_law.nd rfl rfl (sw_true rfl rfl rfl (by decide +kernel)) (pi_range1 (by rfl) T.n_range (pa_cons pe_int pa_nil)) (blkOk_by (N := ["script", "pool", "words", "word", "k"]) (sc := fnScope s_law) (by decide +kernel)) (fun _ _ _ _ _ => pg_name (i := 4) sc_law.nd rfl (Or.inl rfl)) (fun _ _ _ _ _ => pts_nil) (fun _ _ _ _ _ => (pe_c c_law_word hr (by first | exact Nat.le_refl _ | decide) rfl (pa_cons (pv 1) pa_nil))))
(pss_cons (ps_for PassesOwn.never rfl (pi_list (pe_op op_cat (pv 2) (pv 2))) (pg_name (i := 3) sc_law.nd rfl (by first | exact Or.inl rfl | exact Or.inr rfl))
  (pss_cons (ps_if (pt_not (pt_val (pe_c c_law_same hr (by first | exact Nat.le_refl _ | decide) rfl (pa_cons (pe_c c_is_name hr (by first | exact Nat.le_refl _ | decide) rfl (pa_cons (pv 3) pa_nil)) (pa_cons (pe_c c_law_is_name hr (by first | exact Nat.le_refl _ | decide) rfl (pa_cons (pv 3) pa_nil)) pa_nil)))))
    (pss_one (ps_ret pe_bl))
    pss_nil)
  (pss_one (ps_if (pt_not (pt_val (pe_c c_law_same hr (by first | exact Nat.le_refl _ | decide) rfl (pa_cons (pe_c c_number_of hr (by first | exact Nat.le_refl _ | decide) rfl (pa_cons (pv 3) pa_nil)) (pa_cons (pe_c c_law_number_of hr (by first | exact Nat.le_refl _ | decide) rfl (pa_cons (pv 3) pa_nil)) pa_nil)))))
    (pss_one (ps_ret pe_bl))
    pss_nil))))
(pss_one (ps_ret pe_bl))))), ?_⟩
    refine ⟨_, rfl, a, ns, 0, rfl, hS, fun p q H1 hp1 P1 K1 => ?_⟩
    refine ⟨5, rfl, by decide, by decide, fun L hL => ?_⟩
    have nLp : L ≠ p := P1.nep hL
    have nLq : L ≠ q := P1.neq hL
    refine lc_range (n := 5) (fun i H' => ∃ ys : List Str, H' L = some (.lst (ys.map V.str)) ∧ ys.length = i ∧ (∀ y ∈ ys, y.length ≤ 200) ∧ Pool H' p q ns)
      ⟨[], upd_same, rfl, (fun _ q => by cases q), P1.new hL⟩ ?_ ?_
    · rintro i H' hi ⟨ys, hD, hlen, hone, P6⟩
      refine ⟨rfl, yes_then ⟨_, rfl, p, q, ns, rfl, P6, fun z H7 hz P7 K7 => ?_⟩⟩
      have g := K7 _ _ hD (by simpa using nLp)
      refine ⟨_, g, by rw [List.length_map]; exact smallL (by omega), ys ++ [z], by rw [List.map_append]; exact upd_same, by simp [hlen], ?_, P7.own nLp nLq⟩
      intro y hy
      rcases List.mem_append.mp hy with q | q
      · exact hone y q
      · rw [List.mem_singleton.mp q]; exact hz
    · rintro H' ⟨ys, hD, hlen, hone, P6⟩
      refine ⟨_, rfl, _, rfl, _, _, _, _, rfl, rfl, hD, hD, by simp only [List.length_map]; exact smallM (by omega), fun M hM => ?_⟩
      have kM : Keep [] H' (upd H' M (.lst (ys.map V.str ++ ys.map V.str))) := Keep.new hM
      refine ⟨M, rfl, ⟨_, SqL.of upd_same⟩, for_list (K := K) (a := M) (xs := ys.map V.str ++ ys.map V.str) (fun i σ H2 => (∃ o3 : Option V, σ = [some (.ref a), some (.ref p), some (.ref L), o3, none]) ∧ H2 M = some (.lst (ys.map V.str ++ ys.map V.str)))
        ⟨⟨none, rfl⟩, upd_same⟩ (fun i σ H2 _ ⟨_, h⟩ => SqL.of h) ?_ ?_⟩
      · rintro i x σ H2 hi ⟨⟨o3, rfl⟩, hM2⟩
        obtain ⟨z, hz, rfl⟩ : ∃ z : Str, z.length ≤ 200 ∧ x = V.str z := by
          have := List.mem_of_getElem? hi
          rw [← List.map_append] at this
          obtain ⟨z, hz, e⟩ := List.mem_map.mp this
          refine ⟨z, ?_, e.symm⟩
          rcases List.mem_append.mp hz with q | q
          · exact hone z q
          · exact hone z q
        refine ⟨_, rfl, z, rfl, by omega, _, rfl, z, rfl, by omega, fun H3 K3 => ?_⟩
        refine ⟨_, _, rfl, .inl ⟨rfl, .inr (.inr (.inl ⟨_, rfl⟩))⟩, _, rfl, iteF ?_⟩
        refine ⟨_, rfl, z, rfl, by omega, _, rfl, z, rfl, by omega, ?_⟩
        exact ⟨_, _, rfl, sameV_num z, _, rfl, iteF ⟨⟨_, rfl⟩, K3 _ _ hM2 (by simp)⟩⟩
      · rintro σ H2 ⟨⟨o3, rfl⟩, _⟩
        exact k _
end

theorem all_mk {l : PySem.W.OpenLaw} {w : World} {K : PySem.W.Frag} {h : Heap} {mg : Str → Option Value} {fa : Addr} (X : K.In h) (G : h.Ns mainGlobals mg) (hfa : mg "law" = some (.ref fa))
    {f_law_pool : Addr} {od_law_pool an_law_pool : Option Addr} {sl_law_pool : Array (Option Value)} {oc_law_pool kV_law_pool dc_law_pool pm_law_pool cd_law_pool ct_law_pool : Value}
    {f_law_draw : Addr} {od_law_draw an_law_draw : Option Addr} {sl_law_draw : Array (Option Value)} {oc_law_draw kV_law_draw dc_law_draw pm_law_draw cd_law_draw ct_law_draw : Value}
    {f_law_few : Addr} {od_law_few an_law_few : Option Addr} {sl_law_few : Array (Option Value)} {oc_law_few kV_law_few dc_law_few pm_law_few cd_law_few ct_law_few : Value}
    {f_law_same : Addr} {od_law_same an_law_same : Option Addr} {sl_law_same : Array (Option Value)} {oc_law_same kV_law_same dc_law_same pm_law_same cd_law_same ct_law_same : Value}
    {f_is_name : Addr} {od_is_name an_is_name : Option Addr} {sl_is_name : Array (Option Value)} {oc_is_name kV_is_name dc_is_name pm_is_name cd_is_name ct_is_name : Value}
    {f_number_of : Addr} {od_number_of an_number_of : Option Addr} {sl_number_of : Array (Option Value)} {oc_number_of kV_number_of dc_number_of pm_number_of cd_number_of ct_number_of : Value}
    {f_law_keys : Addr} {od_law_keys an_law_keys : Option Addr} {sl_law_keys : Array (Option Value)} {oc_law_keys kV_law_keys dc_law_keys pm_law_keys cd_law_keys ct_law_keys : Value}
    {f_law_spoilt : Addr} {od_law_spoilt an_law_spoilt : Option Addr} {sl_law_spoilt : Array (Option Value)} {oc_law_spoilt kV_law_spoilt dc_law_spoilt pm_law_spoilt cd_law_spoilt ct_law_spoilt : Value}
    {f_law_word : Addr} {od_law_word an_law_word : Option Addr} {sl_law_word : Array (Option Value)} {oc_law_word kV_law_word dc_law_word pm_law_word cd_law_word ct_law_word : Value}
    {f_law_is_name : Addr} {od_law_is_name an_law_is_name : Option Addr} {sl_law_is_name : Array (Option Value)} {oc_law_is_name kV_law_is_name dc_law_is_name pm_law_is_name cd_law_is_name ct_law_is_name : Value}
    {f_law_number_of : Addr} {od_law_number_of an_law_number_of : Option Addr} {sl_law_number_of : Array (Option Value)} {oc_law_number_of kV_law_number_of dc_law_number_of pm_law_number_of cd_law_number_of ct_law_number_of : Value}
    {f_law : Addr} {od_law an_law : Option Addr} {sl_law : Array (Option Value)} {oc_law kV_law dc_law pm_law cd_law ct_law : Value}
    {t_LETTERS : Tok}
    {t_DIGITS : Tok}
    {t_LONGEST_NAME : Tok}
    {t_GREATEST : Tok}
    {T_KEYWORDS : Addr} {d_KEYWORDS : Option Addr} {nn_KEYWORDS : Nat} {sl_KEYWORDS : Array (Option Value)} {t_KEYWORDS0 t_KEYWORDS1 t_KEYWORDS2 t_KEYWORDS3 t_KEYWORDS4 t_KEYWORDS5 t_KEYWORDS6 t_KEYWORDS7 t_KEYWORDS8 t_KEYWORDS9 t_KEYWORDS10 t_KEYWORDS11 t_KEYWORDS12 t_KEYWORDS13 t_KEYWORDS14 t_KEYWORDS15 t_KEYWORDS16 t_KEYWORDS17 t_KEYWORDS18 t_KEYWORDS19 t_KEYWORDS20 t_KEYWORDS21 t_KEYWORDS22 t_KEYWORDS23 t_KEYWORDS24 t_KEYWORDS25 : Tok}
    (a_law_pool : PySem.W.nsIn K mainGlobals "_law_pool" = some (some (.ref f_law_pool))) (l_law_pool : K.lookup f_law_pool = some ⟨oc_law_pool, od_law_pool, .func (PySem.W.fnOf "_law_pool" "_law_pool" (fnArgs s_law_pool) (fnBody s_law_pool) (fnScope s_law_pool) .none kV_law_pool dc_law_pool pm_law_pool an_law_pool cd_law_pool ct_law_pool), sl_law_pool⟩) (c_law_pool : PySem.W.codeIn K cd_law_pool "_law_pool" = true) (k_law_pool : PySem.W.keepIn K (.ref f_law_pool) = true)
    (a_law_draw : PySem.W.nsIn K mainGlobals "_law_draw" = some (some (.ref f_law_draw))) (l_law_draw : K.lookup f_law_draw = some ⟨oc_law_draw, od_law_draw, .func (PySem.W.fnOf "_law_draw" "_law_draw" (fnArgs s_law_draw) (fnBody s_law_draw) (fnScope s_law_draw) .none kV_law_draw dc_law_draw pm_law_draw an_law_draw cd_law_draw ct_law_draw), sl_law_draw⟩) (c_law_draw : PySem.W.codeIn K cd_law_draw "_law_draw" = true) (k_law_draw : PySem.W.keepIn K (.ref f_law_draw) = true)
    (a_law_few : PySem.W.nsIn K mainGlobals "_law_few" = some (some (.ref f_law_few))) (l_law_few : K.lookup f_law_few = some ⟨oc_law_few, od_law_few, .func (PySem.W.fnOf "_law_few" "_law_few" (fnArgs s_law_few) (fnBody s_law_few) (fnScope s_law_few) .none kV_law_few dc_law_few pm_law_few an_law_few cd_law_few ct_law_few), sl_law_few⟩) (c_law_few : PySem.W.codeIn K cd_law_few "_law_few" = true) (k_law_few : PySem.W.keepIn K (.ref f_law_few) = true)
    (a_law_same : PySem.W.nsIn K mainGlobals "_law_same" = some (some (.ref f_law_same))) (l_law_same : K.lookup f_law_same = some ⟨oc_law_same, od_law_same, .func (PySem.W.fnOf "_law_same" "_law_same" (fnArgs s_law_same) (fnBody s_law_same) (fnScope s_law_same) .none kV_law_same dc_law_same pm_law_same an_law_same cd_law_same ct_law_same), sl_law_same⟩) (c_law_same : PySem.W.codeIn K cd_law_same "_law_same" = true) (k_law_same : PySem.W.keepIn K (.ref f_law_same) = true)
    (a_is_name : PySem.W.nsIn K mainGlobals "is_name" = some (some (.ref f_is_name))) (l_is_name : K.lookup f_is_name = some ⟨oc_is_name, od_is_name, .func (PySem.W.fnOf "is_name" "is_name" (fnArgs s_is_name) (fnBody s_is_name) (fnScope s_is_name) .none kV_is_name dc_is_name pm_is_name an_is_name cd_is_name ct_is_name), sl_is_name⟩) (c_is_name : PySem.W.codeIn K cd_is_name "is_name" = true) (k_is_name : PySem.W.keepIn K (.ref f_is_name) = true)
    (a_number_of : PySem.W.nsIn K mainGlobals "number_of" = some (some (.ref f_number_of))) (l_number_of : K.lookup f_number_of = some ⟨oc_number_of, od_number_of, .func (PySem.W.fnOf "number_of" "number_of" (fnArgs s_number_of) (fnBody s_number_of) (fnScope s_number_of) .none kV_number_of dc_number_of pm_number_of an_number_of cd_number_of ct_number_of), sl_number_of⟩) (c_number_of : PySem.W.codeIn K cd_number_of "number_of" = true) (k_number_of : PySem.W.keepIn K (.ref f_number_of) = true)
    (a_law_keys : PySem.W.nsIn K mainGlobals "_law_keys" = some (some (.ref f_law_keys))) (l_law_keys : K.lookup f_law_keys = some ⟨oc_law_keys, od_law_keys, .func (PySem.W.fnOf "_law_keys" "_law_keys" (fnArgs s_law_keys) (fnBody s_law_keys) (fnScope s_law_keys) .none kV_law_keys dc_law_keys pm_law_keys an_law_keys cd_law_keys ct_law_keys), sl_law_keys⟩) (c_law_keys : PySem.W.codeIn K cd_law_keys "_law_keys" = true) (k_law_keys : PySem.W.keepIn K (.ref f_law_keys) = true)
    (a_law_spoilt : PySem.W.nsIn K mainGlobals "_law_spoilt" = some (some (.ref f_law_spoilt))) (l_law_spoilt : K.lookup f_law_spoilt = some ⟨oc_law_spoilt, od_law_spoilt, .func (PySem.W.fnOf "_law_spoilt" "_law_spoilt" (fnArgs s_law_spoilt) (fnBody s_law_spoilt) (fnScope s_law_spoilt) .none kV_law_spoilt dc_law_spoilt pm_law_spoilt an_law_spoilt cd_law_spoilt ct_law_spoilt), sl_law_spoilt⟩) (c_law_spoilt : PySem.W.codeIn K cd_law_spoilt "_law_spoilt" = true) (k_law_spoilt : PySem.W.keepIn K (.ref f_law_spoilt) = true)
    (a_law_word : PySem.W.nsIn K mainGlobals "_law_word" = some (some (.ref f_law_word))) (l_law_word : K.lookup f_law_word = some ⟨oc_law_word, od_law_word, .func (PySem.W.fnOf "_law_word" "_law_word" (fnArgs s_law_word) (fnBody s_law_word) (fnScope s_law_word) .none kV_law_word dc_law_word pm_law_word an_law_word cd_law_word ct_law_word), sl_law_word⟩) (c_law_word : PySem.W.codeIn K cd_law_word "_law_word" = true) (k_law_word : PySem.W.keepIn K (.ref f_law_word) = true)
    (a_law_is_name : PySem.W.nsIn K mainGlobals "_law_is_name" = some (some (.ref f_law_is_name))) (l_law_is_name : K.lookup f_law_is_name = some ⟨oc_law_is_name, od_law_is_name, .func (PySem.W.fnOf "_law_is_name" "_law_is_name" (fnArgs s_law_is_name) (fnBody s_law_is_name) (fnScope s_law_is_name) .none kV_law_is_name dc_law_is_name pm_law_is_name an_law_is_name cd_law_is_name ct_law_is_name), sl_law_is_name⟩) (c_law_is_name : PySem.W.codeIn K cd_law_is_name "_law_is_name" = true) (k_law_is_name : PySem.W.keepIn K (.ref f_law_is_name) = true)
    (a_law_number_of : PySem.W.nsIn K mainGlobals "_law_number_of" = some (some (.ref f_law_number_of))) (l_law_number_of : K.lookup f_law_number_of = some ⟨oc_law_number_of, od_law_number_of, .func (PySem.W.fnOf "_law_number_of" "_law_number_of" (fnArgs s_law_number_of) (fnBody s_law_number_of) (fnScope s_law_number_of) .none kV_law_number_of dc_law_number_of pm_law_number_of an_law_number_of cd_law_number_of ct_law_number_of), sl_law_number_of⟩) (c_law_number_of : PySem.W.codeIn K cd_law_number_of "_law_number_of" = true) (k_law_number_of : PySem.W.keepIn K (.ref f_law_number_of) = true)
    (a_law : PySem.W.nsIn K mainGlobals "law" = some (some (.ref f_law))) (l_law : K.lookup f_law = some ⟨oc_law, od_law, .func (PySem.W.fnOf "law" "law" (fnArgs s_law) (fnBody s_law) (fnScope s_law) .none kV_law dc_law pm_law an_law cd_law ct_law), sl_law⟩) (c_law : PySem.W.codeIn K cd_law "law" = true) (k_law : PySem.W.keepIn K (.ref f_law) = true)
    (z_LETTERS : PySem.W.nsIn K mainGlobals "LETTERS" = some (some (.str "abcdefghijklmnopqrstuvwxyz" t_LETTERS)))
    (z_DIGITS : PySem.W.nsIn K mainGlobals "DIGITS" = some (some (.str "0123456789" t_DIGITS)))
    (z_LONGEST_NAME : PySem.W.nsIn K mainGlobals "LONGEST_NAME" = some (some (.int 12 t_LONGEST_NAME)))
    (z_GREATEST : PySem.W.nsIn K mainGlobals "GREATEST" = some (some (.int 65535 t_GREATEST)))
    (z_KEYWORDS : PySem.W.nsIn K mainGlobals "KEYWORDS" = some (some (.ref T_KEYWORDS)))
    (lT_KEYWORDS : K.lookup T_KEYWORDS = some ⟨.type "tuple", d_KEYWORDS, .seq #[.str "option" t_KEYWORDS0, .str "on" t_KEYWORDS1, .str "off" t_KEYWORDS2, .str "var" t_KEYWORDS3, .str "round" t_KEYWORDS4, .str "end" t_KEYWORDS5, .str "set" t_KEYWORDS6, .str "if" t_KEYWORDS7, .str "else" t_KEYWORDS8, .str "when" t_KEYWORDS9, .str "draw" t_KEYWORDS10, .str "first" t_KEYWORDS11, .str "second" t_KEYWORDS12, .str "show" t_KEYWORDS13, .str "both" t_KEYWORDS14, .str "pay" t_KEYWORDS15, .str "take" t_KEYWORDS16, .str "pick" t_KEYWORDS17, .str "mod" t_KEYWORDS18, .str "player" t_KEYWORDS19, .str "keep" t_KEYWORDS20, .str "lot" t_KEYWORDS21, .str "while" t_KEYWORDS22, .str "answer" t_KEYWORDS23, .str "view" t_KEYWORDS24, .str "long" t_KEYWORDS25] nn_KEYWORDS, sl_KEYWORDS⟩)
    (z_bool : PySem.W.nsIn K mainGlobals "bool" = some none)
    (z_int : PySem.W.nsIn K mainGlobals "int" = some none)
    (z_isinstance : PySem.W.nsIn K mainGlobals "isinstance" = some none)
    (z_len : PySem.W.nsIn K mainGlobals "len" = some none)
    (z_list : PySem.W.nsIn K mainGlobals "list" = some none)
    (z_min : PySem.W.nsIn K mainGlobals "min" = some none)
    (z_ord : PySem.W.nsIn K mainGlobals "ord" = some none)
    (z_range : PySem.W.nsIn K mainGlobals "range" = some none)
    (z_str : PySem.W.nsIn K mainGlobals "str" = some none)
    (z_tuple : PySem.W.nsIn K mainGlobals "tuple" = some none)
    : ∃ fd : FuncData, (∀ (s : Shared) (v : Value), BindsTo s fd ⟨[v], []⟩ [("script", v)]) ∧ ∀ base : Heap, K.In base → base.Ns mainGlobals mg → FnOk l.prog w K mg base C8.CX0 5 fa fd ["script"] (sp_law K) := by
  have e := hfa.symm.trans (PySem.W.mg_of X G a_law)
  cases e
  have T : Txt K mg T_KEYWORDS := ⟨PySem.W.mg_none_of X G z_bool, PySem.W.mg_none_of X G z_int, PySem.W.mg_none_of X G z_isinstance, PySem.W.mg_none_of X G z_len, PySem.W.mg_none_of X G z_list, PySem.W.mg_none_of X G z_min, PySem.W.mg_none_of X G z_ord, PySem.W.mg_none_of X G z_range, PySem.W.mg_none_of X G z_str, PySem.W.mg_none_of X G z_tuple, ⟨_, PySem.W.mg_of X G z_LETTERS, ⟨_, rfl⟩⟩, ⟨_, PySem.W.mg_of X G z_DIGITS, ⟨_, rfl⟩⟩, ⟨_, PySem.W.mg_of X G z_LONGEST_NAME, ⟨_, rfl⟩⟩, ⟨_, PySem.W.mg_of X G z_GREATEST, ⟨_, rfl⟩⟩, ⟨_, PySem.W.mg_of X G z_KEYWORDS, rfl⟩, fun H => .inr ⟨_, _, _, lT_KEYWORDS, rfl, rfl, by show 26 ≤ sizeLine; decide, .cons ⟨_, rfl⟩ (.cons ⟨_, rfl⟩ (.cons ⟨_, rfl⟩ (.cons ⟨_, rfl⟩ (.cons ⟨_, rfl⟩ (.cons ⟨_, rfl⟩ (.cons ⟨_, rfl⟩ (.cons ⟨_, rfl⟩ (.cons ⟨_, rfl⟩ (.cons ⟨_, rfl⟩ (.cons ⟨_, rfl⟩ (.cons ⟨_, rfl⟩ (.cons ⟨_, rfl⟩ (.cons ⟨_, rfl⟩ (.cons ⟨_, rfl⟩ (.cons ⟨_, rfl⟩ (.cons ⟨_, rfl⟩ (.cons ⟨_, rfl⟩ (.cons ⟨_, rfl⟩ (.cons ⟨_, rfl⟩ (.cons ⟨_, rfl⟩ (.cons ⟨_, rfl⟩ (.cons ⟨_, rfl⟩ (.cons ⟨_, rfl⟩ (.cons ⟨_, rfl⟩ (.cons ⟨_, rfl⟩ (.nil))))))))))))))))))))))))))⟩, True.intro⟩
  have D_law_pool : C8.Def K mg "_law_pool" s_law_pool _ _ := ⟨⟨⟨_, _, _, _, _, _, _, _, _, _, rfl, l_law_pool, c_law_pool⟩⟩, PySem.W.mg_of X G a_law_pool, k_law_pool⟩
  have b_law_pool : Binds K _ ["script", "budget"] [] := C8.Fun.binds D_law_pool.fn rfl fun _ _ _ _ _ _ us hl => match us, hl with | [_, _], _ => rfl
  have D_law_draw : C8.Def K mg "_law_draw" s_law_draw _ _ := ⟨⟨⟨_, _, _, _, _, _, _, _, _, _, rfl, l_law_draw, c_law_draw⟩⟩, PySem.W.mg_of X G a_law_draw, k_law_draw⟩
  have b_law_draw : Binds K _ ["pool", "size"] [] := C8.Fun.binds D_law_draw.fn rfl fun _ _ _ _ _ _ us hl => match us, hl with | [_, _], _ => rfl
  have D_law_few : C8.Def K mg "_law_few" s_law_few _ _ := ⟨⟨⟨_, _, _, _, _, _, _, _, _, _, rfl, l_law_few, c_law_few⟩⟩, PySem.W.mg_of X G a_law_few, k_law_few⟩
  have b_law_few : Binds K _ ["pool", "most"] [] := C8.Fun.binds D_law_few.fn rfl fun _ _ _ _ _ _ us hl => match us, hl with | [_, _], _ => rfl
  have D_law_same : C8.Def K mg "_law_same" s_law_same _ _ := ⟨⟨⟨_, _, _, _, _, _, _, _, _, _, rfl, l_law_same, c_law_same⟩⟩, PySem.W.mg_of X G a_law_same, k_law_same⟩
  have b_law_same : Binds K _ ["actual", "due"] [] := C8.Fun.binds D_law_same.fn rfl fun _ _ _ _ _ _ us hl => match us, hl with | [_, _], _ => rfl
  have D_is_name : C8.Def K mg "is_name" s_is_name _ _ := ⟨⟨⟨_, _, _, _, _, _, _, _, _, _, rfl, l_is_name, c_is_name⟩⟩, PySem.W.mg_of X G a_is_name, k_is_name⟩
  have b_is_name : Binds K _ ["word"] [] := C8.Fun.binds D_is_name.fn rfl fun _ _ _ _ _ _ us hl => match us, hl with | [_], _ => rfl
  have D_number_of : C8.Def K mg "number_of" s_number_of _ _ := ⟨⟨⟨_, _, _, _, _, _, _, _, _, _, rfl, l_number_of, c_number_of⟩⟩, PySem.W.mg_of X G a_number_of, k_number_of⟩
  have b_number_of : Binds K _ ["word"] [] := C8.Fun.binds D_number_of.fn rfl fun _ _ _ _ _ _ us hl => match us, hl with | [_], _ => rfl
  have D_law_keys : C8.Def K mg "_law_keys" s_law_keys _ _ := ⟨⟨⟨_, _, _, _, _, _, _, _, _, _, rfl, l_law_keys, c_law_keys⟩⟩, PySem.W.mg_of X G a_law_keys, k_law_keys⟩
  have b_law_keys : Binds K _ [] [] := C8.Fun.binds D_law_keys.fn rfl fun _ _ _ _ _ _ us hl => match us, hl with | [], _ => rfl
  have D_law_spoilt : C8.Def K mg "_law_spoilt" s_law_spoilt _ _ := ⟨⟨⟨_, _, _, _, _, _, _, _, _, _, rfl, l_law_spoilt, c_law_spoilt⟩⟩, PySem.W.mg_of X G a_law_spoilt, k_law_spoilt⟩
  have b_law_spoilt : Binds K _ ["pool", "word"] [] := C8.Fun.binds D_law_spoilt.fn rfl fun _ _ _ _ _ _ us hl => match us, hl with | [_, _], _ => rfl
  have D_law_word : C8.Def K mg "_law_word" s_law_word _ _ := ⟨⟨⟨_, _, _, _, _, _, _, _, _, _, rfl, l_law_word, c_law_word⟩⟩, PySem.W.mg_of X G a_law_word, k_law_word⟩
  have b_law_word : Binds K _ ["pool"] [] := C8.Fun.binds D_law_word.fn rfl fun _ _ _ _ _ _ us hl => match us, hl with | [_], _ => rfl
  have D_law_is_name : C8.Def K mg "_law_is_name" s_law_is_name _ _ := ⟨⟨⟨_, _, _, _, _, _, _, _, _, _, rfl, l_law_is_name, c_law_is_name⟩⟩, PySem.W.mg_of X G a_law_is_name, k_law_is_name⟩
  have b_law_is_name : Binds K _ ["word"] [] := C8.Fun.binds D_law_is_name.fn rfl fun _ _ _ _ _ _ us hl => match us, hl with | [_], _ => rfl
  have D_law_number_of : C8.Def K mg "_law_number_of" s_law_number_of _ _ := ⟨⟨⟨_, _, _, _, _, _, _, _, _, _, rfl, l_law_number_of, c_law_number_of⟩⟩, PySem.W.mg_of X G a_law_number_of, k_law_number_of⟩
  have b_law_number_of : Binds K _ ["word"] [] := C8.Fun.binds D_law_number_of.fn rfl fun _ _ _ _ _ _ us hl => match us, hl with | [_], _ => rfl
  have F_law : C8.Fun K "law" "law" s_law _ _ := ⟨⟨_, _, _, _, _, _, _, _, _, _, rfl, l_law, c_law⟩⟩
  refine ⟨PySem.W.fnOf "law" "law" (fnArgs s_law) (fnBody s_law) (fnScope s_law) .none kV_law dc_law pm_law an_law cd_law ct_law, fun s v => .of_eq rfl, fun base _ _ => ?_⟩
  have c_law_pool := ok_law_pool (P := l.prog) (w := w) (base := base) D_law_pool b_law_pool T
  have c_law_draw := ok_law_draw (P := l.prog) (w := w) (base := base) D_law_draw b_law_draw T
  have c_law_few := ok_law_few D_law_few b_law_few T c_law_draw
  have c_law_same0 := ok_law_same0 (P := l.prog) (w := w) (base := base) D_law_same b_law_same
  have c_law_same := ok_law_same D_law_same b_law_same T c_law_same0
  have c_is_name := ok_is_name (P := l.prog) (w := w) (base := base) D_is_name b_is_name T
  have c_number_of := ok_number_of (P := l.prog) (w := w) (base := base) D_number_of b_number_of T
  have c_law_number_of := ok_law_number_of (P := l.prog) (w := w) (base := base) D_law_number_of b_law_number_of T
  have c_law_keys := ok_law_keys (P := l.prog) (w := w) (base := base) D_law_keys b_law_keys T
  have c_law_is_name := ok_law_is_name D_law_is_name b_law_is_name T c_law_keys
  have c_law_spoilt := ok_law_spoilt D_law_spoilt b_law_spoilt T c_law_draw c_law_few
  have c_law_word := ok_law_word D_law_word b_law_word T c_law_draw c_law_keys c_law_spoilt
  exact ok_law F_law T c_law_same c_law_pool c_law_word c_is_name c_law_is_name c_number_of c_law_number_of
theorem walk {l : PySem.W.OpenLaw} {q : Program} {loose : List Str} {XP : (Str → Option Value) → Heap → Prop} {YP : World → Heap → Prop} {d : DefRec} {K : Params → PySem.W.Frag} (hn : l.most = some 63) (hdf : d.params.defaults = [])
    (hY : ∀ (w : World) (h : Heap), YP w h → (K w.params).In h)
    (F : ∀ (w : World) (mg : Str → Option Value) (fa : Addr) (h : Heap), (K w.params).In h → h.Ns mainGlobals mg → mg d.name = some (.ref fa) →
      ∃ fd : FuncData, (∀ (s : Shared) (u : Value), BindsTo s fd ⟨[u], []⟩ [("script", u)]) ∧ ∀ base : Heap, (K w.params).In base → base.Ns mainGlobals mg → FnOk l.prog w (K w.params) mg base C8.CX0 5 fa fd ["script"] (sp_law (K w.params))) :
    PySem.W.WalkO q loose XP YP l.row.toRowW d [] (fun f vs => PySem.call f vs) :=
  L2.walk_ofB (n := 63) (k := 5) (x := "script") (CX := fun _ => C8.CX0) (sp := fun w => sp_law (K w.params)) hn (by decide) hdf ⟨rfl, by decide, by decide⟩ hY F (fun _ _ a ns hl hb _ hS => ⟨a, ns, rfl, hS, fun _ => rfl⟩) fun _ _ _ _ _ z => z
end My
open PySem PySem.W PyProof.Rows
set_option maxRecDepth 100000 in
set_option maxHeartbeats 0 in
theorem PySem.Challenge.cw_bothgain_k11_names_and_numbers_holds : PySem.Challenge.rw_bothgain_k11_names_and_numbers.Holds := by
  w_on; o_law; k_head; (case hw => w_witness2)
  k_fill
  refine My.walk (l := PySem.Challenge.rw_bothgain_k11_names_and_numbers) rfl rfl (fun w h Y => PySem.W.kIn_of Y) ?F
  case F =>
    intro w mg fa h KX G hmg
    refine' My.all_mk KX G hmg ?a_law_pool ?l_law_pool ?c_law_pool ?k_law_pool ?a_law_draw ?l_law_draw ?c_law_draw ?k_law_draw ?a_law_few ?l_law_few ?c_law_few ?k_law_few ?a_law_same ?l_law_same ?c_law_same ?k_law_same ?a_is_name ?l_is_name ?c_is_name ?k_is_name ?a_number_of ?l_number_of ?c_number_of ?k_number_of ?a_law_keys ?l_law_keys ?c_law_keys ?k_law_keys ?a_law_spoilt ?l_law_spoilt ?c_law_spoilt ?k_law_spoilt ?a_law_word ?l_law_word ?c_law_word ?k_law_word ?a_law_is_name ?l_law_is_name ?c_law_is_name ?k_law_is_name ?a_law_number_of ?l_law_number_of ?c_law_number_of ?k_law_number_of ?a_law ?l_law ?c_law ?k_law ?z_LETTERS ?z_DIGITS ?z_LONGEST_NAME ?z_GREATEST ?z_KEYWORDS ?lT_KEYWORDS ?z_bool ?z_int ?z_isinstance ?z_len ?z_list ?z_min ?z_ord ?z_range ?z_str ?z_tuple
    (case a_law_pool => k_is)
    (case l_law_pool => k_is)
    (case c_law_pool => k_is)
    (case k_law_pool => k_is)
    (case a_law_draw => k_is)
    (case l_law_draw => k_is)
    (case c_law_draw => k_is)
    (case k_law_draw => k_is)
    (case a_law_few => k_is)
    (case l_law_few => k_is)
    (case c_law_few => k_is)
    (case k_law_few => k_is)
    (case a_law_same => k_is)
    (case l_law_same => k_is)
    (case c_law_same => k_is)
    (case k_law_same => k_is)
    (case a_is_name => k_is)
    (case l_is_name => k_is)
    (case c_is_name => k_is)
    (case k_is_name => k_is)
    (case a_number_of => k_is)
    (case l_number_of => k_is)
    (case c_number_of => k_is)
    (case k_number_of => k_is)
    (case a_law_keys => k_is)
    (case l_law_keys => k_is)
    (case c_law_keys => k_is)
    (case k_law_keys => k_is)
    (case a_law_spoilt => k_is)
    (case l_law_spoilt => k_is)
    (case c_law_spoilt => k_is)
    (case k_law_spoilt => k_is)
    (case a_law_word => k_is)
    (case l_law_word => k_is)
    (case c_law_word => k_is)
    (case k_law_word => k_is)
    (case a_law_is_name => k_is)
    (case l_law_is_name => k_is)
    (case c_law_is_name => k_is)
    (case k_law_is_name => k_is)
    (case a_law_number_of => k_is)
    (case l_law_number_of => k_is)
    (case c_law_number_of => k_is)
    (case k_law_number_of => k_is)
    (case a_law => k_is)
    (case l_law => k_is)
    (case c_law => k_is)
    (case k_law => k_is)
    (case z_LETTERS => k_is)
    (case z_DIGITS => k_is)
    (case z_LONGEST_NAME => k_is)
    (case z_GREATEST => k_is)
    (case z_KEYWORDS => k_is)
    (case lT_KEYWORDS => k_is)
    (case z_bool => k_is)
    (case z_int => k_is)
    (case z_isinstance => k_is)
    (case z_len => k_is)
    (case z_list => k_is)
    (case z_min => k_is)
    (case z_ord => k_is)
    (case z_range => k_is)
    (case z_str => k_is)
    (case z_tuple => k_is)

